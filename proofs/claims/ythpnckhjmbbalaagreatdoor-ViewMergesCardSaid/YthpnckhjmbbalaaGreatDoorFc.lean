/- Plain lemmas: rules for walking through code, one for each operation, over any program; an evaluator of closed calls with its soundness; and plain mathematics. No conditions. -/
import Derived.Test.YthpnckhjmbbalaaGreatDoorFb
import Derived.Test.YthpnckhjmbbalaaGreatDoorFa
set_option linter.unusedVariables false
set_option linter.unusedSectionVars false
set_option linter.unusedSimpArgs false
namespace Go.Sx
open Go
theorem abB{γ:Type}{m m2:List (Int×γ)}{a:Int}:gV (m++m2) a=if gV m a=none then gV m2 a else gV m a:=by
 induction m with
 | nil=>simp[gV]
 | cons p m c =>
  obtain⟨b,y⟩:=p
  simp only[oD,gV]
  split
  . simp
  . exact c
structure pH (im0 dn todo dn2 im2:IM):Prop where
 perm:(dn++todo).Perm im0
 same:dn2.map (fun p=>(p.1,p.2.2))=dn.map (fun p=>(p.1,p.2.2))
 keys:(im2.map Prod.fst).Nodup
 get:∀ a,gV im2 a=if gV dn2 a=none then gV im0 a else gV dn2 a
theorem pH.start{b:IM}(h:(b.map Prod.fst).Nodup):pH b [] b [] b:=⟨List.Perm.refl _,rfl,h,fun a=>by simp[gV]⟩
theorem pH.Qf{c a todo b im2:IM}(h:pH c a todo b im2):b.map Prod.fst=a.map Prod.fst:=by
 have:=congrArg (List.map Prod.fst) h.same
 rw[List.map_map,List.map_map]at this
 exact this
theorem pH.nodup{b a todo c im2:IM}(h:pH b a todo c im2)(d:(b.map Prod.fst).Nodup):((a++todo).map Prod.fst).Nodup:=((h.perm.map Prod.fst).nodup_iff).2 d
theorem pH.next{d b todo e c im2:IM}{p:Int×(Value×List Nat)}(h:pH d b todo c im2)(g:(d.map Prod.fst).Nodup)(hp:todo.Perm (p :: e))(v:Value) :
 pH d (b++[p]) e (c++[(p.1,(v,p.2.2))]) (gx im2 p.1 (v,p.2.2)):=by
 have j:(b++[p]++e).Perm (b++todo):=by
  rw[nu]
  exact(hp.symm.append_left b)
 have f:=h.nodup g
 have i:gV c p.1=none:=by
  rw[FB,h.Qf]
  intro hm
  rw[tq,zu]at f
  exact f.2.2 _ hm p.1 (zz.2 ⟨p,hp.mem_iff.2 s_,rfl⟩) rfl
 refine⟨j.trans h.perm,?_,wL h.keys _ _,fun a=>?_⟩
 . rw[tq,tq,h.same]
   rfl
 . rw[wG,abB,h.get]
   by_cases ha:p.1=a
   . subst ha
     simp[i,gV]
   . simp only[if_neg ha,gV]
     split<;>simp_all
theorem pH.at{a b todo f c im2:IM}{p:Int×(Value×List Nat)}(h:pH a b todo c im2)(d:(a.map Prod.fst).Nodup)(hp:todo.Perm (p :: f)):(fT a p.1).2=p.2.2:=by
 have e:(p.1,p.2)∈a:=h.perm.mem_iff.1 (xu _ (hp.mem_iff.2 s_))
 unfold fT
 rw[J3 d e]
 rfl
theorem QY{γ:Type}{m m2:List (Int×γ)}(hp:m.Perm m2)(h:(m.map Prod.fst).Nodup)(a:Int):gV m a=gV m2 a:=by
 have b:(m2.map Prod.fst).Nodup:=((hp.map Prod.fst).nodup_iff).1 h
 cases hm:gV m a with
 | some x=>exact(J3 b (hp.mem_iff.1 (J2 hm))).symm
 | none =>
  rw[FB]at hm
  symm
  rw[FB]
  intro c
  exact hm (((hp.map Prod.fst).mem_iff).2 c)
theorem RI{γ:Type}:∀ {m m2:List (Int×γ)},(m.map Prod.fst).Nodup->(m2.map Prod.fst).Nodup->(∀ a,gV m a=gV m2 a)->m.Perm m2
 | [],m2,_,_,h=>by
  cases m2 with
  | nil=>exact List.Perm.refl _
  | cons p m2=>have:=h p.1;obtain⟨b,y⟩:=p;simp[gV]at this
 | p :: m,m2,h1,h2,h=>by
  obtain⟨b,y⟩:=p
  have hb:gV m2 b=some y:=by rw[<-h b];simp[gV]
  have f:=FC hb
  have d:=Ke h2 b
  simp only[kr,zx]at h1
  refine(List.Perm.cons _ (RI h1.2 d fun a=>?_)).trans f.symm
  rw[FA h2]
  have c:=h a
  simp only[gV]at c
  split
  . rename_i e
    subst e
    exact FB.2 h1.1
  . rename_i e
    rw[if_neg e]at c
    exact c
theorem QZ{d c:IM}(h:c.map (fun p=>(p.1,p.2.2))=d.map (fun p=>(p.1,p.2.2)))(a:Int):(gV c a=none↔gV d a=none)/\(fT c a).2=(fT d a).2:=by
 induction d generalizing c with
 | nil =>
  cases c with
  | nil=>exact⟨Iff.rfl,rfl⟩
  | cons q c=>simp at h
 | cons p d g =>
  cases c with
  | nil=>simp at h
  | cons q c =>
   simp only[kr,List.cons.injEq,Prod.mk.injEq]at h
   obtain⟨⟨e1,e⟩,f⟩:=h
   obtain⟨b,v,xs⟩:=p
   obtain⟨b2,v2,i⟩:=q
   simp only at e1 e
   subst e1 e
   have:=g f
   unfold fT at this ⊢
   simp only[gV]
   split
   . simp
   . exact this
theorem pH.fin{b d todo e im2:IM}(h:pH b d todo e im2)(j:(b.map Prod.fst).Nodup)(n:todo=[]) :
 d.Perm b/\e.Perm im2/\(im2.map Prod.fst).Nodup/\∀ a,(gV im2 a=none↔gV b a=none)/\(fT im2 a).2=(fT b a).2:=by
 subst n
 have hp:d.Perm b:=by simpa using h.perm
 have f:(d.map Prod.fst).Nodup:=((hp.map Prod.fst).nodup_iff).2 j
 have m:(e.map Prod.fst).Nodup:=by rw[h.Qf];exact f
 have g:∀ a,gV e a=gV im2 a:=by
  intro a
  rw[h.get]
  split
  . rename_i i
    rw[i]
    have c:=((QZ h.same a).1).1 i
    rw[QY hp f a]at c
    exact c.symm
  . rfl
 refine⟨hp,RI m h.keys g,h.keys,fun a=>?_⟩
 have c:=QZ h.same a
 have k:=QY hp f a
 have l:=g a
 unfold fT at c ⊢
 rw[<-l,<-k]
 exact c
theorem Dd{v:Value}{e:TypeId}{cf:Nat->List Value}(b:∀ x:Nat,cf x=[.int .i64 (x:Int)])(ds:List Nat):fM cf v e 1 ds=ir .i64 v e (gB ds):=by
 have a:ds.flatMap cf=(gB ds).map (.int .i64):=by
  unfold gB
  induction ds with
  | nil=>rfl
  | cons d ds c=>simp[b,c]
 show row v e 1 ds.length _=row v e 1 (gB ds).length _
 rw[a,show (gB ds).length=ds.length by simp[gB]]
theorem St.ad2{bs:List (World×List Nat)}{L:List fS}{w:World}{v:Value}{e:TypeId}{ds:List Nat}{cf:Nat->List Value}(a:∀ x:Nat,cf x=[.int .i64 (x:Int)])(h:St bs (ir .i64 v e (gB ds) :: L) w):St bs (fM cf v e 1 ds :: L) w:=by
 rw[Dd a]
 exact h
theorem St.SA {bs:List (World×List Nat)}{L:List fS}{w:World}{v:Value}{e:TypeId}{ds:List Nat}{cf:Nat->List Value}(a:∀ x:Nat,cf x=[.int .i64 (x:Int)])(h:St bs (fM cf v e 1 ds :: L) w):St bs (ir .i64 v e (gB ds) :: L) w:=by
 rw[Dd a]at h
 exact h
end Go.Sx
namespace Go.Sx
open Go
def lW{α:Type}(cf:α->List Value)(e:TypeId)(l:List (Value×List α)):fS:=gq (l.map fun p=>fM cf p.1 e 1 p.2)
abbrev yA(e:TypeId)(l:List (Value×List Nat)):fS:=lW fW e l
theorem set_perm{α:Type}:∀ (l:List α) (i:Nat) (x:α),i<l.length->(l.set i x).Perm (x :: l.eraseIdx i)
 | y :: l,0,x,_=>List.Perm.refl _
 | y :: l,i+1,x,h=>((set_perm l i x (by simpa using h)).cons y).trans (List.Perm.swap _ _ _)
 | [],i,x,h=>by simp at h
theorem PJ{α:Type}[Inhabited α]{l:List α}{i:Nat}(h:i<l.length):l.Perm (fJ l i :: l.eraseIdx i):=by
 have a:=set_perm l i (fJ l i) h
 have b:l.set i (fJ l i)=l:=by
  apply nU
  intro j
  rw[vE]
  split
  . rename_i c
    subst c
    exact(gz h).symm
  . rfl
 rwa [b]at a
abbrev kL{α:Type}(p:Value×List α):List Value:=[p.1]
instance {α:Type}:Inhabited (Value×List α):=⟨(.slice none 0 0,[])⟩
section
variable {α:Type} {cf:α->List Value} {bs:List (World×List Nat)} {L:List fS} {w:World} {e:TypeId} {l:List (Value×List α)} {i:Nat}
theorem St.Jx{a:List (Value×List α)}(h:St bs (lW cf e l :: L) w)(hp:l.Perm a):St bs (lW cf e a :: L) w :=
 St.pack _ _ ((St.unpack h).perm ((hp.map _).append_right _))
theorem St.aax{p:Value×List α}(h:St bs (lW cf e (p :: l) :: L) w):St bs (fM cf p.1 e 1 p.2 :: lW cf e l :: L) w:=by
 have a:St bs (([fM cf p.1 e 1 p.2]++l.map fun p=>fM cf p.1 e 1 p.2)++L) w:=St.unpack h
 rw[nu]at a
 have b:=a.perm (L' := (l.map fun p=>fM cf p.1 e 1 p.2)++([fM cf p.1 e 1 p.2]++L)) (by
  rw[<-nu,<-nu]
  exact List.Perm.append_right _ rD)
 exact(St.pack _ _ b).swap
theorem St.Ix{p:Value×List α}(h:St bs (fM cf p.1 e 1 p.2 :: lW cf e l :: L) w):St bs (lW cf e (p :: l) :: L) w:=by
 have a:St bs ((l.map fun p=>fM cf p.1 e 1 p.2)++(fM cf p.1 e 1 p.2 :: L)) w:=St.unpack h.swap
 refine St.pack _ _ (a.perm ?_)
 show List.Perm _ (fM cf p.1 e 1 p.2 :: ((l.map fun p=>fM cf p.1 e 1 p.2)++L))
 exact ur
theorem St.CD(i:Nat)(h:St bs (lW cf e l :: L) w)(hi:i<l.length):St bs (fM cf (fJ l i).1 e 1 (fJ l i).2 :: lW cf e (l.eraseIdx i) :: L) w :=
 (h.Jx (PJ hi)).aax
theorem St.Qj{v:Value}{xs:List α}(h:St bs (fM cf v e 1 xs :: lW cf e (l.eraseIdx i) :: L) w)(hi:i<l.length):St bs (lW cf e (fO l i (fun _=>(v,xs))) :: L) w :=
 (St.Ix (p:=(v,xs)) h).Jx (set_perm l i (v,xs) hi).symm
theorem St.Jw(h:St bs (fM cf (fJ l i).1 e 1 (fJ l i).2 :: lW cf e (l.eraseIdx i) :: L) w)(hi:i<l.length):St bs (lW cf e l :: L) w :=
 (St.Ix (p:=fJ l i) h).Jx (PJ hi).symm
theorem St.aay(h:St bs L w):St bs (lW cf e [] :: L) w:=St.pack [] L h
theorem St.Qi(n:Nat)(h:St bs L w):St bs (lW cf e (List.replicate n (.slice none 0 0,[])) :: L) w:=by
 induction n with
 | zero=>exact h.aay
 | succ n a=>exact St.Ix (p:=(.slice none 0 0,[])) (St.En a e 1)
theorem wA{a b v:Value}(hi:i<l.length)(hv:(fJ l i).1=v):(a :: b :: l.flatMap kL)[2+i]? = some v:=by
 have h:=wm (cf:=kL) (sz:=1) (fun _=>rfl) l i 0 (fJ l i) v (gz hi) (by rw[<-hv];rfl)
 rw[sJ,qD]at h
 rw[Nat.add_comm]
 exact h
theorem Ju{a b v:Value}{xs:List α}(hi:i<l.length):setAt (a :: b :: l.flatMap kL) (2+i) [v]=a :: b :: (fO l i (fun _=>(v,xs))).flatMap kL:=by
 have h:=FV (cf:=kL) (sz:=1) (off:=0) (vs:=[v]) (f:=fun _=>(v,xs)) (fun _=>rfl) hi rfl (zo _)
 rw[sJ,qD]at h
 have c:=SK (a:=[a,b]) (b:=l.flatMap kL) (vs:=[v]) (o:=i)
 rw[h]at c
 exact c
theorem aaj{a b:Value}(hi:i<l.length):2+i+1<=(a :: b :: l.flatMap kL).length:=by
 rw[zh,zh,rU (sz:=1) (fun _=>rfl)]
 omega
end
end Go.Sx
namespace Go.Sx
open Go
def oJ{α:Type}(cf:α->List Value)(sz:Nat)(e:TypeId)(m:List (Int×(Value×List α))):fS:=gq (m.map fun p=>fM cf p.2.1 e sz p.2.2)
section
variable {α:Type} {cf:α->List Value} {bs:List (World×List Nat)} {L:List fS} {w:World} {e:TypeId} {sz:Nat} {m:List (Int×(Value×List α))} {a:Int}
theorem St.Pp{m2:List (Int×(Value×List α))}(h:St bs (oJ cf sz e m :: L) w)(hp:m.Perm m2):St bs (oJ cf sz e m2 :: L) w :=
 St.pack _ _ ((St.unpack h).perm ((hp.map _).append_right _))
theorem St.YB{p:Int×(Value×List α)}(h:St bs (oJ cf sz e (p :: m) :: L) w):St bs (fM cf p.2.1 e sz p.2.2 :: oJ cf sz e m :: L) w:=by
 have a:St bs (([fM cf p.2.1 e sz p.2.2]++m.map fun p=>fM cf p.2.1 e sz p.2.2)++L) w:=St.unpack h
 rw[nu]at a
 have b:=a.perm (L' := (m.map fun p=>fM cf p.2.1 e sz p.2.2)++([fM cf p.2.1 e sz p.2.2]++L)) (by
  rw[<-nu,<-nu]
  exact List.Perm.append_right _ rD)
 exact(St.pack _ _ b).swap
theorem St.V9{p:Int×(Value×List α)}(h:St bs (fM cf p.2.1 e sz p.2.2 :: oJ cf sz e m :: L) w):St bs (oJ cf sz e (p :: m) :: L) w:=by
 have a:St bs ((m.map fun p=>fM cf p.2.1 e sz p.2.2)++(fM cf p.2.1 e sz p.2.2 :: L)) w:=St.unpack h.swap
 refine St.pack _ _ (a.perm ?_)
 show List.Perm _ (fM cf p.2.1 e sz p.2.2 :: ((m.map fun p=>fM cf p.2.1 e sz p.2.2)++L))
 exact ur
theorem St.Pr(a:Int)(h:St bs (oJ cf sz e m :: L) w):St bs (fM cf (fT m a).1 e sz (fT m a).2 :: oJ cf sz e (iJ m a) :: L) w:=by
 unfold fT
 cases hm:gV m a with
 | none =>
  rw[JU hm]
  exact St.En h e sz
 | some x=>exact(h.Pp (FC hm)).YB
theorem St.Pq{v:Value}{xs:List α}(h:St bs (fM cf v e sz xs :: oJ cf sz e (iJ m a) :: L) w):St bs (oJ cf sz e (gx m a (v,xs)) :: L) w :=
 (St.V9 (p:=(a,(v,xs))) h).Pp (CS m a (v,xs)).symm
theorem St.YC(h:St bs L w):St bs (oJ cf sz e ([]:List (Int×(Value×List α))) :: L) w:=St.pack [] L h
end
end Go.Sx
namespace Go.Sx
open Go
structure jK where
 e:Nat
 d:Nat
instance:Inhabited jK:=⟨⟨0,0⟩⟩
def jK.cells(x:jK):List Value:=[.int .i64 x.e,.int .i64 x.d]
abbrev AM:=List (Int×(Value×List jK))
theorem Pt{m:AM}{N:Nat}(h:∀ c,(fT m c).2.length<=N)(a:Int)(v:Value)(x:jK):∀ c,(fT (gx m a (v,(fT m a).2++[x])) c).2.length<=N+1:=by
 intro c
 have d:=h a
 have b:=h c
 unfold fT
 rw[wG]
 split
 . show ((fT m a).2++[x]).length<=_
   rw[zw,zh,zn]
   omega
 . exact Nat.le_succ_of_le b
theorem YF:∀ c,(fT ([]:AM) c).2.length<=0:=fun c=>zo 0
end Go.Sx
namespace Go.Sx
open Go
def qn(a b:Int):Int×Int:=if -9223372036854775808<=a+b/\a+b<=9223372036854775807 then(a+b,0)else(0,7)
theorem Av{a b:Int}(h : -9223372036854775808<=a+b/\a+b<=9223372036854775807):qn a b=(a+b,0):=if_pos h
theorem Nl{a b:Int}(h:¬ (-9223372036854775808<=a+b/\a+b<=9223372036854775807)):qn a b=(0,7):=if_neg h
def rS(win now to:Int):Int:=if to<now then 10 else(qn to win).2
end Go.Sx
namespace Go.Sx
open Go
theorem Fo.top{xs:List Nd}{F:FT}(h:Fo xs F){j:Nat}(f:j≠0)(d:j<xs.length):∃ r,PR (gL (gw xs F)) j r:=by
 obtain⟨m,hd⟩:=h.dep d
 clear d
 induction hd with
 | zero=>exact absurd rfl f
 | @step T q j m c n t k s =>
  have hs:∀ v u,mN (gm xs false T) q v u->gL (gw xs F) v u:=fun v u hp=>⟨(gm xs false T,q),zz.2 ⟨(T,q),c,rfl⟩,hp⟩
  have o:=h.u9 c
  have hm:j∈gm xs false T:=(nk xs false T).mem_iff.2 n
  obtain⟨g, i⟩:∃ z,(gm xs false T).head? = some z:=by
   cases e:gm xs false T with
   | nil=>rw[e]at hm;simp at hm
   | cons z l=>exact⟨z,rfl⟩
  obtain⟨a,b⟩:=PR.Fa i o hs hm
  by_cases hq:q=0
  . exact⟨g, a hq⟩
  . obtain⟨r,p⟩:=s hq
    exact⟨r,b r hq p⟩
theorem Fo.Jt{xs:List Nd}{F:FT}(h:Fo xs F){j:Nat}(b:j≠0)(c:j<xs.length):Joined xs F j j:=by
 obtain⟨r,a⟩:=h.top b c
 exact⟨r,a,a⟩
section
variable {xs ys zs:List Nd} {F R R2:FT} {i j:Nat} {a b:Tr}
theorem Wq(m:Fo xs F)(n:Joined xs F i j)(h:ja xs F ys i a R)(k:ja (jC ys i) ((.nd a i .nil,0) :: R) zs j b R2)(hs:(fJ zs j).size=2):gm zs false (.nd b j .nil)=[i,j]:=by
 obtain⟨r,hi,o⟩:=n
 have d:=RF h.tO k (h.Qx o hi fun v u q f g=>m.nO f g)
 have hv:=(k.fo.rep (.nd b j .nil,0) s_).2.2.1.size
 have e:=(nk zs false (.nd b j .nil)).length_eq
 have p:=k.seq
 rw[p]at e d ⊢
 have e1:((b.mem++j :: Tr.nil.mem).length:Int)=2:=by rw[<-hv];exact hs
 have c:(gm zs false b++[j]).length=2:=by
  rw[e]
  show (b.mem++j :: Tr.nil.mem).length=2
  omega
 cases hb:gm zs false b with
 | nil=>rw[hb]at c;simp at c
 | cons x l =>
  rw[hb]at c d
  cases l with
  | cons y l=>simp at c
  | nil =>
   simp at d
   subst d
   rfl
theorem aaV(f:Fo xs F)(h:ja xs F ys i a R)(k:ja (jC ys i) ((.nd a i .nil,0) :: R) zs j b R2)(t:¬ Joined xs F i j)(q:j≠0)(s:j<xs.length)(o:i≠0)(p:i<xs.length):∃ n,R2.Perm ((.nd a i .nil,0) :: n):=by
 rcases k.Bk (.nd a i .nil) s_ with ⟨c,_⟩|c
 . exact RH c
 . exfalso
   rw[h.tO.head]at c
   obtain⟨r,g⟩:=f.top q s
   obtain⟨m, l⟩:=f.top o p
   have w:r≠m := fun e=>t ⟨m, l, e▸g⟩
   obtain⟨x,p2⟩:=h.Qy g l w fun v u z c d=>f.nO c d
   have y:=k.top c (v:=j) (by simp[Tr.mem])
   have e:r=i:=PR.unique (P:=gL (gw (jC ys i) ((.nd a i .nil,0) :: R))) (fun v u z c d=>h.tO.fo.nO c d) x y
   exact p2 (by rw[e];simp[Tr.mem])
end
theorem gf.lead{xs:List Nd}(h:gf xs){i:Nat}(hi:i<xs.length):gf (jC xs i):=h.iN hi fun x a b c d e=>⟨a,b,c,d,e⟩
theorem sW(xs:List Nd)(i:Nat):(jC xs i).length=xs.length:=gC
end Go.Sx
namespace Go.Sx
open Go
theorem Rh{n k:Nat}(a:n<=1000000):gf (lH n k):=by
 have key:∀ i,i<n+1->fJ (lH n k) i=wJ i\/fJ (lH n k) i=uU:=fun i hi=>by
  rw[yL hi]
  split
  . exact .inl rfl
  . exact .inr rfl
 refine⟨fun i hi=>?_,fun i hi=>?_,fun i hi=>?_,fun i hi=>?_,fun i hi=>?_⟩<;>rw[sZ]at * <;> rcases key i hi with e|e<;>rw[e]
 all_goals first
  | exact(by decide:gZ .i64 0)
  | (simp only[wJ,uU];omega)
  | (show (-9223372036854775808:Int)<=0/\(0:Int)<=9223372036854775807;omega)
end Go.Sx
namespace Go.Sx
open Go
def Ad(S:rI)(i j:Nat):Prop:=i≠0/\j≠0/\(gL S i j\/gL S j i)
theorem Ad.symm{S:rI}{i j:Nat}:Ad S i j->Ad S j i:=fun⟨a,b,c⟩=>⟨b,a,c.symm⟩
theorem Ad.congr{S a : rI}(h:∀ v u,gL S v u↔gL a v u){i j:Nat}:Ad S i j↔Ad a i j:=by unfold Ad;rw[h,h]
theorem C5{s:List Nat}{v u:Nat}(a:u≠0):mN s 0 v u↔∃ s1 s2,s=s1++u :: v :: s2:=by
 constructor
 . rintro⟨s1,s2,rfl,e⟩
   cases hl:s1.getLast? with
   | none=>rw[hl]at e;exact absurd e a
   | some x =>
    rw[hl]at e
    obtain⟨t,rfl⟩:=LR.1 hl
    exact⟨t,s2,by rw[show u=x from e];simp⟩
 . rintro⟨s1,s2,rfl⟩
   exact⟨s1++[u],s2,s_,s_⟩
theorem Rn{s:List Nat}{u v:Nat}:(∃ s1 s2,s.reverse=s1++u :: v :: s2)↔∃ s1 s2,s=s1++v :: u :: s2:=by
 constructor
 . rintro⟨s1,s2,e⟩
   have:=congrArg List.reverse e
   simp at this
   exact⟨s2.reverse,s1.reverse,this⟩
 . rintro⟨s1,s2,rfl⟩
   exact⟨s2.reverse,s1.reverse,s_⟩
theorem Ad.rev{s:List Nat}{R:rI}{i j:Nat}:Ad ((s.reverse,0) :: R) i j↔Ad ((s,0) :: R) i j:=by
 unfold Ad
 refine and_congr_right fun hi=>and_congr_right fun a=>?_
 simp only[gL.cons]
 rw[C5 a,C5 hi,C5 a,C5 hi,Rn,Rn]
 exact⟨fun h=>h.elim (fun h=>h.elim (fun h=>.inr (.inl h)) fun h=>.inl (.inr h)) fun h=>h.elim (fun h=>.inl (.inl h)) fun h=>.inr (.inr h),
  fun h=>h.elim (fun h=>h.elim (fun h=>.inr (.inl h)) fun h=>.inl (.inr h)) fun h=>h.elim (fun h=>.inl (.inl h)) fun h=>.inr (.inr h)⟩
section
variable {xs0 xs ys zs:List Nd} {F0 F R R2:FT} {i j:Nat} {a b:Tr}
theorem ja.ad(h:ja xs0 F0 ys i a R)(u v:Nat):Ad (gw ys ((.nd a i .nil,0) :: R)) u v↔Ad (gw xs0 F0) u v:=Ad.congr h.par
theorem ja.JK(h:ja xs0 F0 ys i a R)(u v:Nat):Ad (gw (jC ys i) ((.nd a i .nil,0) :: R)) u v↔Ad (gw xs0 F0) u v:=by
 obtain⟨_,c,b,_⟩:=yE h
 have d:gw (jC ys i) ((.nd a i .nil,0) :: R)=((gm ys false (.nd a i .nil)).reverse,0) :: gw ys R:=by
  simp only[gw,kr]at b ⊢;rw[c,b]
 rw[d,Ad.rev]
 exact h.ad u v
theorem DU.par(h:DU ys i a R):gL (gw ys ((.nd a i .nil,0) :: R)) i 0:=by
 obtain⟨l,b⟩:∃ l,gm ys false (.nd a i .nil)=i :: l:=by
  have:=h.head
  cases e:gm ys false (.nd a i .nil)with
  | nil=>rw[e]at this;simp at this
  | cons x l=>rw[e]at this;simp at this;exact⟨l,by rw[this]⟩
 exact⟨(gm ys false (.nd a i .nil),0),by simp[gw],[],l,by rw[b];rfl,rfl⟩
theorem UM(h:ja xs F ys i a R)(k:ja (jC ys i) ((.nd a i .nil,0) :: R) zs j b R2)(l:Ad (gw xs F) i j):gm zs false (.nd b j .nil)=[i,j]:=by
 obtain⟨i0,p,hp⟩:=(h.JK i j).2 l
 have d:=h.tO
 have g:=d.par
 have r:gL (gw (jC ys i) ((.nd a i .nil,0) :: R)) j i:=hp.resolve_left fun q=>p (d.fo.nO q g)
 have u:=(k.par j i).2 r
 have t:=(k.par i 0).2 g
 have o:gL (gw zs ((.nd b j .nil,0) :: R2)) j ((gm zs false b).getLast?.getD 0):=⟨(gm zs false (.nd b j .nil),0),by simp[gw],gm zs false b,[],k.seq,rfl⟩
 have c:=k.fo.nO o u
 have m:(gm zs false b).getLast? = some i:=by
  cases d:(gm zs false b).getLast? with
  | none=>rw[d]at c;exact absurd c.symm i0
  | some x=>rw[d]at c;simp only[zS]at c;rw[c]
 obtain⟨s,f⟩:=LR.1 m
 have hv:gL (gw zs ((.nd b j .nil,0) :: R2)) i (s.getLast?.getD 0):=⟨(gm zs false (.nd b j .nil),0),by simp[gw],s,[j],by rw[k.seq,f];simp,rfl⟩
 have e:=k.fo.nO hv t
 have n:s=[]:=by
  cases hl2:s.getLast? with
  | none=>exact G6.1 hl2
  | some x =>
   rw[hl2]at e
   simp only[zS]at e
   exact absurd e (k.fo.u9 (T:=.nd b j .nil) (q:=0) s_ x (by rw[k.seq,f];simp[BA hl2]))
 rw[k.seq,f,n]
 rfl
theorem UL(h:ja xs F ys i a R)(k:ja (jC ys i) ((.nd a i .nil,0) :: R) zs j b R2)(e:Ad (gw xs F) i j):(fJ zs j).size=2:=by
 have d:=UM h k e
 have hv:=(k.fo.rep (.nd b j .nil,0) s_).2.2.1.size
 have c:=(nk zs false (.nd b j .nil)).length_eq
 rw[d]at c
 have:(b.mem++j :: Tr.nil.mem).length=2:=c.symm
 rw[hv,this]
 rfl
theorem Si{xs:List Nd}{i k:Nat}(hi:i<xs.length):lU xs (lQ xs i k) i:=by
 unfold lQ
 have key:∀ (y:List Nd),i<y.length->∀ (f:Nd->Nd),(∀ x,∃ s t g,f x={ x with size:=s,total:=t,first:=g })->lU y (fO y i f) i:=fun y h f c=>by
  obtain⟨s,t,g,e⟩:=c (fJ y i)
  exact⟨gC,fun j d=>jQ (fun e=>d e.symm),s,t,g,by rw[jU h,e]⟩
 split
 . exact .refl _ _
 . have b:=key xs hi (fun x=>{ x with size:=IntKind.i64.wrap (x.size+(fJ xs k).size) }) fun x=>⟨_,_,_,rfl⟩
   have a:=b.trans (key _ (by rw[gC];exact hi) (fun x=>{ x with total:=IntKind.i64.wrap (x.total+(fJ (fO xs i (fun x=>{ x with size:=IntKind.i64.wrap (x.size+(fJ xs k).size) })) k).total) }) fun x=>⟨_,_,_,rfl⟩)
   dsimp only
   split
   . exact a.trans (key _ (by rw[gC,gC];exact hi) _ fun x=>⟨_,_,_,rfl⟩)
   . exact a
theorem KB{xs:List Nd}{i:Nat}(hi:i<xs.length):lU xs (iG xs i) i:=by
 unfold iG
 have b:lU xs (fO xs i (fun x=>{ x with size:=1,first:=i,total:=IntKind.i64.wrap (1+x.iL) })) i:=⟨gC,fun j c=>jQ (fun e=>c e.symm),_,_,_,jU hi⟩
 have a:=b.trans (Si (k:=(fJ xs i).k0) (by rw[gC];exact hi))
 exact a.trans (Si (by rw[a.len];exact hi))
theorem lU.fk{xs ys:List Nd}(h:lU xs ys i)(k:Nat):(fJ ys k).flip=(fJ xs k).flip/\(fJ ys k).key=(fJ xs k).key:=by
 by_cases e:k=i
 . subst e
   obtain⟨s,t,f,e⟩:=h.here
   rw[e]
   exact⟨rfl,rfl⟩
 . rw[h.other k e]
   exact⟨rfl,rfl⟩
theorem Gz{xs:List Nd}{f:Nd->Nd}(hi:i<xs.length)(a:∀ x,(f x).flip=x.flip/\(f x).key=x.key)(k:Nat):(fJ (fO xs i f) k).flip=(fJ xs k).flip/\(fJ (fO xs i f) k).key=(fJ xs k).key:=by
 by_cases e:i=k
 . subst e
   rw[jU hi]
   exact a _
 . rw[jQ e]
   exact⟨rfl,rfl⟩
theorem QB{zs:List Nd}{a b:Nat}(g:a<zs.length)(hb:b<zs.length)(k:Nat):(fJ (lF zs a b) k).flip=(fJ zs k).flip/\(fJ (lF zs a b) k).key=(fJ zs k).key:=by
 unfold lF
 have c:=KB (xs:=fO (fO zs a (fun x=>{ x with up:=b })) b (fun x=>{ x with iL:=IntKind.i64.wrap (x.iL+(fJ (fO zs a (fun x=>{ x with up:=b })) a).total) })) (i:=b) (by rw[gC,gC];exact hb)
 have d:=Gz (xs:=fO zs a (fun x=>{ x with up:=b })) (i:=b) (f:=fun x=>{ x with iL:=IntKind.i64.wrap (x.iL+(fJ (fO zs a (fun x=>{ x with up:=b })) a).total) }) (by rw[gC];exact hb) (fun x=>⟨rfl,rfl⟩) k
 have e:=Gz (xs:=zs) (i:=a) (f:=fun x=>{ x with up:=b }) g (fun x=>⟨rfl,rfl⟩) k
 exact⟨(c.fk k).1.trans (d.1.trans e.1),(c.fk k).2.trans (d.2.trans e.2)⟩
theorem TQ{us:List Nd}{i j:Nat}(hi:i<us.length)(d:j<us.length)(k:Nat):(fJ (nT us i j) k).flip=(fJ us k).flip/\(fJ (nT us i j) k).key=(fJ us k).key:=by
 unfold nT
 have a:=KB (xs:=fO (fO us i (fun x=>{ x with up:=0 })) j (fun x=>{ x with k0:=0 })) (i:=j) (by rw[gC,gC];exact d)
 have b:=Gz (xs:=fO us i (fun x=>{ x with up:=0 })) (i:=j) (f:=fun x=>{ x with k0:=0 }) (by rw[gC];exact d) (fun x=>⟨rfl,rfl⟩) k
 have c:=Gz (xs:=us) (i:=i) (f:=fun x=>{ x with up:=0 }) hi (fun x=>⟨rfl,rfl⟩) k
 exact⟨(a.fk k).1.trans (b.1.trans c.1),(a.fk k).2.trans (b.2.trans c.2)⟩
theorem SM{ys:List Nd}{i:Nat}{c:Int}(hi:i<ys.length)(k:Nat):(fJ (ri ys i c) k).flip=(fJ ys k).flip/\(fJ (ri ys i c) k).key=if k=i then c else(fJ ys k).key:=by
 unfold ri
 have a:=KB (xs:=fO ys i (fun x=>{ x with key:=c })) (i:=i) (by rw[gC];exact hi)
 refine⟨(a.fk k).1.trans ?_,(a.fk k).2.trans ?_⟩
 all_goals
  by_cases e:k=i
  . subst e
    simp[jU hi]
  . simp[jQ (fun h=>e h.symm:i≠k),e]
theorem aaR{d:FT}(h:Fo zs ((.nd b j .nil,0) :: (.nd a i .nil,0) :: d))(hd:(gm zs false (.nd a i .nil)).head? = some i)(u v:Nat) :
 Ad (gw (lF zs i j) ((.nd b j .nil,0) :: (.nd a i .nil,j) :: d)) u v↔Ad (gw zs ((.nd b j .nil,0) :: (.nd a i .nil,0) :: d)) u v\/(u=i/\v=j)\/(u=j/\v=i):=by
 have o:=h.rep (.nd b j .nil,0) s_
 have n:=h.rep (.nd a i .nil,0) s_
 have w:=fun k=>(QB (zs:=zs) (a:=i) (b:=j) n.1.2 o.1.2 k).1
 have m:∀ t,gm (lF zs i j) false t=gm zs false t:=fun t=>rj fun k _=>w k
 have s:gw (lF zs i j) d=gw zs d:=by
  unfold gw
  exact zN fun e _=>by rw[m]
 obtain⟨l,p⟩:∃ l,gm zs false (.nd a i .nil)=i :: l:=by
  cases e:gm zs false (.nd a i .nil)with
  | nil=>rw[e]at hd;simp at hd
  | cons x l=>rw[e]at hd;simp at hd;exact⟨l,by rw[hd]⟩
 have e1:gw (lF zs i j) ((.nd b j .nil,0) :: (.nd a i .nil,j) :: d)=(gm zs false (.nd b j .nil),0) :: (i :: l,j) :: gw zs d:=by
  show (gm (lF zs i j) false (.nd b j .nil),0) :: (gm (lF zs i j) false (.nd a i .nil),j) :: gw (lF zs i j) d=_
  rw[m,m,p,s]
 have r:gw zs ((.nd b j .nil,0) :: (.nd a i .nil,0) :: d)=(gm zs false (.nd b j .nil),0) :: (i :: l,0) :: gw zs d:=by
  show (gm zs false (.nd b j .nil),0) :: (gm zs false (.nd a i .nil),0) :: gw zs d=_
  rw[p]
 rw[e1,r]
 unfold Ad
 simp only[gL.cons,qt]
 have i0:=n.1.1
 have q:=o.1.1
 constructor
 . rintro⟨f,g,c⟩
   rcases c with (c|(⟨rfl,rfl⟩|c)|c)|(c|(⟨rfl,rfl⟩|c)|c)
   . exact .inl ⟨f,g,.inl (.inl c)⟩
   . exact .inr (.inl ⟨rfl,rfl⟩)
   . exact .inl ⟨f,g,.inl (.inr (.inl (.inr c)))⟩
   . exact .inl ⟨f,g,.inl (.inr (.inr c))⟩
   . exact .inl ⟨f,g,.inr (.inl c)⟩
   . exact .inr (.inr ⟨rfl,rfl⟩)
   . exact .inl ⟨f,g,.inr (.inr (.inl (.inr c)))⟩
   . exact .inl ⟨f,g,.inr (.inr (.inr c))⟩
 . rintro(⟨f,g,c⟩|⟨rfl,rfl⟩|⟨rfl,rfl⟩)
   . refine⟨f,g,?_⟩
     rcases c with (c|(⟨_,c⟩|c)|c)|(c|(⟨_,c⟩|c)|c)
     . exact .inl (.inl c)
     . exact absurd c g
     . exact .inl (.inr (.inl (.inr c)))
     . exact .inl (.inr (.inr c))
     . exact .inr (.inl c)
     . exact absurd c f
     . exact .inr (.inr (.inl (.inr c)))
     . exact .inr (.inr (.inr c))
   . exact⟨i0,q,.inl (.inr (.inl (.inl ⟨rfl,rfl⟩)))⟩
   . exact⟨q,i0,.inr (.inr (.inl (.inl ⟨rfl,rfl⟩)))⟩
theorem Wf{us:List Nd}(h:Fo us ((.nd (.nd .nil i .nil) j .nil,0) :: R))(hs:gm us false (.nd (.nd .nil i .nil) j .nil)=[i,j])(u v:Nat) :
 Ad (gw (nT us i j) ((.nd .nil i .nil,0) :: (.nd .nil j .nil,0) :: R)) u v↔Ad (gw us ((.nd (.nd .nil i .nil) j .nil,0) :: R)) u v/\¬ ((u=i/\v=j)\/(u=j/\v=i)):=by
 have o:=h.rep (.nd (.nd .nil i .nil) j .nil,0) s_
 have r:=fun k=>(TQ (us:=us) (i:=i) (j:=j) o.2.2.2.1.1.2 o.1.2 k).1
 have l:∀ t,gm (nT us i j) false t=gm us false t:=fun t=>rj fun k _=>r k
 have p:gw (nT us i j) R=gw us R:=by
  unfold gw
  exact zN fun e _=>by rw[l]
 have one:∀ k,gm us false (.nd .nil k .nil)=[k]:=fun k=>by simp only[gm];cases (fJ us k).flip<;>rfl
 have e1:gw (nT us i j) ((.nd .nil i .nil,0) :: (.nd .nil j .nil,0) :: R)=([i],0) :: ([j],0) :: gw us R:=by
  show (gm (nT us i j) false (.nd .nil i .nil),0) :: (gm (nT us i j) false (.nd .nil j .nil),0) :: gw (nT us i j) R=_
  rw[l,l,one,one,p]
 have m:gw us ((.nd (.nd .nil i .nil) j .nil,0) :: R)=([i,j],0) :: gw us R:=by
  show (gm us false (.nd (.nd .nil i .nil) j .nil),0) :: gw us R=_
  rw[hs]
 have d:=F9 (xs:=us) h.nodup
 rw[m]at d
 have f:∀ x y,(x=i\/x=j)->¬ gL (gw us R) x y:=fun x y s ⟨e,q,hp⟩=>by
  have b:=tS hp
  simp only[uW,z6,zu]at d
  exact d.2.2 x (by rcases s with rfl|rfl<;>simp) x (qA.2 ⟨e,q,b⟩) rfl
 have w:i≠j:=by
  simp only[uW,z6,zu]at d
  intro e
  subst e
  simp at d
 rw[e1,m]
 unfold Ad
 simp only[gL.cons,qt,C4,or_false]
 constructor
 . rintro⟨b,c,a⟩
   rcases a with (⟨_,a⟩|⟨_,a⟩|a)|(⟨_,a⟩|⟨_,a⟩|a)
   . exact absurd a c
   . exact absurd a c
   . refine⟨⟨b,c,.inl (.inr a)⟩,?_⟩
     rintro(⟨rfl,rfl⟩|⟨rfl,rfl⟩)
     . exact f _ _ (.inl rfl) a
     . exact f _ _ (.inr rfl) a
   . exact absurd a b
   . exact absurd a b
   . refine⟨⟨b,c,.inr (.inr a)⟩,?_⟩
     rintro(⟨rfl,rfl⟩|⟨rfl,rfl⟩)
     . exact f _ _ (.inr rfl) a
     . exact f _ _ (.inl rfl) a
 . rintro⟨⟨b,c,a⟩,n⟩
   refine⟨b,c,?_⟩
   rcases a with ((⟨_,a⟩|⟨a,g⟩)|a)|((⟨_,a⟩|⟨a,g⟩)|a)
   . exact absurd a c
   . exact absurd (.inr ⟨a,g⟩) n
   . exact .inl (.inr (.inr a))
   . exact absurd a b
   . exact absurd (.inl ⟨g,a⟩) n
   . exact .inr (.inr (.inr a))
end
end Go.Sx
namespace Go.Sx
open Go
structure QS where
 iv:Value
 pv:Value
 ps:List (Option Nat)
 fP:List gG
 pl:List Nat
structure QS.ok (n:Nat) (s:QS):Prop where
 hp:Hp n s.fP s.pl
 gK:jy n s.ps s.pl
 ord:Ord s.fP
theorem QS.ok.free{n:Nat}{s:QS}(h:s.ok n){i:Nat}(hi:i<n)(d:∀ e∈s.fP,e.ix≠i):fJ s.pl i=0:=by
 rcases xx (fJ s.pl i)with a|a
 . exact a
 . obtain⟨b,c⟩:=h.hp.of i (fJ s.pl i-1) hi o_
   exact absurd c (d _ (qV.2 ⟨_,b,rfl⟩))
theorem QS.ok.lt{n:Nat}{s:QS}(h:s.ok n){e:gG}(a:e∈s.fP):e.ix<n:=by
 obtain⟨p,hp,rfl⟩:=qV.1 a
 exact h.hp.ix p hp
theorem QS.ok.inj{n:Nat}{s:QS}(h:s.ok n){e f:gG}(a:e∈s.fP)(b:f∈s.fP)(d:e.ix=f.ix):e=f:=by
 obtain⟨p,hp,rfl⟩:=qV.1 a
 obtain⟨q,c,rfl⟩:=qV.1 b
 rw[h.hp.inj hp c d]
structure uw (s0 s:List gG) (ds:List Nat) (now:Int):Prop where
 rest:∀ e,e∈s↔e∈s0/\e.ix∉ds
 Jh:∀ i∈ds,∃ e∈s0,e.ix=i/\e.key<=now
 nd:ds.Nodup
 len:s.length+ds.length=s0.length
theorem uw.start(s:List gG)(now:Int):uw s s [] now:=⟨fun e=>by simp,fun i hi=>by simp at hi,zT,s_⟩
theorem uw.step{s0 s s1:List gG}{ds:List Nat}{now:Int}(h:uw s0 s ds now)(f:0<s.length)(hk:(fJ s 0).key<=now)(hm:∀ e,e∈s1↔e∈s/\e.ix≠(fJ s 0).ix)(k:s1.length+1=s.length):uw s0 s1 (ds++[(fJ s 0).ix]) now:=by
 have j:fJ s 0∈s:=qV.2 ⟨0,f,rfl⟩
 have d:=(h.rest _).1 j
 refine⟨fun e=>?_,fun i hi=>?_,?_,?_⟩
 . rw[hm,h.rest,zr,lR,not_or,and_assoc]
 . rcases zr.1 hi with c|c
   . exact h.Jh i c
   . rw[lR]at c
     subst c
     exact⟨_,d.1,rfl,hk⟩
 . refine zu.2 ⟨h.nd,s_,?_⟩
   intro a g b hb
   rw[lR]at hb
   subst hb
   rintro rfl
   exact d.2 g
 . have:=h.len
   rw[zw]
   simp
   omega
structure qa (n:Nat) (s0 s:QS) (ds:List Nat) (now:Int):Prop where
 ok:s.ok n
 rest:∀ e,e∈s.fP↔e∈s0.fP/\now<e.key
 out:∀ i,i∈ds↔∃ e∈s0.fP,e.ix=i/\e.key<=now
 nd:ds.Nodup
 len:ds.length<=n
theorem uw.fin{n:Nat}{s0 s:QS}{ds:List Nat}{now:Int}(h:uw s0.fP s.fP ds now)(d:s0.ok n)(h1:s.ok n)(hd:s.fP.length=0\/now<(fJ s.fP 0).key):qa n s0 s ds now:=by
 have g:∀ e∈s.fP,now<e.key:=by
  intro e a
  rcases hd with c|c
  . rw[Bz]at c;rw[c]at a;simp at a
  . have:=h1.ord.min a
    unfold iC at this
    omega
 have m:∀ e,e∈s.fP↔e∈s0.fP/\now<e.key:=by
  intro e
  constructor
  . intro a;exact⟨((h.rest e).1 a).1,g e a⟩
  . rintro⟨a,l⟩
    refine(h.rest e).2 ⟨a,fun b=>?_⟩
    obtain⟨f,j,k,o⟩:=h.Jh _ b
    have:=d.inj a j k.symm
    subst this
    omega
 refine⟨h1,m,fun i=>⟨h.Jh i,?_⟩,h.nd,?_⟩
 . rintro⟨e,a,rfl,l⟩
   by_cases b:e.ix∈ds
   . exact b
   . have:=g e ((h.rest e).2 ⟨a,b⟩)
     omega
 . have:=h.len
   have:=d.hp.len
   omega
end Go.Sx
namespace Go.Sx
open Go
structure Ed where
 a:Nat
 b:Nat
 exp:Int
 tree:Bool
 deriving Inhabited
def Ed.enc(e:Ed):Value:=.agg #[.int .i64 (e.a:Int),.int .i64 (e.b:Int),.int .i64 e.exp,.bool e.tree]
structure GW where
 fb:Nat
 nb:Nat
 hb:Nat
 mb:Nat
 trees:Int
 q:QS
 m:List (Int×Ed)
structure Ed.In (fN:Nat) (e:Ed):Prop where
 a:e.a<fN
 b:e.b<fN
 exp:gZ .i64 e.exp
structure GW.ok (fN fL:Nat) (g:GW):Prop where
 v2:2<=fN
 vn:fN<=4096
 en:fL<=16384
 ed:∀ p∈g.m,p.2.In fN
theorem GW.ok.get{fN fL:Nat}{g:GW}(h:g.ok fN fL)(k:Int):(fT g.m k).In fN:=by
 unfold fT
 cases hm:gV g.m k with
 | none=>exact⟨oC d_ h.v2,oC d_ h.v2,⟨d_,d_⟩⟩
 | some x=>exact h.ed _ (J2 hm)
theorem GW.ok.put{fN fL:Nat}{g:GW}(h:g.ok fN fL){k:Int}{e:Ed}(b:e.In fN){fb nb hb mb:Nat}{c:Int}{q:QS}:GW.ok fN fL ⟨fb,nb,hb,mb,c,q,gx g.m k e⟩ :=
 ⟨h.v2,h.vn,h.en,fun p hp=>by
  rcases zg.1 ((CS g.m k e).mem_iff.1 hp)with rfl|a
  . exact b
  . exact h.ed p ((CP g.m k).subset a)⟩
theorem GW.ok.del{fN fL:Nat}{g:GW}(h:g.ok fN fL){k:Int}{fb nb hb mb:Nat}{a:Int}{q:QS}:GW.ok fN fL ⟨fb,nb,hb,mb,a,q,iJ g.m k⟩ :=
 ⟨h.v2,h.vn,h.en,fun p hp=>h.ed p ((CP g.m k).subset hp)⟩
theorem GW.ok.same{fN fL:Nat}{g:GW}(h:g.ok fN fL){fb nb hb mb:Nat}{a:Int}{q:QS}:GW.ok fN fL ⟨fb,nb,hb,mb,a,q,g.m⟩:=⟨h.v2,h.vn,h.en,h.ed⟩
end Go.Sx
namespace Go.Sx
open Go
inductive Cn (A:Nat->Nat->Prop):Nat->Nat->Prop where
 | refl (i:Nat):Cn A i i
 | step {i j k:Nat} (h:A i j) (t:Cn A j k):Cn A i k
section
variable {A B:Nat->Nat->Prop} {i j k:Nat}
theorem Cn.one(h:A i j):Cn A i j:=.step h (.refl _)
theorem Cn.trans(h:Cn A i j)(t:Cn A j k):Cn A i k:=by
 induction h with
 | refl=>exact t
 | step h _ a=>exact .step h (a t)
theorem Cn.symm(hs:∀ i j,A i j->A j i)(h:Cn A i j):Cn A j i:=by
 induction h with
 | refl=>exact .refl _
 | step h _ a=>exact a.trans (.one (hs _ _ h))
theorem Cn.bind(h:∀ i j,A i j->Cn B i j)(t:Cn A i j):Cn B i j:=by
 induction t with
 | refl=>exact .refl _
 | step a _ b=>exact(h _ _ a).trans b
theorem Cn.mono(h:∀ i j,A i j->B i j)(t:Cn A i j):Cn B i j:=t.bind fun i j a=>.one (h i j a)
def kA(A:Nat->Nat->Prop):List Nat->Prop
 | []=>True
 | [_]=>True
 | x :: y :: l=>A x y/\kA A (y :: l)
theorem kA.tail{x:Nat}{l:List Nat}(h:kA A (x :: l)):kA A l:=by
 cases l with
 | nil=>trivial
 | cons y l=>exact h.2
theorem kA.right:∀ {s t:List Nat},kA A (s++t)->kA A t
 | [],_,h=>h
 | x :: s,t,h=>kA.right (s:=s) (kA.tail h)
theorem kA.left:∀ {s t:List Nat},kA A (s++t)->kA A s
 | [],_,_=>trivial
 | [x],_,_=>trivial
 | x :: y :: s,t,h=>⟨h.1,kA.left (s:=y :: s) h.2⟩
theorem kA.mid{x y:Nat}:∀ {s t:List Nat},kA A (s++x :: y :: t)->A x y
 | [],_,h=>h.1
 | [z],_,h=>h.2.1
 | z :: z2 :: s,t,h=>kA.mid (s:=z2 :: s) h.2
theorem kA.cn{φ:Nat->Nat}:∀ {p:List Nat},kA A p->(∀ s x y t,p=s++x :: y :: t->A x y->Cn B (φ x) (φ y))->∀ {a b:Nat},p.head? = some a->p.getLast? = some b->Cn B (φ a) (φ b)
 | [],_,_,a,b,h,_=>by simp at h
 | [x],_,_,a,b,h,h2=>by simp at h h2;subst h h2;exact .refl _
 | x :: y :: l,hp,hs,a,b,h,h2=>by
  simp at h
  subst h
  have c:(y :: l).getLast? = some b:=by rw[<-h2];simp[List.getLast?_cons_cons]
  exact(hs [] _ y l rfl hp.1).trans (kA.cn hp.2 (fun s u v t e=>hs (x :: s) u v t (by rw[e];rfl)) rfl c)
end
def nH(t1:Int)(t2:Nat)(e1:Int)(a:Nat):Prop:=t1<e1\/(t1=e1/\t2<=a)
abbrev EM:=Nat->Option Ed
def EM.set(E:EM)(k:Nat)(x:Option Ed):EM:=fun j=>if j=k then x else E j
def ends(e:Ed)(u v:Nat):Prop:=(u=e.a/\v=e.b)\/(u=e.b/\v=e.a)
def Ea(E:EM)(t1:Int)(t2:Nat)(u v:Nat):Prop:=∃ k e,E k=some e/\nH t1 t2 e.exp k/\ends e u v
def Et(E:EM)(t1:Int)(t2:Nat)(u v:Nat):Prop:=∃ k e,E k=some e/\e.tree=true/\nH t1 t2 e.exp k/\ends e u v
def Eo(E:EM)(k:Nat)(u v:Nat):Prop:=∃ j e,j≠k/\E j=some e/\e.tree=true/\ends e u v
theorem ends.symm{e:Ed}{u v:Nat}:ends e u v->ends e v u:=fun h=>h.elim (fun⟨a,b⟩=>.inr ⟨b,a⟩) fun⟨a,b⟩=>.inl ⟨b,a⟩
theorem Eo.symm{E:EM}{k u v:Nat}:Eo E k u v->Eo E k v u:=fun⟨j,e,a,b,c,d⟩=>⟨j,e,a,b,c,d.symm⟩
theorem Cn.more{A:Nat->Nat->Prop}{a b i j:Nat}(h:Cn (fun i j=>A i j\/(i=a/\j=b)\/(i=b/\j=a)) i j):Cn A i j\/(Cn A i a/\Cn A b j)\/(Cn A i b/\Cn A a j):=by
 induction h with
 | refl=>exact .inl (.refl _)
 | step s _ c =>
  rcases s with s|⟨rfl,rfl⟩|⟨rfl,rfl⟩
  . exact c.imp (fun h=>.step s h) fun h=>h.imp (fun h=>⟨.step s h.1,h.2⟩) fun h=>⟨.step s h.1,h.2⟩
  . rcases c with h|h|h
    . exact .inr (.inl ⟨.refl _,h⟩)
    . exact .inr (.inl ⟨.refl _,h.2⟩)
    . exact .inl h.2
  . rcases c with h|h|h
    . exact .inr (.inr ⟨.refl _,h⟩)
    . exact .inl h.2
    . exact .inr (.inr ⟨.refl _,h.2⟩)
def sY:Int:=9223372036854775807
def nK(fL k:Nat)(e:Ed)(i j:Nat):Prop:=(i=k/\(j=fL+e.a\/j=fL+e.b))\/(j=k/\(i=fL+e.a\/i=fL+e.b))
structure iB (fN fL:Nat) (E:EM) (A:Nat->Nat->Prop) (key:Nat->Int):Prop where
 lo:∀ k e,E k=some e->k<fL/\e.a<fN/\e.b<fN/\e.a≠e.b/\e.exp<=sY
 j4:∀ i j,A i j↔∃ k e,E k=some e/\e.tree=true/\nK fL k e i j
 kv:∀ v,v<fN->key (fL+v)=sY
 ks:∀ k e,E k=some e->e.tree=true->key k=e.exp
 CT:∀ t1 t2 u v,Ea E t1 t2 u v->Cn (Et E t1 t2) u v
 uF:∀ k e,E k=some e->e.tree=true->¬ Cn (Eo E k) e.a e.b
theorem Et.symm{E:EM}{t1:Int}{t2 u v:Nat}:Et E t1 t2 u v->Et E t1 t2 v u:=fun⟨k,e,c,d,f,g⟩=>⟨k,e,c,d,f,g.elim (fun⟨a,b⟩=>.inr ⟨b,a⟩) fun⟨a,b⟩=>.inl ⟨b,a⟩⟩
section
variable {fN fL:Nat} {E:EM} {A:Nat->Nat->Prop} {key:Nat->Int}
def rp(fL:Nat)(E:EM)(i:Nat):Nat:=if i<fL then((E i).getD default).a else i-fL
theorem mq{v:Nat}:rp fL E (fL+v)=v:=by unfold rp;rw[if_neg o_];omega
theorem sj{k:Nat}{e:Ed}(h:E k=some e)(hk:k<fL):rp fL E k=e.a:=by unfold rp;rw[if_pos hk,h];rfl
theorem iB.step(h:iB fN fL E A key){t1:Int}{t2 i j:Nat}{E2:EM}(l:A i j)(f:∀ k e,E k=some e->e.tree=true->(k=i\/k=j)->Et E2 t1 t2 e.a e.b):Cn (Et E2 t1 t2) (rp fL E i) (rp fL E j):=by
 obtain⟨k,e,c,g,m⟩:=(h.j4 i j).1 l
 have d:=h.lo k e c
 rcases m with ⟨rfl,rfl|rfl⟩|⟨rfl,rfl|rfl⟩
 . rw[mq,sj c d.1];exact .refl _
 . rw[mq,sj c d.1];exact .one (f _ e c g (.inl rfl))
 . rw[mq,sj c d.1];exact .refl _
 . rw[mq,sj c d.1];exact .one (f _ e c g (.inr rfl)).symm
theorem iB.S3(h:iB fN fL E A key){B:Nat->Nat->Prop}{i j:Nat}(l:A i j)(f:∀ k e,E k=some e->e.tree=true->(k=i\/k=j)->B e.a e.b/\B e.b e.a):Cn B (rp fL E i) (rp fL E j):=by
 obtain⟨k,e,c,g,m⟩:=(h.j4 i j).1 l
 have d:=h.lo k e c
 rcases m with ⟨rfl,rfl|rfl⟩|⟨rfl,rfl|rfl⟩
 . rw[mq,sj c d.1];exact .refl _
 . rw[mq,sj c d.1];exact .one (f _ e c g (.inl rfl)).1
 . rw[mq,sj c d.1];exact .refl _
 . rw[mq,sj c d.1];exact .one (f _ e c g (.inr rfl)).2
theorem iB.Yp(h:iB fN fL E A key){B:Nat->Nat->Prop}(d:∀ u v,B u v->∃ k e,E k=some e/\e.tree=true/\ends e u v){u v:Nat}(t:Cn B u v):Cn A (fL+u) (fL+v):=by
 induction t with
 | refl=>exact .refl _
 | step b _ g =>
  refine Cn.trans ?_ g
  obtain⟨k,e,a,c,f⟩:=d _ _ b
  rcases f with ⟨rfl,rfl⟩|⟨rfl,rfl⟩
  . exact .step ((h.j4 _ _).2 ⟨k,e,a,c,.inr ⟨rfl,.inl rfl⟩⟩) (.one ((h.j4 _ _).2 ⟨k,e,a,c,.inl ⟨rfl,.inr rfl⟩⟩))
  . exact .step ((h.j4 _ _).2 ⟨k,e,a,c,.inr ⟨rfl,.inr rfl⟩⟩) (.one ((h.j4 _ _).2 ⟨k,e,a,c,.inl ⟨rfl,.inl rfl⟩⟩))
theorem iB.uc(h:iB fN fL E A key){i j:Nat}(a:A i j):A j i:=by
 obtain⟨k,e,b,d,c⟩:=(h.j4 i j).1 a
 exact(h.j4 j i).2 ⟨k,e,b,d,c.symm⟩
theorem iB.two(h:iB fN fL E A key){u v:Nat}{t1:Int}{t2:Nat}(c:Et E t1 t2 u v):Cn A (fL+u) (fL+v):=by
 obtain⟨k,e,a,b,_,d⟩:=c
 rcases d with ⟨rfl,rfl⟩|⟨rfl,rfl⟩
 . exact .step ((h.j4 _ _).2 ⟨k,e,a,b,.inr ⟨rfl,.inl rfl⟩⟩) (.one ((h.j4 _ _).2 ⟨k,e,a,b,.inl ⟨rfl,.inr rfl⟩⟩))
 . exact .step ((h.j4 _ _).2 ⟨k,e,a,b,.inr ⟨rfl,.inr rfl⟩⟩) (.one ((h.j4 _ _).2 ⟨k,e,a,b,.inl ⟨rfl,.inl rfl⟩⟩))
theorem iB.afB(h:iB fN fL E A key){u v:Nat}{t1:Int}{t2:Nat}(b:Cn (Et E t1 t2) u v):Cn A (fL+u) (fL+v):=by
 induction b with
 | refl=>exact .refl _
 | step a _ c=>exact(h.two a).trans c
def DQ(E:EM)(u v:Nat):Prop:=∃ k e,E k=some e/\ends e u v
theorem iB.conn(h:iB fN fL E A key){u v:Nat}:Cn A (fL+u) (fL+v)↔Cn (DQ E) u v:=by
 constructor
 . intro d
   have key:∀ i j,Cn A i j->Cn (DQ E) (rp fL E i) (rp fL E j):=fun i j t=>by
    induction t with
    | refl=>exact .refl _
    | @step i j k a _ g =>
     refine Cn.trans ?_ g
     obtain⟨k,e,b,l,f⟩:=(h.j4 i j).1 a
     have c:=h.lo k e b
     rcases f with ⟨rfl,rfl|rfl⟩|⟨rfl,rfl|rfl⟩
     . rw[mq,sj b c.1];exact .refl _
     . rw[mq,sj b c.1];exact .one ⟨_,e,b,.inl ⟨rfl,rfl⟩⟩
     . rw[mq,sj b c.1];exact .refl _
     . rw[mq,sj b c.1];exact .one ⟨_,e,b,.inr ⟨rfl,rfl⟩⟩
   have:=key _ _ d
   rw[mq,mq]at this
   exact this
 . intro d
   induction d with
   | refl=>exact .refl _
   | @step u v w a _ g =>
    refine Cn.trans ?_ g
    obtain⟨k,e,b,f⟩:=a
    exact h.afB (h.CT e.exp k u v ⟨k,e,b,.inr ⟨rfl,zo _⟩,f⟩)
theorem nH.trans{a c e:Int}{b d f:Nat}(h:nH a b c d)(k:nH c d e f):nH a b e f:=by unfold nH at *;omega
structure Pm (A:Nat->Nat->Prop) (key:Nat->Int) (i j f:Nat) (q:List Nat):Prop where
 head:q.head? = some i
 last:q.getLast? = some j
 nd:q.Nodup
 u5:kA A q
 mem:f∈q
 min:∀ x∈q,x=f\/key f<key x\/(key f=key x/\f<x)
abbrev sN(fL:Nat)(A:Nat->Nat->Prop)(key:Nat->Int)(a b f:Nat)(q:List Nat):Prop:=Pm A key (fL+a) (fL+b) f q
variable {a b f:Nat} {q:List Nat}
theorem sN.nb(p:sN fL A key a b f q)(g:a≠b){x:Nat}(e:x∈q):∃ y∈q,A x y\/A y x:=by
 obtain⟨s,t,rfl⟩:=BD e
 cases t with
 | cons y t=>exact⟨y,s_,.inl p.u5.mid⟩
 | nil =>
  rcases List.eq_nil_or_concat s with rfl|⟨h, y,rfl⟩
  . have c:=p.head
    have d:=p.last
    simp at c d
    omega
  . refine⟨y,s_,.inr ?_⟩
    have c:=p.u5
    rw[List.concat_eq_append,nu]at c
    exact c.mid
theorem iB.Rb(h:iB fN fL E A key){x y:Nat}(c:A x y):(x<fL/\∃ e,E x=some e/\e.tree=true)\/∃ v,v<fN/\x=fL+v:=by
 obtain⟨k,e,b,f,d⟩:=(h.j4 x y).1 c
 have a:=h.lo k e b
 rcases d with ⟨rfl,_⟩|⟨_,rfl|rfl⟩
 . exact .inl ⟨a.1,e,b,f⟩
 . exact .inr ⟨_,a.2.1,rfl⟩
 . exact .inr ⟨_,a.2.2.1,rfl⟩
theorem iB.slot(h:iB fN fL E A key)(p:sN fL A key a b f q)(o:a≠b):∃ e,E f=some e/\e.tree=true/\f<fL:=by
 have z:∀ x∈q,(x<fL/\∃ e,E x=some e/\e.tree=true)\/∃ v,v<fN/\x=fL+v:=fun x w=>by
  obtain⟨y,_,g⟩:=p.nb o w
  rcases g with g|g
  . exact h.Rb g
  . exact h.Rb (h.uc g)
 rcases z f p.mem with ⟨c,e,d,m⟩|⟨v,hv,rfl⟩
 . exact⟨e,d,m,c⟩
 . exfalso
   obtain⟨i,F,e⟩:∃ y t,q=(fL+a) :: y :: t:=by
    have c:=p.head
    have d:=p.last
    match q,c,d with
    | [],c,_=>simp at c
    | [x],c,d=>simp at c d;omega
    | x :: y :: t,c,_=>simp at c;exact⟨y,t,by rw[c]⟩
   subst_vars
   have n:A (fL+a) i:=p.u5.1
   obtain⟨k,e,l,u,s⟩:=(h.j4 _ _).1 n
   have r:=h.lo k e l
   have c:i=k:=by
    rcases s with ⟨d,_⟩|⟨d,_⟩
    . omega
    . exact d
   subst c
   have B:=h.kv v hv
   have C:=h.ks _ e l u
   have D:=r.2.2.2.2
   rcases p.min i s_ with j|j|j<;>omega
theorem iB.later(h:iB fN fL E A key)(p:sN fL A key a b f q)(n:a≠b){o e:Ed}{k:Nat}(g:E f=some o)(i:o.tree=true)(hk:k∈q)(d:E k=some e)(j:e.tree=true):nH o.exp f e.exp k:=by
 have l:=h.ks f o g i
 have m:=h.ks k e d j
 unfold nH
 rcases p.min k hk with rfl|c|c
 . grind
 . left;omega
 . right;omega
theorem iB.part(h:iB fN fL E A key){E2:EM}{t1:Int}{t2:Nat}{s:List Nat}{x y:Nat}(hp:kA A s)(j:s.head? = some x)(l:s.getLast? = some y)(hs:∀ k e,k∈s->E k=some e->e.tree=true->Et E2 t1 t2 e.a e.b):Cn (Et E2 t1 t2) (rp fL E x) (rp fL E y) :=
 hp.cn (fun s1 u v s2 e c=>h.step c fun k d f i g=>hs k d (by rw[e];rcases g with rfl|rfl<;>simp) f i) j l
theorem EM.kP{E:EM}{k j:Nat}{x:Option Ed}(h:j≠k):E.set k x j=E j:=if_neg h
theorem EM.kz{E:EM}{k:Nat}{x:Option Ed}:E.set k x k=x:=if_pos rfl
theorem iB.add(h:iB fN fL E A key){x:Nat}{e:Ed}(J:E x=none)(G:x<fL/\e.a<fN/\e.b<fN/\e.a≠e.b/\e.exp<=sY)(I:e.tree=true)(q:¬ Cn A (fL+e.a) (fL+e.b)){A' : Nat->Nat->Prop}{key' : Nat->Int}(C:∀ i j,A' i j↔A i j\/nK fL x e i j)(hk:∀ y,key' y=if y=x then e.exp else key y):iB fN fL (E.set x (some e)) A' key' := by
 have H:∀ {k d},E k=some d->k≠x:=fun g f=>by rw[f,J]at g;cases g
 refine⟨fun k d hd=>?_,fun i j=>?_,fun v hv=>?_,fun k d hd p=>?_,fun L M u v ⟨k,d,hd,f,m⟩=>?_,fun k d hd p r=>?_⟩
 . by_cases e1:k=x
   . subst e1;rw[EM.kz]at hd;cases hd;exact G
   . rw[EM.kP e1]at hd;exact h.lo k d hd
 . rw[C,h.j4]
   constructor
   . grind [EM.kP,EM.kz]
   . grind [EM.kz,EM.kP]
 . rw[hk,if_neg o_];exact h.kv v hv
 . by_cases e1:k=x
   . subst e1;rw[EM.kz]at hd;cases hd;rw[hk,if_pos rfl]
   . rw[EM.kP e1]at hd;rw[hk,if_neg e1];exact h.ks k d hd p
 . by_cases e1:k=x
   . subst e1;rw[EM.kz]at hd;cases hd;exact .one ⟨k,e,EM.kz,I,f,m⟩
   . rw[EM.kP e1]at hd
     exact(h.CT L M u v ⟨k,d,hd,f,m⟩).mono fun i j ⟨K,z,a1,a2,a3,w⟩=>⟨K,z,by rw[EM.kP (H a1)];exact a1,a2,a3,w⟩
 . have o:∀ {B:Nat->Nat->Prop},(∀ u v,B u v->∃ k e,E k=some e/\e.tree=true/\ends e u v)->∀ {u v},Cn B u v->Cn A (fL+u) (fL+v):=fun {B} D {u v} t=>h.Yp D t
   by_cases e1:k=x
   . subst e1;rw[EM.kz]at hd;cases hd
     exact q (o (fun u v ⟨j,d,g,f,m,n⟩=>⟨j,d,by rw[EM.kP g]at f;exact f,m,n⟩) r)
   . rw[EM.kP e1]at hd
     have hk:∀ u v,Eo E k u v->∃ k e,E k=some e/\e.tree=true/\ends e u v:=fun u v ⟨j,d,_,f,m,n⟩=>⟨j,d,f,m,n⟩
     have F:Cn (fun i j=>Eo E k i j\/(i=e.a/\j=e.b)\/(i=e.b/\j=e.a)) d.a d.b:=r.mono fun i j ⟨l,c,g,f,m,n⟩=>by
      by_cases e2:l=x
      . subst e2;rw[EM.kz]at f;cases f;exact .inr n
      . rw[EM.kP e2]at f;exact .inl ⟨l,c,g,f,m,n⟩
     have s:Cn A (fL+d.a) (fL+d.b):=o (B:=fun u v=>∃ j c,E j=some c/\c.tree=true/\ends c u v) (fun u v h=>h) (.one ⟨k,d,hd,p,.inl ⟨rfl,rfl⟩⟩)
     rcases F.more with g|⟨g,f⟩|⟨g,f⟩
     . exact h.uF k d hd p g
     . exact q (((o hk g).symm fun i j=>h.uc).trans (s.trans ((o hk f).symm fun i j=>h.uc)))
     . exact q ((o hk f).trans ((s.symm fun i j=>h.uc).trans (o hk g)))
theorem iB.keep(h:iB fN fL E A key){x:Nat}{e o:Ed}(L:E x=none)(H:x<fL/\e.a<fN/\e.b<fN/\e.a≠e.b/\e.exp<=sY)(B:e.tree=false)(p:sN fL A key e.a e.b f q)(J:E f=some o)(K:o.tree=true)(I:nH e.exp x o.exp f):iB fN fL (E.set x (some e)) A key:=by
 have z:∀ {k d},E k=some d->k≠x:=fun s g=>by rw[g,L]at s;cases s
 refine⟨fun k d hd=>?_,fun i j=>?_,h.kv,fun k d hd r=>?_,fun t1 t2 u v ⟨k,d,hd,g,m⟩=>?_,fun k d hd r n=>?_⟩
 . by_cases e1:k=x
   . grind [EM.kz]
   . rw[EM.kP e1]at hd;exact h.lo k d hd
 . rw[h.j4]
   constructor
   . grind [EM.kP]
   . grind [EM.kz,EM.kP]
 . by_cases e1:k=x
   . grind [EM.kz]
   . rw[EM.kP e1]at hd;exact h.ks k d hd r
 . by_cases e1:k=x
   . subst e1;rw[EM.kz]at hd;cases hd
     have n:=h.part (E2:=E.set k (some e)) (t1:=t1) (t2:=t2) p.u5 p.head p.last fun y t G w C=>⟨y,t,by rw[EM.kP (z w)];exact w,C,g.trans (I.trans (h.later p H.2.2.2.1 J K G w C)),.inl ⟨rfl,rfl⟩⟩
     rw[mq,mq]at n
     rcases m with ⟨rfl,rfl⟩|⟨rfl,rfl⟩
     . exact n
     . exact n.symm fun i j=>Et.symm
   . rw[EM.kP e1]at hd
     exact(h.CT t1 t2 u v ⟨k,d,hd,g,m⟩).mono fun i j ⟨y,t,a1,a2,a3,D⟩=>⟨y,t,by rw[EM.kP (z a1)];exact a1,a2,a3,D⟩
 . by_cases e1:k=x
   . subst e1;rw[EM.kz]at hd;cases hd;rw[B]at r;cases r
   . rw[EM.kP e1]at hd
     refine h.uF k d hd r (n.mono fun i j ⟨l,c,s,g,m,F⟩=>?_)
     by_cases e2:l=x
     . subst e2;rw[EM.kz]at g;cases g;rw[B]at m;cases m
     . rw[EM.kP e2]at g;exact⟨l,c,s,g,m,F⟩
theorem iB.Iz(h:iB fN fL E A key)(p:sN fL A key a b f q)(C:a≠b){o:Ed}(G:E f=some o)(D:f<fL):∃ s t u v,q=s++f :: t/\s.head? = some (fL+a)/\s.getLast? = some (fL+u)/\t.head? = some (fL+v)/\t.getLast? = some (fL+b)/\ends o u v/\f∉s/\f∉t:=by
 obtain⟨s,t,e⟩:=BD p.mem
 have l:=p.nd
 have j:=p.head
 have c:=p.last
 have hp:=p.u5
 rw[e]at l j c hp
 have g:=zu.1 l
 have w:f∉s:=fun hm=>g.2.2 f hm f s_ rfl
 have x:f∉t:=(zx.1 g.2.1).1
 rcases List.eq_nil_or_concat s with rfl|⟨I, y1,e1⟩
 . simp at j;omega
 rw[List.concat_eq_append]at e1
 cases t with
 | nil=>rw[G1]at c;simp at c;omega
 | cons y2 t' =>
  subst e1
  have a1:A y1 f:=by rw[nu]at hp;exact hp.mid
  have a2:A f y2:=hp.mid
  have F:y1≠y2:=fun m=>g.2.2 y1 s_ y2 s_ m
  have look:∀ y,A y f->∃ u,y=fL+u/\(u=o.a\/u=o.b):=fun y z=>by
   obtain⟨k,d,n,B,r⟩:=(h.j4 _ _).1 z
   have hd:=h.lo k d n
   rcases r with ⟨_,i|i⟩|⟨rfl,i⟩
   . omega
   . omega
   . grind
  obtain⟨u,rfl,H⟩:=look y1 a1
  obtain⟨v,rfl,hv⟩:=look y2 (h.uc a2)
  refine⟨_,_,u,v,e,?_,s_,s_,?_,?_,w,x⟩
  . grind
  . grind
  . grind [ends]
theorem iB.swap(h:iB fN fL E A key){x:Nat}{e o:Ed}(W:E x=none)(O:x<fL/\e.a<fN/\e.b<fN/\e.a≠e.b/\e.exp<=sY)(V:e.tree=true)(p:sN fL A key e.a e.b f q)(D:E f=some o)(U:o.tree=true)(ag:nH o.exp f e.exp x){o' : Ed}(ai : o'.a=o.a/\o'.b=o.b/\o'.exp=o.exp/\o'.tree=false)
 {A' : Nat->Nat->Prop} {key' : Nat->Int} (R:∀ i j,A' i j↔(A i j/\¬ nK fL f o i j)\/nK fL x e i j) (hk:∀ y,key' y=if y=x then e.exp else key y):iB fN fL ((E.set f (some o')).set x (some e)) A' key' := by
 have G:∀ {k d},E k=some d->k≠x:=fun m g=>by rw[g,W]at m;cases m
 have ae:=G D
 have T:=h.lo f o D
 obtain⟨o1,o2,o3,Y⟩:=ai
 have get:∀ k,k≠x->k≠f->((E.set f (some o')).set x (some e)) k=E k:=fun k m g=>by rw[EM.kP m,EM.kP g]
 have K:((E.set f (some o')).set x (some e)) f=some o' := by rw[EM.kP ae,EM.kz]
 have aj:∀ z B,nH z B o.exp f->∀ u v,ends o u v->Cn (Et ((E.set f (some o')).set x (some e)) z B) u v:=fun z B g=>by
  obtain⟨s,t,u,v,L,s1,s2,Z, aa, P,n1,X⟩:=h.Iz p O.2.2.2.1 D T.1
  have hp:=p.u5
  rw[L]at hp
  have ac:∀ k d,k∈q->k≠f->E k=some d->d.tree=true->Et ((E.set f (some o')).set x (some e)) z B d.a d.b:=fun k d hk af hd w =>
   ⟨k,d,by rw[get k (G hd) af];exact hd,w,g.trans (h.later p O.2.2.2.1 D U hk hd w),.inl ⟨rfl,rfl⟩⟩
  have I:=h.part hp.left s1 s2 fun k d hk=>ac k d (by rw[L];simp[hk]) fun e1=>n1 (e1▸hk)
  have J:=h.part hp.right.tail Z aa fun k d hk=>ac k d (by rw[L];simp[hk]) fun e1=>X (e1▸hk)
  rw[mq,mq]at I J
  have sy:=fun {i j:Nat} (c:Cn (Et ((E.set f (some o')).set x (some e)) z B) i j)=>c.symm fun i j=>Et.symm
  have F:Cn (Et ((E.set f (some o')).set x (some e)) z B) u v:=(sy I).trans ((Cn.one ⟨x,e,EM.kz,V,g.trans ag,.inl ⟨rfl,rfl⟩⟩).trans (sy J))
  rintro i j ab
  unfold ends at P ab
  rcases P with ⟨rfl,rfl⟩|⟨rfl,rfl⟩<;>rcases ab with ⟨rfl,rfl⟩|⟨rfl,rfl⟩
  . exact F
  . exact sy F
  . exact sy F
  . exact F
 refine⟨fun k d hd=>?_,fun i j=>?_,fun v hv=>?_,fun k d hd w=>?_,fun z B u v ⟨k,d,hd,g,r⟩=>?_,fun k d hd w N=>?_⟩
 . by_cases e1:k=x
   . subst e1;rw[EM.kz]at hd;cases hd;exact O
   . by_cases n:k=f
     . subst n;rw[K]at hd;cases hd;rw[o1,o2,o3];exact T
     . rw[get k e1 n]at hd;exact h.lo k d hd
 . rw[R,h.j4]
   constructor
   . rintro(⟨⟨k,d,m,g,r⟩,C⟩|m)
     . by_cases n:k=f
       . subst n;rw[D]at m;cases m;exact absurd r C
       . exact⟨k,d,by rw[get k (G m) n];exact m,g,r⟩
     . exact⟨x,e,EM.kz,V,m⟩
   . rintro⟨k,d,m,g,r⟩
     by_cases e1:k=x
     . subst e1;rw[EM.kz]at m;cases m;exact .inr r
     . by_cases n:k=f
       . subst n;rw[K]at m;cases m;rw[Y]at g;cases g
       . rw[get k e1 n]at m
         refine .inl ⟨⟨k,d,m,g,r⟩,fun C=>?_⟩
         have al:=h.lo k d m
         unfold nK at r C
         omega
 . rw[hk,if_neg o_];exact h.kv v hv
 . by_cases e1:k=x
   . subst e1;rw[EM.kz]at hd;cases hd;rw[hk,if_pos rfl]
   . by_cases n:k=f
     . subst n;rw[K]at hd;cases hd;rw[Y]at w;cases w
     . rw[get k e1 n]at hd;rw[hk,if_neg e1];exact h.ks k d hd w
 . by_cases e1:k=x
   . subst e1;rw[EM.kz]at hd;cases hd;exact .one ⟨k,e,EM.kz,V,g,r⟩
   . by_cases n:k=f
     . subst n;rw[K]at hd;cases hd
       rw[o3]at g
       exact aj z B g u v (by unfold ends at *;rw[<-o1,<-o2];exact r)
     . rw[get k e1 n]at hd
       refine(h.CT z B u v ⟨k,d,hd,g,r⟩).bind fun i j ⟨H,M,a1,a2,a3,a4⟩=>?_
       by_cases e3:H=f
       . grind
       . exact .one ⟨H,M,by rw[get H (G a1) e3];exact a1,a2,a3,a4⟩
 . have S:¬ Cn (Eo E f) e.a e.b:=fun N=>by
    obtain⟨s,t,u,v,L,s1,s2,Z, aa, P,n1,X⟩:=h.Iz p O.2.2.2.1 D T.1
    have hp:=p.u5
    rw[L]at hp
    have sy:=fun {i j:Nat} (c:Cn (Eo E f) i j)=>c.symm fun i j=>Eo.symm
    have pr:∀ {l:List Nat} {x y:Nat},kA A l->f∉l->l.head? = some x->l.getLast? = some y->Cn (Eo E f) (rp fL E x) (rp fL E y):=fun {l x y} ak ah W hy =>
     ak.cn (fun l1 c d l2 e R=>h.S3 R fun H M m g r=>by
      have G:H≠f:=fun n=>ah (by rw[e,<-n];rcases r with rfl|rfl<;>simp)
      exact⟨⟨H,M,G,m,g,.inl ⟨rfl,rfl⟩⟩,⟨H,M,G,m,g,.inr ⟨rfl,rfl⟩⟩⟩) W hy
    have I:=pr hp.left n1 s1 s2
    have J:=pr hp.right.tail X Z aa
    rw[mq,mq]at I J
    have F:Cn (Eo E f) u v:=(sy I).trans (N.trans (sy J))
    rcases P with ⟨rfl,rfl⟩|⟨rfl,rfl⟩
    . exact h.uF f o D U F
    . exact h.uF f o D U (sy F)
   have old:∀ l c,l≠x->((E.set f (some o')).set x (some e)) l=some c->c.tree=true->l≠f/\E l=some c:=fun l c m g r=>by
    by_cases n:l=f
    . subst n;rw[K]at g;cases g;rw[Y]at r;cases r
    . rw[get l m n]at g;exact⟨n,g⟩
   by_cases e1:k=x
   . subst e1;rw[EM.kz]at hd;cases hd
     exact S (N.mono fun i j ⟨l,c,m,g,r,C⟩=>by obtain⟨a1,a2⟩:=old l c m g r;exact⟨l,c,a1,a2,r,C⟩)
   . obtain⟨a1,a2⟩:=old k d e1 hd w
     have ad:Cn (fun i j=>(∃ l c,l≠k/\l≠f/\E l=some c/\c.tree=true/\ends c i j)\/(i=e.a/\j=e.b)\/(i=e.b/\j=e.a)) d.a d.b:=N.mono fun i j ⟨l,c,m,g,r,C⟩=>by
      by_cases n:l=x
      . subst n;rw[EM.kz]at g;cases g;exact .inr C
      . obtain⟨b1,b2⟩:=old l c n g r;exact .inl ⟨l,c,m,b1,b2,r,C⟩
     have vh:∀ {i j:Nat},Cn (fun i j=>∃ l c,l≠k/\l≠f/\E l=some c/\c.tree=true/\ends c i j) i j->Cn (Eo E f) i j:=fun t=>t.mono fun i j ⟨l,c,_,b1,b2,b3,Q⟩=>⟨l,c,b1,b2,b3,Q⟩
     have sy:=fun {i j:Nat} (c:Cn (Eo E f) i j)=>c.symm fun i j=>Eo.symm
     have dd:Cn (Eo E f) d.a d.b:=.one ⟨k,d,a1,a2,w,.inl ⟨rfl,rfl⟩⟩
     rcases ad.more with m|⟨m,g⟩|⟨m,g⟩
     . exact h.uF k d a2 w (m.mono fun i j ⟨l,c,b0,_,b2,b3,Q⟩=>⟨l,c,b0,b2,b3,Q⟩)
     . exact S ((sy (vh m)).trans (dd.trans (sy (vh g))))
     . exact S ((vh g).trans ((sy dd).trans (vh m)))
theorem iB.apart(h:iB fN fL E A key)(p:sN fL A key a b f q)(F:a≠b){o:Ed}(L:E f=some o)(I:f<fL){A' : Nat->Nat->Prop}(g:∀ i j,A' i j↔A i j/\¬ nK fL f o i j)(w:¬ Cn A' (fL+o.a) (fL+o.b)):¬ Cn A' (fL+a) (fL+b):=by
 intro G
 obtain⟨s,t,u,v,M,s1,s2,R,S,N,n1,Q⟩:=h.Iz p F L I
 have hp:=p.u5
 rw[M]at hp
 have k:∀ i j,A' i j->A' j i:=fun i j r=>(g j i).2 ⟨h.uc ((g i j).1 r).1,fun D=>((g i j).1 r).2 D.symm⟩
 have part:∀ {l:List Nat} {x y:Nat},kA A l->f∉l->l.head? = some x->l.getLast? = some y->Cn A' x y:=fun {l x y} J K O P =>
  (J.cn (φ:=id) (B:=A') (fun T c d U e H=>.one ((g c d).2 ⟨H,fun n=>by
   have:f∈l:=by rw[e];unfold nK at n;rcases n with ⟨rfl,_⟩|⟨rfl,_⟩<;>simp
   exact K this⟩)) O P)
 have z:=part hp.left n1 s1 s2
 have C:=part hp.right.tail Q R S
 have m:Cn A' (fL+u) (fL+v):=(z.symm k).trans (G.trans (C.symm k))
 rcases N with ⟨rfl,rfl⟩|⟨rfl,rfl⟩
 . exact w m
 . exact w (m.symm k)
theorem iB.pop(h:iB fN fL E A key){o:Ed}(y:E f=some o)(x:∀ k e,E k=some e->k=f\/o.exp<e.exp\/(o.exp=e.exp/\f<k)){A' : Nat->Nat->Prop}(s:∀ i j,A' i j↔A i j/\¬ (o.tree=true/\nK fL f o i j)):iB fN fL (E.set f none) A' key:=by
 have B:=h.lo f o y
 have a:∀ {k d},(E.set f none) k=some d->k≠f/\E k=some d:=fun {k d} m=>by
  grind [EM.kz,EM.kP]
 refine⟨fun k d hd=>h.lo k d (a hd).2,fun i j=>?_,h.kv,fun k d hd=>h.ks k d (a hd).2,fun D F u v ⟨k,d,hd,b,g⟩=>?_,fun k d hd w t=>h.uF k d (a hd).2 w (t.mono fun i j ⟨l,c,m,b,g,n⟩=>⟨l,c,m,(a b).2,g,n⟩)⟩
 . rw[s,h.j4]
   constructor
   . grind [EM.kP]
   . grind [nK]
 . obtain⟨n,p⟩:=a hd
   have C:=x k d p
   refine(h.CT d.exp k u v ⟨k,d,p,.inr ⟨rfl,zo _⟩,g⟩).mono fun i j ⟨z,r,a1,a2,a3,q⟩=>⟨z,r,?_,a2,b.trans a3,q⟩
   rw[EM.kP]
   . exact a1
   . grind [nH]
end
end Go.Sx
namespace Go.Sx
open Go
theorem Fo.AZ{xs:List Nd}{F:FT}(b:Fo xs F){v u:Nat}(h:gL (gw xs F) v u):v<xs.length/\u<xs.length:=by
 obtain⟨e,d,hp⟩:=h
 obtain⟨a,c,rfl⟩:=zz.1 d
 have hm:∀ x∈gm xs false a.1,x<xs.length:=fun x f=>((b.rep a c).o8 x ((nk xs false a.1).mem_iff.1 f)).2
 exact⟨hm v (tS hp),(acD hp).elim (hm u) fun h=>h▸b.par a c⟩
def vJ(xs:List Nd)(F:FT)(i j:Nat):Prop:=Ad (gw xs F) (i+1) (j+1)
section
variable {xs ys zs:List Nd} {F R R2:FT} {i j:Nat} {a b:Tr}
theorem aao(a:Fo xs F)(hi:i+1<xs.length)(m:j+1<xs.length):Joined xs F (i+1) (j+1)↔Cn (vJ xs F) i j:=by
 constructor
 . rintro⟨r,d,e⟩
   have key:∀ v r,PR (gL (gw xs F)) v r->v≠0->Cn (vJ xs F) (v-1) (r-1):=fun v r h=>by
    induction h with
    | top _=>exact fun _=>.refl _
    | @step v u r hp k _ f =>
     intro hv
     refine .step ?_ (f k)
     unfold vJ
     rw[show v-1+1=v by omega,show u-1+1=u by omega]
     exact⟨hv,k,.inl hp⟩
   exact(key _ _ d o_).trans ((key _ _ e o_).symm fun i j=>Ad.symm)
 . intro h
   have n:∀ v u g, gL (gw xs F) v u->gL (gw xs F) v g -> u=g := fun v u g => a.nO
   have o:∀ {x y z},Joined xs F x y->Joined xs F y z->Joined xs F x z:=fun⟨r,a1,a2⟩ ⟨p, b1,b2⟩=>⟨r,a1,by rw[PR.unique n a2 b1];exact b2⟩
   clear m
   induction h with
   | refl=>exact a.Jt o_ hi
   | @step x y z l t f =>
    have:Joined xs F (x+1) (y+1)/\y+1<xs.length:=by
     obtain⟨d,e,b|b⟩:=l
     . obtain⟨r,c⟩:=a.top e (a.AZ b).2
       exact⟨⟨r,.step b e c,c⟩,(a.AZ b).2⟩
     . obtain⟨r,c⟩:=a.top d (a.AZ b).2
       exact⟨⟨r,c,.step b d c⟩,(a.AZ b).1⟩
    exact o this.1 (f this.2)
theorem R1{A:Nat->Nat->Prop}:∀ {p:List Nat},(∀ s x y t,p=s++x :: y :: t->A x y)->kA A p
 | [],_=>trivial
 | [_],_=>trivial
 | x :: y :: l,h=>⟨h [] x y l rfl,R1 fun s u v t e=>h (x :: s) u v t (by rw[e];rfl)⟩
theorem R4{A:Nat->Nat->Prop}:∀ {p:List Nat},(∀ x∈p,x≠0)->kA (fun x y=>A (x-1) (y-1)) p->kA A (p.map (· - 1))
 | [],_,_=>trivial
 | [_],_,_=>trivial
 | x :: y :: l,h0,h=>⟨h.1,R4 (p:=y :: l) (fun z a=>h0 z (mT _ a)) h.2⟩
theorem acG(D:Fo xs F)(h:ja xs F ys (i+1) a R)(k:ja (jC ys (i+1)) ((.nd a (i+1) .nil,0) :: R) zs (j+1) b R2)(E:Joined xs F (i+1) (j+1)){key:Nat->Int}(hk:∀ x,x+1<xs.length->(fJ xs (x+1)).key=key x) :
 ∃ q,Pm (vJ xs F) key i j ((fJ zs (j+1)).first-1) q:=by
 obtain⟨p,hp⟩:∃ p,gm zs false (.nd b (j+1) .nil)=p:=⟨_,rfl⟩
 have d:∀ x∈p,x≠0:=fun x c=>k.fo.u9 (T:=.nd b (j+1) .nil) (q:=0) s_ x (by rw[hp];exact c)
 have g:p.Perm (Tr.nd b (j+1) .nil).mem:=by rw[<-hp];exact nk zs false _
 have z:=k.fo.rep (.nd b (j+1) .nil,0) s_
 have o:∀ x∈p,x<zs.length:=fun x c=>(z.o8 x (g.mem_iff.1 c)).2
 have K:zs.length=xs.length:=by have:=k.len;rw[sW]at this;exact this.trans h.len
 obtain⟨r,hi,G⟩:=E
 have m:=RF h.tO k (h.Qx G hi fun v u O B C=>D.nO B C)
 have hs:=k.seq
 rw[hp]at m hs
 have n:∀ x,(fJ zs x).key=(fJ xs x).key:=fun x=>(k.key x).trans (((yE h).2.2.2.2.2 x).trans (h.key x))
 have l:DS zs (fJ zs (j+1)).first (Tr.nd b (j+1) .nil).mem:=z.2.2.1.first
 have I:=d _ (g.mem_iff.2 l.1)
 refine⟨p.map (· - 1),⟨by rw[List.head?_map,m];rfl,by rw[hs,tq,G1];rfl,?_,R4 d (R1 fun s x y t e=>?_),zz.2 ⟨_,g.mem_iff.2 l.1,rfl⟩,fun x c=>?_⟩⟩
 . have w:p.Nodup:=g.nodup_iff.2 k.fo.split.1
   rw[List.nodup_iff_pairwise_ne]at w ⊢
   rw[Hi]
   refine w.imp_of_mem fun {x y} c f L=>?_
   have:=d x c
   have:=d y f
   omega
 . have c:=d x (by rw[e];simp)
   have f:=d y (by rw[e];simp)
   show vJ xs F (x-1) (y-1)
   unfold vJ
   rw[show x-1+1=x by omega,show y-1+1=y by omega]
   have H:gL (gw zs ((.nd b (j+1) .nil,0) :: R2)) y x:=⟨(gm zs false (.nd b (j+1) .nil),0),by simp[gw],by rw[hp];exact(C5 c).2 ⟨s,t,e⟩⟩
   exact(h.JK x y).1 ((k.ad x y).1 ⟨c,f,.inr H⟩)
 . obtain⟨y,f,rfl⟩:=zz.1 c
   have M:=d y f
   have N:=o y f
   have J:=o _ (g.mem_iff.2 l.1)
   rcases l.2 y (g.mem_iff.1 f)with e|e
   . left;rw[e]
   . right
     have k1:=hk ((fJ zs (j+1)).first-1) o_
     have A:=hk (y-1) o_
     rw[show (fJ zs (j+1)).first-1+1=(fJ zs (j+1)).first by omega]at k1
     rw[show y-1+1=y by omega]at A
     unfold kX at e
     rw[decide_eq_true_iff,n,n,k1,A]at e
     omega
end
theorem kA.mono{A B:Nat->Nat->Prop}(h:∀ i j,A i j->B i j):∀ {p:List Nat},kA A p->kA B p
 | [],_=>trivial
 | [_],_=>trivial
 | _ :: y :: l,hp=>⟨h _ _ hp.1,kA.mono h (p:=y :: l) hp.2⟩
theorem Pm.mono{A B:Nat->Nat->Prop}{key:Nat->Int}{i j f:Nat}{q:List Nat}(p:Pm A key i j f q)(h:∀ i j,A i j->B i j):Pm B key i j f q:=⟨p.head,p.last,p.nd,p.u5.mono h,p.mem,p.min⟩
section
variable {xs ys zs us:List Nd} {F R R2:FT} {i j:Nat} {a b:Tr}
theorem aeo{xs ys:List Nd}(h:∀ k,(fJ ys k).flip=(fJ xs k).flip)(F:FT):gw ys F=gw xs F:=by
 unfold gw
 exact zN fun e _=>by rw[rj fun k _=>h k]
theorem aes(h:ja xs F ys i a R)(c:Int)(u v:Nat):Ad (gw (ri ys i c) ((.nd a i .nil,0) :: R)) u v↔Ad (gw xs F) u v:=by
 rw[aeo (fun k=>(SM (h.fo.rep (.nd a i .nil,0) s_).1.2 k).1)]
 exact h.ad u v
theorem aet(h:ja xs F ys i a R)(c:Int)(k:Nat):(fJ (ri ys i c) k).key=if k=i then c else(fJ xs k).key:=by
 rw[(SM (h.fo.rep (.nd a i .nil,0) s_).1.2 k).2,h.key]
theorem UK(c:Fo xs F)(f:Ad (gw xs F) i j):Joined xs F i j:=by
 obtain⟨d,e,a|a⟩:=f
 . obtain⟨r,b⟩:=c.top e (c.AZ a).2
   exact⟨r,.step a e b,b⟩
 . obtain⟨r,b⟩:=c.top d (c.AZ a).2
   exact⟨r,b,.step a d b⟩
theorem FM(h:ja xs F ys i a R)(k:ja (jC ys i) ((.nd a i .nil,0) :: R) zs j b R2)(x:Nat):(fJ zs x).key=(fJ xs x).key:=(k.key x).trans (((yE h).2.2.2.2.2 x).trans (h.key x))
theorem FL(h:ja xs F ys i a R)(k:ja (jC ys i) ((.nd a i .nil,0) :: R) zs j b R2)(u v:Nat):Ad (gw zs ((.nd b j .nil,0) :: R2)) u v↔Ad (gw xs F) u v:=(k.ad u v).trans (h.JK u v)
theorem aaT(f:Fo xs F)(h:ja xs F ys i a R)(k:ja (jC ys i) ((.nd a i .nil,0) :: R) zs j b R2)(s:¬ Joined xs F i j)(p:j≠0)(q:j<xs.length)(n:i≠0)(o:i<xs.length):(gm zs false (.nd a i .nil)).head? = some i:=by
 rcases k.Bk (.nd a i .nil) s_ with ⟨_,d⟩|c
 . rw[Gb d]
   exact h.tO.head
 . exfalso
   rw[h.tO.head]at c
   obtain⟨r,g⟩:=f.top p q
   obtain⟨m, l⟩:=f.top n o
   have t:r≠m := fun e=>s ⟨m, l, e▸g⟩
   obtain⟨w,p2⟩:=h.Qy g l t fun v u y c d=>f.nO c d
   have x:=k.top c (v:=j) (by simp[Tr.mem])
   have e:r=i:=PR.unique (P:=gL (gw (jC ys i) ((.nd a i .nil,0) :: R))) (fun v u y c d=>h.tO.fo.nO c d) w x
   exact p2 (by rw[e];simp[Tr.mem])
theorem aaS{c:FT}(e:Fo xs F)(h:ja xs F ys i a R)(k:ja (jC ys i) ((.nd a i .nil,0) :: R) zs j b R2)(n:¬ Joined xs F i j)(l:j≠0)(m:j<xs.length)(f:i≠0)(g:i<xs.length)(d:R2.Perm ((.nd a i .nil,0) :: c))(u v:Nat) :
 Ad (gw (lF zs i j) ((.nd b j .nil,0) :: (.nd a i .nil,j) :: c)) u v↔Ad (gw xs F) u v\/(u=i/\v=j)\/(u=j/\v=i):=by
 rw[aaR (k.fo.perm (d.cons _)) (aaT e h k n l m f g)]
 have hp:Ad (gw zs ((.nd b j .nil,0) :: (.nd a i .nil,0) :: c)) u v↔Ad (gw zs ((.nd b j .nil,0) :: R2)) u v:=Ad.congr fun x y=>gL.perm ((d.cons _).symm.map _)
 rw[hp,FL h k]
theorem aaU(h:ja xs F ys i a R)(k:ja (jC ys i) ((.nd a i .nil,0) :: R) zs j b R2)(x:Nat):(fJ (lF zs i j) x).key=(fJ xs x).key:=by
 have c:i<zs.length:=by rw[k.len,sW];exact(h.fo.rep (.nd a i .nil,0) s_).1.2
 exact(QB c (k.fo.rep (.nd b j .nil,0) s_).1.2 x).2.trans (FM h k x)
theorem Wj(k:ja xs F us j (.nd .nil i .nil) R):gm us false (.nd (.nd .nil i .nil) j .nil)=[i,j]:=by
 rw[k.seq]
 simp only[gm]
 cases (fJ us i).flip<;>rfl
theorem Wg{zs:List Nd}(h:Fo zs ((.nd .nil i .nil,0) :: (.nd .nil j .nil,0) :: R)):¬ Joined zs ((.nd .nil i .nil,0) :: (.nd .nil j .nil,0) :: R) i j:=by
 rintro⟨r,c,d⟩
 have b:∀ v u a, gL (gw zs ((.nd .nil i .nil,0) :: (.nd .nil j .nil,0) :: R)) v u->gL (gw zs ((.nd .nil i .nil,0) :: (.nd .nil j .nil,0) :: R)) v a -> u=a := fun v u a => h.nO
 have one:∀ k,gm zs false (.nd .nil k .nil)=[k]:=fun k=>by simp only[gm];cases (fJ zs k).flip<;>rfl
 have g:gL (gw zs ((.nd .nil i .nil,0) :: (.nd .nil j .nil,0) :: R)) i 0:=⟨([i],0),by simp[gw,one],[],[],rfl,rfl⟩
 have p2:gL (gw zs ((.nd .nil i .nil,0) :: (.nd .nil j .nil,0) :: R)) j 0:=⟨([j],0),by simp[gw,one],[],[],rfl,rfl⟩
 have e:i=j:=(PR.unique b (.top g) c).trans (PR.unique b (.top p2) d).symm
 have f:=h.nodup
 subst e
 simp[jO,Tr.mem]at f
end
end Go.Sx
namespace Go.Sx
open Go
section
variable {A:Nat->Nat->Prop} {k x y fL:Nat} {e:Ed}
theorem aac(h:∀ i,¬ A k i/\¬ A i k){j:Nat}(t:Cn A k j):j=k:=by
 cases t with
 | refl=>rfl
 | step a _=>exact absurd a (h _).1
theorem aad(h:∀ i,¬ A k i/\¬ A i k)(c:¬ Cn A x y)(hk:k≠y):¬ Cn (fun i j=>A i j\/(i=k/\j=x)\/(i=x/\j=k)) k y:=by
 intro t
 have key:∀ i j,Cn (fun i j=>A i j\/(i=k/\j=x)\/(i=x/\j=k)) i j->Cn A (if i=k then x else i) (if j=k then x else j):=fun i j t=>by
  induction t with
  | refl=>exact .refl _
  | @step i j l a _ b =>
   refine Cn.trans ?_ b
   rcases a with a|⟨rfl,rfl⟩|⟨rfl,rfl⟩
   . rw[if_neg (fun e=>(h _).1 (e▸a)),if_neg (fun e=>(h _).2 (e▸a))]
     exact .one a
   . rw[if_pos rfl]
     split<;>exact .refl _
   . rw[if_pos rfl]
     split<;>exact .refl _
 grind
theorem abY(P:Prop)(i j:Nat):((P\/(i=k/\j=fL+e.a)\/(i=fL+e.a/\j=k))\/(i=k/\j=fL+e.b)\/(i=fL+e.b/\j=k))↔P\/nK fL k e i j:=by
 grind [nK]
theorem Ra(P:Prop)(i j:Nat):((P/\¬ ((i=k/\j=fL+e.a)\/(i=fL+e.a/\j=k)))/\¬ ((i=k/\j=fL+e.b)\/(i=fL+e.b/\j=k)))↔P/\¬ nK fL k e i j:=by
 grind [nK]
theorem Wh(hs:∀ i j,A i j->A j i)(g:A k y)(m:x≠y)(l:k≠y)(f:¬ Cn (fun i j=>A i j/\¬ ((i=k/\j=x)\/(i=x/\j=k))) k x):¬ Cn (fun i j=>(A i j/\¬ ((i=k/\j=x)\/(i=x/\j=k)))/\¬ ((i=k/\j=y)\/(i=y/\j=k))) x y:=by
 intro t
 refine f (.step (j:=y) ⟨g,o_⟩ ?_)
 have e:Cn (fun i j=>A i j/\¬ ((i=k/\j=x)\/(i=x/\j=k))) x y:=t.mono fun i j h=>h.1
 exact e.symm fun i j ⟨a,b⟩=>⟨hs i j a,fun c=>b (c.elim (fun⟨c,d⟩=>.inr ⟨d,c⟩) fun⟨c,d⟩=>.inl ⟨d,c⟩)⟩
end
def gF(m:List (Int×Ed)):EM:=fun k=>gV m (k:Int)
def Ed.er(e:Ed):Nat×Nat×Int:=(e.a,e.b,e.exp)
def GW.qd(s:GW):Prop:=∀ x:gG,x∈s.q.fP↔∃ e,gF s.m x.ix=some e/\e.exp=x.key
section
variable {m m2:List (Int×Ed)} {k f:Nat} {e o:Ed}
theorem oE:gF (gx m (k:Int) e)=(gF m).set k (some e):=by
 grind [gF,EM.set,wG]
theorem L8(a:(m.map Prod.fst).Nodup):gF (iJ m (k:Int))=(gF m).set k none:=by
 grind [gF,EM.set,FA]
theorem xE(h:gF m k=some e):fT m (k:Int)=e:=by
 unfold fT
 rw[show gV m (k:Int)=some e from h]
 rfl
theorem EM.set_set{E:EM}{k:Nat}{x y:Option Ed}:(E.set k x).set k y=E.set k y:=by
 funext j
 unfold EM.set
 split<;>rfl
theorem EM.aeq{E:EM}{k f:Nat}{x y z:Option Ed}:((E.set k x).set f y).set k z=(E.set f y).set k z:=by
 grind [EM.set]
def xF(m m2:List (Int×Ed))(k:Nat)(t:Option (Nat×Nat×Int)):Prop:=∀ j,(gF m2 j).map Ed.er=if j=k then t else(gF m j).map Ed.er
theorem GW.C8{s s2:GW}{k a b:Nat}{exp:Int}(h:s.qd)(p:gF s.m k=none)(o:xF s.m s2.m k (some (a,b,exp)))(r:∀ x,x∈s2.q.fP↔x∈s.q.fP\/x=⟨k,exp⟩):s2.qd:=by
 intro x
 rw[r,h x]
 have c:=o x.ix
 by_cases hk:x.ix=k
 . rw[if_pos hk]at c
   obtain⟨e,i,g⟩:=Bt.1 c
   unfold Ed.er at g
   simp only[Prod.mk.injEq]at g
   rw[hk,p]
   rw[hk]at i
   constructor
   . grind
   . rintro⟨e', d,f⟩
     rw[i]at d
     cases d
     right
     obtain⟨t,xk⟩:=x
     simp only at hk f
     rw[hk,<-f,g.2.2]
 . rw[if_neg hk]at c
   constructor
   . rintro(⟨e,d,f⟩|rfl)
     . rw[d]at c
       obtain⟨j,l,n⟩:=Bt.1 c
       grind [Ed.er]
     . exact absurd rfl hk
   . rintro⟨e,d,f⟩
     rw[d]at c
     obtain⟨j,l,n⟩:=Bt.1 c.symm
     grind [Ed.er]
theorem GW.Sc{s s2:GW}{i:Nat}(h:s.qd)(a:gF s2.m=(gF s.m).set i none)(b:∀ e,e∈s2.q.fP↔e∈s.q.fP/\e.ix≠i):s2.qd:=by
 intro x
 rw[b,h x,a]
 grind [EM.set]
section
variable {fN fL a b:Nat} {A:Nat->Nat->Prop} {key:Nat->Int} {exp:Int} {q:List Nat}
theorem iB.Jo(h:iB fN fL (gF m) A key)(d:gF m k=none)(hk:k<fL)(i:Nat):¬ A k i/\¬ A i k:=by
 have a:∀ i,¬ A k i:=fun i b=>by
  obtain⟨j,e,a,_,c⟩:=(h.j4 k i).1 b
  grind [nK]
 exact⟨a i,fun b=>a i (h.uc b)⟩
abbrev CV(fL:Nat)(A:Nat->Nat->Prop)(k:Nat)(e:Ed):Nat->Nat->Prop:=fun i j=>A i j\/nK fL k e i j
abbrev r0(fL:Nat)(A:Nat->Nat->Prop)(k:Nat)(e:Ed):Nat->Nat->Prop:=fun i j=>A i j/\¬ nK fL k e i j
abbrev CE(key:Nat->Int)(k:Nat)(x:Int):Nat->Int:=fun y=>if y=k then x else key y
theorem iB.own(h:iB fN fL (gF m) A key)(c:gF m f=some o)(d:(fT m (f:Int)).tree=true):f<fL/\A f (fL+(fT m (f:Int)).a)/\A f (fL+(fT m (f:Int)).b)/\(fT m (f:Int)).a≠(fT m (f:Int)).b:=by
 rw[xE c]at d ⊢
 have e:=h.lo f o c
 exact⟨e.1,(h.j4 _ _).2 ⟨f,o,c,d,.inl ⟨rfl,.inl rfl⟩⟩,(h.j4 _ _).2 ⟨f,o,c,d,.inl ⟨rfl,.inr rfl⟩⟩,e.2.2.2.1⟩
theorem iB.UP(h:iB fN fL (gF m) A key)(g:gF m k=none)(f:k<fL/\a<fN/\b<fN/\a≠b/\exp<=sY)(l:¬ Cn A (fL+a) (fL+b)){m1 m4:List (Int×Ed)}(h1:m1=gx m (k:Int) ⟨a,b,exp,false⟩)(c:m4=gx m1 (k:Int) ⟨(fT m1 (k:Int)).a,(fT m1 (k:Int)).b,(fT m1 (k:Int)).exp,true⟩) :
 iB fN fL (gF m4) (CV fL A k (fT m1 (k:Int))) (CE key k (fT m1 (k:Int)).exp)/\xF m m4 k (some (a,b,exp)):=by
 have e:fT m1 (k:Int)=⟨a,b,exp,false⟩:=xE (by rw[h1,oE,EM.kz])
 rw[e]at c ⊢
 have d:gF m4=(gF m).set k (some ⟨a,b,exp,true⟩):=by rw[c,h1,oE,oE,EM.set_set]
 refine⟨?_,fun j=>?_⟩
 . rw[d]
   exact h.add g f rfl l (fun i j=>Iff.rfl) fun y=>rfl
 . rw[d]
   unfold EM.set
   split<;>rfl
theorem iB.Nn(h:iB fN fL (gF m) A key)(i:gF m k=none)(d:k<fL/\a<fN/\b<fN/\a≠b/\exp<=sY)(p:sN fL A key a b f q)(g:∀ o,gF m f=some o->nH exp k o.exp f){m1:List (Int×Ed)}(h1:m1=gx m (k:Int) ⟨a,b,exp,false⟩) :
 iB fN fL (gF m1) A key/\xF m m1 k (some (a,b,exp)):=by
 obtain⟨o,e,l,_⟩:=h.slot p d.2.2.2.1
 have c:gF m1=(gF m).set k (some ⟨a,b,exp,false⟩):=by rw[h1,oE]
 refine⟨?_,fun j=>?_⟩
 . rw[c]
   exact h.keep i d rfl p e l (g o e)
 . rw[c]
   unfold EM.set
   split<;>rfl
theorem iB.first(h:iB fN fL (gF m) A key)(r:gF m k=none)(i:a≠b)(p:sN fL A key a b f q){m1:List (Int×Ed)}(h1:m1=gx m (k:Int) e) :
 f<fL/\f≠k/\gF m f=some (fT m1 (f:Int))/\(fT m1 (f:Int)).tree=true/\A f (fL+(fT m1 (f:Int)).a)/\A f (fL+(fT m1 (f:Int)).b)/\(fT m1 (f:Int)).a≠(fT m1 (f:Int)).b:=by
 obtain⟨o,c,d,j⟩:=h.slot p i
 have g:f≠k:=fun e=>by rw[e,r]at c;cases c
 have l:fT m1 (f:Int)=o:=xE (by rw[h1,oE,EM.kP g];exact c)
 rw[l]
 have n:=h.lo f o c
 exact⟨j,g,c,d,(h.j4 _ _).2 ⟨f,o,c,d,.inl ⟨rfl,.inl rfl⟩⟩,(h.j4 _ _).2 ⟨f,o,c,d,.inl ⟨rfl,.inr rfl⟩⟩,n.2.2.2.1⟩
theorem iB.No(h:iB fN fL (gF m) A key)(d:gF m k=none)(c:k<fL/\a<fN/\b<fN/\a≠b/\exp<=sY)(p:sN fL A key a b f q){m1 m3 m4:List (Int×Ed)}(h1:m1=gx m (k:Int) ⟨a,b,exp,false⟩)(t:nH (fT m1 (f:Int)).exp f exp k)
 (l:m3=gx m1 (f:Int) ⟨(fT m1 (f:Int)).a,(fT m1 (f:Int)).b,(fT m1 (f:Int)).exp,false⟩) (s:¬ Cn (r0 fL A f (fT m1 (f:Int))) (fL+(fT m1 (f:Int)).a) (fL+(fT m1 (f:Int)).b)) :
 (∀ i,¬ r0 fL A f (fT m1 (f:Int)) k i/\¬ r0 fL A f (fT m1 (f:Int)) i k)/\¬ Cn (r0 fL A f (fT m1 (f:Int))) (fL+(fT m3 (k:Int)).a) (fL+(fT m3 (k:Int)).b) /\
  (m4=gx m3 (k:Int) ⟨(fT m3 (k:Int)).a,(fT m3 (k:Int)).b,(fT m3 (k:Int)).exp,true⟩->iB fN fL (gF m4) (CV fL (r0 fL A f (fT m1 (f:Int))) k (fT m3 (k:Int))) (CE key k (fT m3 (k:Int)).exp)/\xF m m4 k (some (a,b,exp))):=by
 obtain⟨w,z,g,u,_⟩:=h.first d c.2.2.2.1 p h1
 have x:fT m3 (k:Int)=⟨a,b,exp,false⟩:=xE (by rw[l,h1,oE,oE,EM.kP (fun e=>z e.symm),EM.kz])
 rw[x]
 generalize fT m1 (f:Int)=o at t l s g u ⊢
 refine⟨fun i=>⟨fun n=>(h.Jo d c.1 i).1 n.1,fun n=>(h.Jo d c.1 i).2 n.1⟩,h.apart p c.2.2.2.1 g w (fun i j=>Iff.rfl) s,fun v=>?_⟩
 have r:gF m4=((gF m).set f (some ⟨o.a,o.b,o.exp,false⟩)).set k (some ⟨a,b,exp,true⟩):=by rw[v,l,h1,oE,oE,oE,EM.aeq]
 refine⟨?_,fun j=>?_⟩
 . rw[r]
   exact h.swap (e:=⟨a,b,exp,true⟩) (o' := ⟨o.a,o.b,o.exp,false⟩) d c rfl p g u t ⟨rfl,rfl,rfl,rfl⟩ (fun i j=>Iff.rfl) fun y=>rfl
 . rw[r]
   unfold EM.set
   by_cases e1:j=k
   . rw[if_pos e1,if_pos e1];rfl
   . rw[if_neg e1,if_neg e1]
     by_cases e2:j=f
     . rw[if_pos e2,e2,g];rfl
     . rw[if_neg e2]
theorem iB.ac9(h:iB fN fL (gF m) A key)(d:gF m f=some o)(c:∀ k e,gF m k=some e->k=f\/o.exp<e.exp\/(o.exp=e.exp/\f<k))(g:o.tree=false):iB fN fL ((gF m).set f none) A key :=
 h.pop d c fun i j=>⟨fun a=>⟨a,fun b=>by rw[g]at b;cases b.1⟩,fun a=>a.1⟩
theorem iB.ada(h:iB fN fL (gF m) A key)(c:gF m f=some o)(b:∀ k e,gF m k=some e->k=f\/o.exp<e.exp\/(o.exp=e.exp/\f<k))(d:o.tree=true):iB fN fL ((gF m).set f none) (r0 fL A f o) key :=
 h.pop c b fun i j=>and_congr Iff.rfl (not_congr ⟨fun a=>⟨d,a⟩,fun a=>a.2⟩)
theorem GW.Sb{s:GW}(h:s.qd){i:Nat}{k:Int}(hi:(⟨i,k⟩:gG)∈s.q.fP)(hm:∀ e∈s.q.fP,¬ iC e ⟨i,k⟩):∃ o,gF s.m i=some o/\o.exp=k/\∀ j e,gF s.m j=some e->j=i\/o.exp<e.exp\/(o.exp=e.exp/\i<j):=by
 obtain⟨o,b,c⟩:=(h _).1 hi
 refine⟨o,b,c,fun j e a=>?_⟩
 have d:=hm ⟨j,e.exp⟩ ((h _).2 ⟨e,a,rfl⟩)
 grind [iC]
end
end
def tg(m:List (Int×Ed)):Nat:=(m.filter fun p=>p.2.tree).length
def kq(m:List (Int×Ed))(t:Int):Prop:=(m.map Prod.fst).Nodup/\t=IntKind.i64.wrap (tg m:Int)/\∀ p∈m,∃ k:Nat,p.1=(k:Int)
section
variable {m:List (Int×Ed)} {t:Int} {k f:Nat} {e o:Ed}
theorem S9{m m2:List (Int×Ed)}(h:m.Perm m2):tg m=tg m2:=(h.filter _).length_eq
theorem S8{p:Int×Ed}:tg (p :: m)=tg m+if p.2.tree=true then 1 else 0:=by
 grind [tg]
theorem Lc{k:Int}:tg (gx m k e)=tg (iJ m k)+if e.tree=true then 1 else 0:=by rw[S9 (CS m k e),S8]
theorem Lb{k:Int}(h:gV m k=some e):tg m=tg (iJ m k)+if e.tree=true then 1 else 0:=by rw[S9 (FC h),S8]
theorem kq.nil:kq [] 0:=⟨zT,by rw[IntKind.wrap_i64];decide,fun p h=>(mz h).elim⟩
theorem kq.kp(h:kq m t):∀ p∈gx m (k:Int) e,∃ k:Nat,p.1=(k:Int):=fun p hp=>by
 rcases zg.1 ((CS m (k:Int) e).mem_iff.1 hp)with rfl|a
 . exact⟨k,rfl⟩
 . exact h.2.2 p ((CP m _).subset a)
theorem kq.put(h:kq m t)(b:gF m k=none)(a:e.tree=false):kq (gx m (k:Int) e) t:=by
 refine⟨wL h.1 _ _,?_,h.kp⟩
 rw[h.2.1,Lc,JU b,if_neg (by rw[a];decide)]
 rfl
theorem kq.Pv(h:kq m t)(d:gF m k=some o)(c:o.tree=false)(b:e.tree=true):kq (gx m (k:Int) e) (IntKind.i64.wrap (t+1)):=by
 refine⟨wL h.1 _ _,?_,h.kp⟩
 have a:=Lb (show gV m (k:Int)=some o from d)
 rw[if_neg (by rw[c];decide)]at a
 rw[h.2.1,Lc,if_pos b,IntKind.wrap_i64,IntKind.wrap_i64,IntKind.wrap_i64]
 omega
theorem kq.loose(h:kq m t)(c:gF m k=some o)(d:o.tree=true)(b:e.tree=false):kq (gx m (k:Int) e) (IntKind.i64.wrap (t-1)):=by
 refine⟨wL h.1 _ _,?_,h.kp⟩
 have a:=Lb (show gV m (k:Int)=some o from c)
 rw[if_pos d]at a
 rw[h.2.1,Lc,if_neg (by rw[b];decide),IntKind.wrap_i64,IntKind.wrap_i64,IntKind.wrap_i64]
 omega
theorem kq.del(h:kq m t)(c:gF m k=some o)(b:o.tree=false):kq (iJ m (k:Int)) t:=by
 refine⟨Ke h.1 _,?_,fun p hp=>h.2.2 p ((CP m _).subset hp)⟩
 have a:=Lb (show gV m (k:Int)=some o from c)
 rw[if_neg (by rw[b];decide)]at a
 rw[h.2.1,a]
 rfl
theorem kq.pop(h:kq m t)(b:gF m k=some o)(c:o.tree=true)(a:e.tree=false):kq (iJ (gx m (k:Int) e) (k:Int)) (IntKind.i64.wrap (t-1)) :=
 (h.loose b c a).del (o:=e) (by rw[oE,EM.kz]) a
theorem kq.swap(h:kq m t)(i:gF m k=none)(d:f≠k)(j:gF m f=some o)(l:o.tree=true){a e1 b:Ed}(c:a.tree=false)(h1:e1.tree=false)(g:b.tree=true):kq (gx (gx (gx m (k:Int) a) (f:Int) e1) (k:Int) b) (IntKind.i64.wrap (IntKind.i64.wrap (t-1)+1)) :=
 ((h.put i c).loose (o:=o) (by rw[oE,EM.kP d];exact j) l h1).Pv (o:=a) (by rw[oE,EM.kP fun e=>d e.symm,oE,EM.kz]) c g
end
theorem ab8{n u v:Nat}:¬ Ad (gw (lH n n) (newF n)) u v:=by
 have one:∀ v u,gL (gw (lH n n) (newF n)) v u->u=0:=fun v u ⟨e,d,hp⟩=>by
  grind [gw,newF,gm,lH,fJ,qt,C4]
 rintro⟨b,c,a|a⟩
 . exact c (one _ _ a)
 . exact b (one _ _ a)
theorem ab9{n k:Nat}(h:k+1<n+1):(fJ (lH n n) (k+1)).key=0:=by
 rw[yL h,if_pos o_]
 rfl
abbrev pU(fL k:Nat):Nat->Int:=fun x=>if fL<=x/\x<fL+k then sY else 0
theorem aap{fL k x:Nat}:(if x=fL+k then(9223372036854775807:Int)else pU fL k x)=pU fL (k+1) x:=by
 unfold pU sY
 grind
theorem iB.new{fN fL:Nat}:iB fN fL (gF []) (fun _ _=>False) (pU fL fN) :=
 ⟨fun k e h=>(by cases h),fun i j=>⟨fun h=>h.elim,fun⟨k,e,h,_⟩=>(by cases h)⟩,fun v hv=>if_pos o_,fun k e h=>(by cases h),fun a b u v ⟨k,e,h,_⟩=>(by cases h),fun k e h=>(by cases h)⟩
end Go.Sx
namespace Go.Sx
open Go
def ig(n c:Nat):Nat:=if c+1=n then 0 else c+1
def dst(n a b:Nat):Nat:=if a<=b then b-a else b+n-a
theorem Kf{n c:Nat}(h:c<n):ig n c<n:=by unfold ig;split<;>omega
theorem ach{n c:Nat}(h:c<n):(c+1)%n=ig n c:=by
 unfold ig
 split
 . rename_i e;rw[e,Nat.mod_self]
 . exact Nat.mod_eq_of_lt o_
theorem EE{n a b:Nat}(c:a<n)(hb:b<n):dst n a b<n:=by unfold dst;split<;>omega
theorem uJ(n a:Nat):dst n a a=0:=by simp[dst]
theorem EG{n a b:Nat}(c:a<n)(hb:b<n):dst n a b=0↔a=b:=by unfold dst;split<;>omega
theorem Ww{n a c:Nat}(b:a<n)(d:c<n)(h:ig n c≠a):dst n a (ig n c)=dst n a c+1:=by
 unfold dst ig at *
 split at h<;>split<;>(try split)<;>(try split)<;>omega
theorem EF{n z c:Nat}(b:z<n)(a:c<n)(h:c≠z):dst n (ig n c) z+1=dst n c z:=by
 unfold dst ig at *
 (repeat' split)<;>omega
theorem ED{n a b c:Nat}(d:a<n)(hb:b<n)(e:c<n)(h:dst n a b=dst n a c):b=c:=by
 unfold dst at h
 (repeat' split at h)<;>omega
abbrev rF(n a b q:Nat):Prop:=dst n a q<dst n a b
def rH(n:Nat)(cs:List Nat)(hm:Nat->Nat):Prop:=∀ c i q,c<n->q<n->fJ cs c=i+1->rF n (hm i) c q->fJ cs q≠0
def uN(n:Nat)(cs:List Nat)(ok:Nat->Bool):Nat->Nat->Nat×Bool
 | 0,_=>(0,false)
 | f+1,c=>if fJ cs c=0 then(c,false)else if ok (fJ cs c-1)then(c,true)else uN n cs ok f (ig n c)
theorem PB{n:Nat}{cs:List Nat}{ok:Nat->Bool}{z:Nat}(i:z<n)(j:fJ cs z=0):∀ (f c:Nat),c<n->dst n c z<f -> 
 ∃ r,r<n/\dst n c r<=dst n c z/\(∀ q,q<n->dst n c q<dst n c r->fJ cs q≠0/\ok (fJ cs q-1)=false)/\((uN n cs ok f c=(r,false)/\fJ cs r=0)\/(uN n cs ok f c=(r,true)/\fJ cs r≠0/\ok (fJ cs r-1)=true)):=by
 intro f
 induction f with
 | zero=>intro c _ h;omega
 | succ f o =>
  intro c a s
  unfold uN
  by_cases h1:fJ cs c=0
  . exact⟨c,a,by rw[uJ];omega,fun q _ b=>by rw[uJ]at b;omega,.inl ⟨by rw[if_pos h1],h1⟩⟩
  . rw[if_neg h1]
    by_cases h2:ok (fJ cs c-1)=true
    . exact⟨c,a,by rw[uJ];omega,fun q _ b=>by rw[uJ]at b;omega,.inr ⟨by rw[if_pos h2],h1,h2⟩⟩
    . rw[if_neg h2]
      have k:c≠z:=fun e=>h1 (by rw[e];exact j)
      have hs:=EF i a k
      obtain⟨r,g,hd,b,m⟩:=o (ig n c) (Kf a) o_
      have l:c≠r:=by
       intro e
       subst e
       have e1:dst n (ig n c) c=n-1:=by unfold dst ig;(repeat' split)<;>omega
       have p:dst n (ig n c) z<n-1:=by
        have:=EE a i
        omega
       omega
      have u:=EF g a l
      refine⟨r,g,o_,fun q d t=>?_,m⟩
      by_cases hqc:c=q
      . subst hqc
        exact⟨h1,by simpa using h2⟩
      . have v:=EF d a hqc
        exact b q d o_
theorem YT{n:Nat}{cs:List Nat}{ok:Nat->Bool}{hm:Nat->Nat}{p i:Nat}(m:rH n cs hm)(hp:p<n)(hi:fJ cs p=i+1)(b:hm i<n)(o:ok i=true)(t:∀ q j,q<n->fJ cs q=j+1->ok j=true->q=p)(u:∃ z,z<n/\fJ cs z=0):uN n cs ok n (hm i)=(p,true):=by
 obtain⟨z,k,v⟩:=u
 obtain⟨r,c,hd,s,h⟩:=PB (ok:=ok) k v n (hm i) b (EE b k)
 rcases h with ⟨d,a⟩|⟨d,a,l⟩
 . exfalso
   rcases xB (dst n (hm i) r) (dst n (hm i) p)with f|f
   . exact m p i r hp c hi f a
   . rcases xB (dst n (hm i) p) (dst n (hm i) r)with g|g
     . have:=(s p hp g).2
       rw[hi,Nat.add_sub_cancel,o]at this
       cases this
     . have e:=ED b c hp o_
       rw[e,hi]at a
       omega
 . have:=t r (fJ cs r-1) c o_ l
   rw[d,this]
theorem YS{n:Nat}{cs:List Nat}{ok:Nat->Bool}{c:Nat}(e:c<n)(i:∀ q j,q<n->fJ cs q=j+1->ok j=false)(o:∃ z,z<n/\fJ cs z=0):∃ r,r<n/\uN n cs ok n c=(r,false)/\fJ cs r=0/\∀ q,q<n->rF n c r q->fJ cs q≠0:=by
 obtain⟨z,g,p⟩:=o
 obtain⟨r,f,hd,k,h⟩:=PB (ok:=ok) g p n c e (EE e g)
 rcases h with ⟨a,b⟩|⟨a,b,d⟩
 . exact⟨r,f,a,b,fun q m l=>(k q m l).1⟩
 . have:=i r (fJ cs r-1) f o_
   rw[this]at d
   cases d
theorem rH.put{n:Nat}{cs:List Nat}{hm:Nat->Nat}{r i:Nat}(h:rH n cs hm)(s:cs.length=n)(u:r<n)(o:fJ cs r=0)(m:∀ q,q<n->rF n (hm i) r q->fJ cs q≠0)(p:hm i<n):rH n (fO cs r (fun _=>i+1)) hm:=by
 intro c j q g d a b
 have l:=fun q=>jh (xs:=cs) (k:=r) (j:=q) (f:=fun _=>i+1) o_
 rw[l]at a ⊢
 split
 . omega
 . rename_i t
   split at a
   . rename_i e
     have:j=i:=by omega
     subst this
     subst e
     exact m q d b
   . exact h c j q g d a b
structure pE (n:Nat) (hm:Nat->Nat) (i0:Nat) (cs0 cs:List Nat) (hole c z:Nat):Prop where
 len:cs.length=n
 wv:hole<n
 N1:c<n
 DN:z<n
 home:∀ p i,p<n->p≠hole->fJ cs p=i+1->hm i<n
 inj:∀ p q,p<n->q<n->p≠hole->q≠hole->fJ cs p≠0->fJ cs p=fJ cs q->p=q
 mem:∀ i,(∃ p,p<n/\p≠hole/\fJ cs p=i+1)↔i≠i0/\∃ p,p<n/\fJ cs0 p=i+1
 way:∀ p i q,p<n->q<n->p≠hole->q≠hole->fJ cs p=i+1->rF n (hm i) p q->fJ cs q≠0
 RE:∀ p i,p<n->p≠hole->fJ cs p=i+1->rF n (hm i) p hole->dst n hole c<dst n hole p
 zero:fJ cs z=0
 zc:dst n hole c<dst n hole z
theorem pE.start{n:Nat}{hm:Nat->Nat}{i0:Nat}{cs:List Nat}{hole z:Nat}(j:rH n cs hm)(l:cs.length=n)(b:hole<n)(hi:fJ cs hole=i0+1)(g:z<n)(h:fJ cs z=0)(k:∀ p i,p<n->fJ cs p=i+1->hm i<n)
 (f:∀ p q,p<n->q<n->fJ cs p≠0->fJ cs p=fJ cs q->p=q):pE n hm i0 cs cs hole hole z:=by
 have o:hole≠z:=fun e=>by rw[e,h]at hi;omega
 refine⟨l,b,b,g,fun p i hp _=>k p i hp,fun p q hp d _ _=>f p q hp d,fun i=>⟨?_,?_⟩,fun p i q hp d _ _ a m=>j p i q hp d a m,fun p i hp c _ _=>?_,h,?_⟩
 . rintro⟨p,hp,c,a⟩
   refine⟨fun e=>c (f p hole hp b o_ (by rw[a,hi,e])),p,hp,a⟩
 . rintro⟨c,p,hp,a⟩
   exact⟨p,hp,fun e=>c (by rw[e,hi]at a;omega),a⟩
 . rw[uJ]
   have:=mt (EG b hp).1 (fun e=>c e.symm)
   omega
 . rw[uJ]
   have:=mt (EG b g).1 o
   omega
section
variable {n:Nat} {hm:Nat->Nat} {i0:Nat} {cs0 cs:List Nat} {hole c z:Nat}
theorem pE.next(h:pE n hm i0 cs0 cs hole c z):ig n c<n/\ig n c≠hole/\dst n hole (ig n c)=dst n hole c+1/\c≠z/\dst n (ig n c) z<dst n c z:=by
 have i:=h.zc
 have a:=h.N1
 have b:=h.wv
 have d:=h.DN
 have f:c≠z:=fun e=>by rw[e]at i;omega
 have hs:=EF d a f
 have g:ig n c≠hole:=by
  intro e
  have:dst n hole c=n-1:=by rw[<-e];unfold dst ig;(repeat' split)<;>omega
  have:=EE b d
  omega
 exact⟨Kf a,g,Ww b a g,f,o_⟩
theorem pE.skip(h:pE n hm i0 cs0 cs hole c z){i:Nat}(hi:fJ cs (ig n c)=i+1)(k:dst n (hm i) (ig n c)<dst n hole (ig n c)):pE n hm i0 cs0 cs hole (ig n c) z:=by
 obtain⟨a,m,o,q,r⟩:=h.next
 refine⟨h.len,h.wv,a,h.DN,h.home,h.inj,h.mem,h.way,fun p j hp b f d=>?_,h.zero,?_⟩
 . have s:=h.RE p j hp b f d
   have:p≠ig n c:=by
    intro e
    subst e
    have:j=i:=by omega
    subst this
    have t:=h.home _ _ a b f
    have l:=h.wv
    unfold rF dst at *
    (repeat' split at d)<;>(repeat' split at k)<;>omega
   have g:dst n hole p≠dst n hole (ig n c):=fun e=>this (ED h.wv hp a e)
   omega
 . have:z≠ig n c:=fun e=>by
    have:=h.zero
    rw[e,hi]at this
    omega
   have g:dst n hole z≠dst n hole (ig n c):=fun e=>this (ED h.wv h.DN a e)
   have:=h.zc
   omega
theorem pE.move(h:pE n hm i0 cs0 cs hole c z){i:Nat}(hi:fJ cs (ig n c)=i+1)(w:¬ dst n (hm i) (ig n c)<dst n hole (ig n c)):pE n hm i0 cs0 (fO cs hole (fun _=>i+1)) (ig n c) (ig n c) z:=by
 obtain⟨b,g,E,F,G⟩:=h.next
 have y:=h.len
 have v:=h.wv
 have x:=h.home _ _ b g hi
 have d:=fun q=>jh (xs:=cs) (k:=hole) (j:=q) (f:=fun _=>i+1) o_
 have C:hole≠z:=fun e=>by
  have:=h.zc
  rw[<-e,uJ]at this
  omega
 have D:z≠ig n c:=fun e=>by
  have:=h.zero
  rw[e,hi]at this
  omega
 have B:rF n (hm i) (ig n c) hole:=by
  unfold rF dst at *
  (repeat' split at w)<;>(repeat' split)<;>omega
 refine⟨by rw[gC];exact y,b,b,h.DN,fun p j hp m a=>?_,fun p q hp o t u s l=>?_,fun j=>?_,fun p j q hp o t u a r=>?_,fun p j hp m a r=>?_,?_,?_⟩
 . rw[d]at a
   split at a
   . have:j=i:=by omega
     subst this
     exact x
   . rename_i A
     exact h.home p j hp (fun e=>A e.symm) a
 . rw[d]at s l
   rw[d]at l
   by_cases e1:hole=p
   . by_cases e2:hole=q
     . omega
     . rw[if_pos e1,if_neg e2]at l
       have:=h.inj q (ig n c) o b (fun e=>e2 e.symm) g o_ o_
       exact absurd this u
   . by_cases e2:hole=q
     . rw[if_neg e1,if_pos e2]at l
       have:=h.inj p (ig n c) hp b (fun e=>e1 e.symm) g o_ o_
       exact absurd this t
     . rw[if_neg e1,if_neg e2]at l
       rw[if_neg e1]at s
       exact h.inj p q hp o (fun e=>e1 e.symm) (fun e=>e2 e.symm) s l
 . rw[<-h.mem j]
   constructor
   . rintro⟨p,hp,m,a⟩
     rw[d]at a
     by_cases e1:hole=p
     . rw[if_pos e1]at a
       exact⟨ig n c,b,g,o_⟩
     . rw[if_neg e1]at a
       exact⟨p,hp,fun e=>e1 e.symm,a⟩
   . rintro⟨p,hp,m,a⟩
     by_cases e1:p=ig n c
     . refine⟨hole,v,fun e=>g e.symm,?_⟩
       rw[d,if_pos rfl]
       rw[e1,hi]at a
       omega
     . refine⟨p,hp,e1,?_⟩
       rw[d,if_neg (fun e=>m e.symm)]
       exact a
 . rw[d]at a ⊢
   by_cases e2:hole=q
   . rw[if_pos e2];omega
   . rw[if_neg e2]
     by_cases e1:hole=p
     . rw[if_pos e1]at a
       have:j=i:=by omega
       subst this
       subst e1
       exact h.way (ig n c) j q b o g (fun e=>e2 e.symm) hi (Nat.lt_trans r B)
     . rw[if_neg e1]at a
       exact h.way p j q hp o (fun e=>e1 e.symm) (fun e=>e2 e.symm) a r
 . rw[uJ]
   have:=mt (EG b hp).1 (fun e=>m e.symm)
   omega
 . rw[d,if_neg C]
   exact h.zero
 . rw[uJ]
   have:=mt (EG b h.DN).1 (fun e=>D e.symm)
   omega
theorem pE.done(h:pE n hm i0 cs0 cs hole c z)(o:fJ cs (ig n c)=0)(F:∃ p,p<n/\fJ cs0 p=i0+1) :
 rH n (fO cs hole (fun _=>0)) hm/\(∀ p q,p<n->q<n->fJ (fO cs hole (fun _=>0)) p≠0->fJ (fO cs hole (fun _=>0)) p=fJ (fO cs hole (fun _=>0)) q->p=q) /\
 (∀ i,(∃ p,p<n/\fJ (fO cs hole (fun _=>0)) p=i+1)↔i≠i0/\∃ p,p<n/\fJ cs0 p=i+1):=by
 obtain⟨r,t,u,D,v⟩:=h.next
 have G:=h.len
 have B:=h.wv
 have d:=fun q=>jh (xs:=cs) (k:=hole) (j:=q) (f:=fun _=>0) o_
 refine⟨fun p i q hp m a l=>?_,fun p q hp m g b=>?_,fun i=>?_⟩
 . rw[d]at a ⊢
   by_cases e1:hole=p
   . rw[if_pos e1]at a;omega
   . rw[if_neg e1]at a
     have E:=h.home p i hp (fun e=>e1 e.symm) a
     by_cases e2:hole=q
     . exfalso
       subst e2
       have w:=h.RE p i hp (fun e=>e1 e.symm) a l
       have x:p≠ig n c:=fun e=>by rw[e,o]at a;omega
       have y:dst n hole p≠dst n hole (ig n c):=fun e=>x (ED B hp r e)
       have A:rF n (hm i) p (ig n c):=by
        have s:dst n hole (ig n c)<dst n hole p:=by omega
        clear w y u v
        unfold rF dst at *
        (repeat' split at l)<;>(repeat' split at s)<;>(repeat' split)<;>omega
       exact h.way p i (ig n c) hp r (fun e=>e1 e.symm) t a A o
     . rw[if_neg e2]
       exact h.way p i q hp m (fun e=>e1 e.symm) (fun e=>e2 e.symm) a l
 . rw[d]at g b
   rw[d]at b
   by_cases e1:hole=p
   . rw[if_pos e1]at g;omega
   . rw[if_neg e1]at g b
     by_cases e2:hole=q
     . rw[if_pos e2]at b;omega
     . rw[if_neg e2]at b
       exact h.inj p q hp m (fun e=>e1 e.symm) (fun e=>e2 e.symm) g b
 . rw[<-h.mem i]
   constructor
   . rintro⟨p,hp,a⟩
     rw[d]at a
     by_cases e1:hole=p
     . rw[if_pos e1]at a;omega
     . rw[if_neg e1]at a
       exact⟨p,hp,fun e=>e1 e.symm,a⟩
   . rintro⟨p,hp,C,a⟩
     exact⟨p,hp,by rw[d,if_neg (fun e=>C e.symm)];exact a⟩
end
end Go.Sx
namespace Go.Sx
open Go
structure AW where
 bv:Value
 A:As
structure AW.put (A A2:As) (i:Nat):Prop where
 n:A2.n=A.n
 used:A2.used=A.used+1
 gW:∀ j,A2.gW j↔A.gW j\/j=i
 new:¬ A.gW i
 oV:(i<A.begun/\A2.begun=A.begun)\/(i=A.begun/\A2.begun=A.begun+1)
structure AW.del (A A2:As) (i:Nat):Prop where
 n:A2.n=A.n
 oV:A2.begun=A.begun
 used:A2.used=A.used-1
 pos:0<A.used
 gW:∀ j,A2.gW j↔A.gW j/\j≠i
def kQ(a:Int):Int:=(tG .xor .u64 a (a.fdiv (2 ^ 33))).getD 0
def mh(c a:Int):Int:=IntKind.u64.wrap (a*c)
def AK(id:Int):Int:=kQ (mh 14181476777654086739 (kQ (mh 18397679294719823053 (kQ id))))
def kG(n:Nat)(id:Int):Nat:=(AK id%(n:Int)).toNat
theorem x8{n:Nat}{id:Int}(h:0<n):kG n id<n:=by
 have a:=Int.emod_lt_of_pos (AK id) (show (0:Int)<n by omega)
 have b:=DG (AK id) (show (n:Int)≠0 by omega)
 unfold kG
 omega
theorem ZN{n:Nat}{id:Int}(h:0<n):AK id%(n:Int)=(kG n id:Int):=by
 have a:=DG (AK id) (show (n:Int)≠0 by omega)
 unfold kG
 omega
def P2(n:Nat):Prop:=∃ k,k<=40/\n=2 ^ k
theorem P2.pos{n:Nat}(h:P2 n):0<n:=by
 obtain⟨k,_,rfl⟩:=h
 exact Nat.two_pow_pos k
theorem P2.le{n:Nat}(h:P2 n):n<=1099511627776:=by
 obtain⟨k,a,rfl⟩:=h
 calc 2 ^ k<=2 ^ 40:=Nat.pow_le_pow_right d_ a
  _=1099511627776:=by decide
theorem P2.TM{n:Nat}(h:P2 n)(x:Int):((BitVec.ofInt 64 x) &&& (BitVec.ofInt 64 ((n:Int)-1))).toNat=(x%(n:Int)).toNat:=by
 have g:=h.pos
 have f:=h.le
 obtain⟨k,d,rfl⟩:=h
 rw[BitVec.toNat_and,BitVec.toNat_ofInt,BitVec.toNat_ofInt]
 have e:(((2 ^ k:Nat):Int)-1)%((2 ^ 64:Nat):Int)=((2 ^ k-1:Nat):Int):=by
  grind
 rw[e,nt,Nat.and_two_pow_sub_one_eq_mod]
 have hd:(((2 ^ k:Nat):Int)) ∣ ((2 ^ 64:Nat):Int):=by
  refine Int.natCast_dvd_natCast.2 (Nat.pow_dvd_pow 2 o_)
 have c:0<=x%((2 ^ 64:Nat):Int):=DG _ d_
 have a:=Int.emod_emod_of_dvd x hd
 have b:((x%((2 ^ 64:Nat):Int)).toNat%2 ^ k:Nat)=((x%((2 ^ 64:Nat):Int))%((2 ^ k:Nat):Int)).toNat:=by
  grind
 rw[b,a]
theorem P2.Ns{n:Nat}(h:P2 n)(x:Int):tG .and .i64 x ((n:Int)-1)=some (x%(n:Int)):=by
 have a:=Int.emod_lt_of_pos x (show (0:Int)<n by have:=h.pos;omega)
 have b:=DG x (show (n:Int)≠0 by have:=h.pos;omega)
 have c:=h.le
 have e:=h.TM x
 show some (IntKind.i64.wrap (((BitVec.ofInt 64 x) &&& (BitVec.ofInt 64 ((n:Int)-1))).toNat:Int))=_
 rw[e,ox o_]
 congr 1
 omega
theorem P2.U0{n:Nat}(h:P2 n)(x:Int):tG .and .u64 x ((n:Int)-1)=some (x%(n:Int)):=by
 have a:=Int.emod_lt_of_pos x (show (0:Int)<n by have:=h.pos;omega)
 have b:=DG x (show (n:Int)≠0 by have:=h.pos;omega)
 have c:=h.le
 have e:=h.TM x
 show some (IntKind.u64.wrap (((BitVec.ofInt 64 x) &&& (BitVec.ofInt 64 ((n:Int)-1))).toNat:Int))=_
 rw[e,GA o_]
 congr 1
 omega
theorem P2.nx{n c:Nat}(h:P2 n)(a:c<n):tG .and .i64 ((c:Int)+1) ((n:Int)-1)=some ((ig n c:Nat):Int):=by
 rw[h.Ns,<-ach a]
 rfl
theorem P2.dst{n a b:Nat}(h:P2 n)(c:a<n)(hb:b<n):tG .and .i64 ((b:Int)-(a:Int)) ((n:Int)-1)=some ((dst n a b:Nat):Int):=by
 rw[h.Ns]
 congr 1
 unfold Sx.dst
 split
 . rw[Int.emod_eq_of_lt o_ o_]
   omega
 . rw[show (b:Int)-(a:Int)=((b:Int)-a+n)+n*(-1) by omega,Int.add_mul_emod_self_left,Int.emod_eq_of_lt o_ o_]
   omega
theorem LK(a:Int):tG .xor .u64 a (a.fdiv (2 ^ 33))=some (kQ a):=rfl
theorem P2.home{n:Nat}(h:P2 n)(id:Int):tG .and .u64 (AK id) ((n:Int)-1)=some ((kG n id:Nat):Int):=by
 rw[h.U0,ZN h.pos]
def iw(x:Int):List Value:=[.int .u64 x]
structure TW where
 iv:Value
 cv:Value
 w:AW
 ids:List Int
 cs:List Nat
abbrev TW.A(t:TW):As:=t.w.A
abbrev TW.n(t:TW):Nat:=t.cs.length
structure TW.ok (t:TW):Prop where
 p2:P2 t.n
 top:t.n<=1000000
 two:2<=t.n
 room:2*t.A.n<=t.n
 an:t.A.n<=65536
 tK:t.ids.length=t.A.begun
 ids:∀ i,gZ .u64 (fJ t.ids i)
 cell:∀ i,(∃ p,p<t.n/\fJ t.cs p=i+1)↔t.A.gW i
 inj:∀ p q,p<t.n->q<t.n->fJ t.cs p≠0->fJ t.cs p=fJ t.cs q->p=q
 uniq:∀ i j,t.A.gW i->t.A.gW j->fJ t.ids i=fJ t.ids j->i=j
 FP:rH t.n t.cs (fun i=>kG t.n (fJ t.ids i))
 oV:t.A.begun<=t.A.n
 ul:t.A.used<=t.A.n
structure TW.Sz (n:Nat):Prop where
 p2:P2 n
 two:2<=n
 top:n<=1000000
theorem TW.ok.sz{t:TW}(h:t.ok):TW.Sz t.n:=⟨h.p2,h.two,h.top⟩
def TW.mem(t:TW)(id:Int):Prop:=∃ i,t.A.gW i/\fJ t.ids i=id
theorem TW.ok.val{t:TW}(h:t.ok){p i:Nat}(hp:p<t.n)(c:fJ t.cs p=i+1):t.A.gW i/\i<t.A.begun/\i<t.ids.length/\i<t.A.n:=by
 have a:=(h.cell i).1 ⟨p,hp,c⟩
 have b:=a.1
 have d:=h.tK
 have e:=h.oV
 exact⟨a,b,o_,o_⟩
theorem TW.ok.zero{t:TW}(h:t.ok):∃ z,z<t.n/\fJ t.cs z=0:=by
 by_cases hz:∃ z,z<t.n/\fJ t.cs z=0
 . exact hz
 . exfalso
   have a:∀ p,p<t.n->fJ t.cs p≠0:=fun p hp c=>hz ⟨p,hp,c⟩
   have d:((List.range t.n).map fun p=>fJ t.cs p-1).length<=t.A.n:=by
    refine AU _ _ ?_ ?_
    . unfold List.Nodup
      rw[Hi]
      refine List.Pairwise.imp_of_mem ?_ (List.pairwise_lt_range (n:=t.n))
      intro p q hp b g e
      rw[k9]at hp b
      have a1:=a p hp
      have a2:=a q b
      have:=h.inj p q hp b a1 o_
      omega
    . intro j f
      obtain⟨p,hp,rfl⟩:=zz.1 f
      rw[k9]at hp
      have a1:=a p hp
      exact(h.val hp (i:=fJ t.cs p-1) o_).2.2.2
   rw[zq,p7]at d
   have:=h.room
   have:=h.two
   omega
def TW.find(t:TW)(id:Int):Nat×Bool:=uN t.n t.cs (fun i=>fJ t.ids i==id) t.n (kG t.n id)
theorem TW.ok.I3{t:TW}(h:t.ok){i:Nat}(hi:t.A.gW i):∃ p,p<t.n/\fJ t.cs p=i+1/\t.find (fJ t.ids i)=(p,true):=by
 obtain⟨p,hp,a⟩:=(h.cell i).2 hi
 refine⟨p,hp,a,?_⟩
 refine YT (hm:=fun i=>kG t.n (fJ t.ids i)) h.FP hp a (x8 (by have:=h.two;omega)) s_ ?_ h.zero
 intro q j b c e
 have d:=(h.val b c).1
 have:=h.uniq j i d hi (by simpa using e)
 subst this
 exact h.inj q p b hp o_ o_
theorem TW.ok.PC{t:TW}(h:t.ok){id:Int}(c:¬ t.mem id):∃ r,r<t.n/\t.find id=(r,false)/\fJ t.cs r=0/\∀ q,q<t.n->rF t.n (kG t.n id) r q->fJ t.cs q≠0:=by
 refine YS (x8 (by have:=h.two;omega)) ?_ h.zero
 intro q j d a
 have b:=(h.val d a).1
 have:fJ t.ids j≠id:=fun e=>c ⟨j,b,e⟩
 simpa using this
def tT(ids:List Int)(i:Nat)(id:Int):List Int:=fO (if i=ids.length then ids++[0]else ids) i (fun _=>id)
theorem R7{ids:List Int}{i:Nat}{id:Int}(h:i<=ids.length)(j:Nat):fJ (tT ids i id) j=if i=j then id else fJ ids j:=by
 grind [tT,jh,fJ]
theorem adk{ids:List Int}{i:Nat}{id:Int}(h:i<=ids.length):(tT ids i id).length=if i=ids.length then ids.length+1 else ids.length:=by
 unfold tT
 rw[gC]
 split<;>simp
section
variable {t:TW}
theorem TW.ok.put(h:t.ok){id:Int}(G:¬ t.mem id)(L:gZ .u64 id){v2:AW}{i r:Nat}(B:v2.A.ok)(hp:AW.put t.A v2.A i)(C:r<t.n)(D:fJ t.cs r=0)(P:∀ q,q<t.n->rF t.n (kG t.n id) r q->fJ t.cs q≠0)(iv cv:Value){is2:List Int}{cs2:List Nat}(E:is2=tT t.ids i id)(hcs:cs2=fO t.cs r (fun _=>i+1)) :
 TW.ok ⟨iv,cv,v2,is2,cs2⟩/\∀ x,TW.mem ⟨iv,cv,v2,is2,cs2⟩ x↔t.mem x\/x=id:=by
 have Q:=h.tK
 have F:i<=t.ids.length:=by
  rcases hp.oV with d|d<;>omega
 have m:∀ j,fJ is2 j=if i=j then id else fJ t.ids j:=by rw[E];exact R7 F
 have y:∀ q,fJ cs2 q=if r=q then i+1 else fJ t.cs q:=by rw[hcs];exact fun q=>jh C
 have o:cs2.length=t.n:=by rw[hcs];exact gC
 have O:is2.length=if i=t.ids.length then t.ids.length+1 else t.ids.length:=by rw[E];exact adk F
 have v:=hp.gW
 have H:=hp.new
 have w:∀ j,t.A.gW j->i≠j:=fun j g e=>H (e▸g)
 have N:∀ x,TW.mem ⟨iv,cv,v2,is2,cs2⟩ x↔t.mem x\/x=id:=by
  intro x
  constructor
  . rintro⟨j,g,u⟩
    change fJ is2 j=x at u
    rw[m]at u
    split at u
    . exact .inr u.symm
    . rename_i M
      rcases(v j).1 g with d|d
      . exact .inl ⟨j,d,u⟩
      . exact absurd d.symm M
  . rintro(⟨j,g,u⟩|rfl)
    . exact⟨j,(v j).2 (.inl g),by show fJ is2 j=x;rw[m,if_neg (w j g)];exact u⟩
    . exact⟨i,(v i).2 (.inr rfl),by show fJ is2 i=x;rw[m,if_pos rfl]⟩
 have R:∀ p,p<t.n->fJ t.cs p≠i+1:=fun p k f=>H (h.val k f).1
 refine⟨⟨?_,?_,?_,?_,?_,?_,?_,?_,?_,?_,?_,?_,?_⟩,N⟩
 . show P2 cs2.length;rw[o];exact h.p2
 . show cs2.length<=_;rw[o];exact h.top
 . show 2<=cs2.length;rw[o];exact h.two
 . show 2*v2.A.n<=cs2.length;rw[o,hp.n];exact h.room
 . show v2.A.n<=_;rw[hp.n];exact h.an
 . show is2.length=v2.A.begun
   rw[O]
   rcases hp.oV with d|d
   . rw[if_neg o_];omega
   . rw[if_pos o_];omega
 . intro j
   show gZ .u64 (fJ is2 j)
   rw[m]
   split
   . exact L
   . exact h.ids j
 . intro j
   show (∃ p,p<cs2.length/\fJ cs2 p=j+1)↔v2.A.gW j
   rw[o,v]
   constructor
   . rintro⟨p,k, f⟩
     rw[y]at f
     split at f
     . exact .inr o_
     . exact .inl ((h.cell j).1 ⟨p,k, f⟩)
   . rintro(d|rfl)
     . obtain⟨p,k, f⟩:=(h.cell j).2 d
       refine⟨p,k, ?_⟩
       rw[y,if_neg (fun e=>by rw[e,f]at D;omega)]
       exact f
     . exact⟨r,C,by rw[y,if_pos rfl]⟩
 . intro p q k s
   show fJ cs2 p≠0->fJ cs2 p=fJ cs2 q->p=q
   change p<cs2.length at k
   change q<cs2.length at s
   rw[o]at k s
   rw[y,y]
   intro a b
   by_cases d:r=p
   . grind
   . by_cases l:r=q
     . grind
     . rw[if_neg d,if_neg l]at b
       rw[if_neg d]at a
       exact h.inj p q k s a b
 . intro a b K hb
   show fJ is2 a=fJ is2 b->a=b
   rw[m,m]
   intro e
   rcases(v a).1 K with d|d<;>rcases(v b).1 hb with l|l
   . rw[if_neg (w a d),if_neg (w b l)]at e
     exact h.uniq a b d l e
   . rw[if_neg (w a d),if_pos l.symm]at e
     exact absurd ⟨a,d,e⟩ G
   . rw[if_pos d.symm,if_neg (w b l)]at e
     exact absurd ⟨b,l,e.symm⟩ G
   . omega
 . show rH cs2.length _ (fun j=>kG cs2.length (fJ is2 j))
   rw[o]
   have I:rH t.n t.cs (fun j=>kG t.n (fJ is2 j)):=by
    intro c j q f s g z
    have d:=w j (h.val f g).1
    simp only[m,if_neg d]at z
    exact h.FP c j q f s g z
   have J:=I.put rfl C D (i:=i) (by
    intro q s z
    simp only[m,if_pos]at z
    exact P q s z) (x8 (by have:=h.two;omega))
   rw[hcs]
   exact J
 . show v2.A.begun<=v2.A.n
   exact B.le
 . show v2.A.used<=v2.A.n
   have:=B.used
   have:=B.le
   omega
end
section
variable {t:TW}
def TW.rest(t:TW)(id:Int)(k c:Nat):Prop:=t.find id=uN t.n t.cs (fun i=>fJ t.ids i==id) (t.n-k) c
theorem TW.adJ(t:TW)(id:Int):t.rest id 0 (kG t.n id):=rfl
theorem TW.KD{id:Int}{k c:Nat}(h:t.rest id k c)(hk:k<t.n):t.find id=if fJ t.cs c=0 then(c,false)else if (fJ t.ids (fJ t.cs c-1)==id)=true then(c,true)else uN t.n t.cs (fun i=>fJ t.ids i==id) (t.n-(k+1)) (ig t.n c):=by
 have e:t.n-k=(t.n-(k+1))+1:=by omega
 unfold TW.rest at h
 rw[e]at h
 exact h
theorem TW.adK{id:Int}{k c:Nat}(h:t.rest id k c)(hk:k<t.n)(a:fJ t.cs c=0):t.find id=(c,false):=by
 rw[TW.KD h hk,if_pos a]
theorem TW.adH{id:Int}{k c j:Nat}(h:t.rest id k c)(hk:k<t.n)(b:fJ t.cs c=j+1)(a:fJ t.ids j=id):t.find id=(c,true):=by
 rw[TW.KD h hk,if_neg o_,if_pos (by rw[b];simpa using a)]
theorem TW.adI{id:Int}{k c j:Nat}(h:t.rest id k c)(hk:k<t.n)(b:fJ t.cs c=j+1)(a:fJ t.ids j≠id):t.rest id (k+1) (ig t.n c):=by
 have:=TW.KD h hk
 rw[if_neg o_,if_neg (by rw[b];simpa using a)]at this
 exact this
theorem TW.adG{id:Int}{c:Nat}(h:t.rest id t.n c):t.find id=(0,false):=by
 unfold TW.rest at h
 rw[Nat.sub_self]at h
 exact h
end
def TW.mA(t:TW)(id:Int)(z:Nat)(b:Bool):Prop:=(b=true/\t.A.gW z/\fJ t.ids z=id)\/(b=false/\z=0/\¬ t.mem id)
section
variable {t:TW}
theorem TW.ok.del(h:t.ok){i:Nat}(hi:t.A.gW i){v2:AW}(r:v2.A.ok)(hd:AW.del t.A v2.A i){cs2:List Nat}(m:cs2.length=t.n)
 (o:rH t.n cs2 (fun j=>kG t.n (fJ t.ids j))/\(∀ p q,p<t.n->q<t.n->fJ cs2 p≠0->fJ cs2 p=fJ cs2 q->p=q)/\(∀ s,(∃ p,p<t.n/\fJ cs2 p=s+1)↔s≠i/\∃ p,p<t.n/\fJ t.cs p=s+1)) (iv cv:Value) {is2:List Int} (v:is2=fO t.ids i (fun _=>0)) :
 TW.ok ⟨iv,cv,v2,is2,cs2⟩/\∀ x,TW.mem ⟨iv,cv,v2,is2,cs2⟩ x↔t.mem x/\x≠fJ t.ids i:=by
 obtain⟨B,H,y⟩:=o
 have D:i<t.ids.length:=by have:=hi.1;have:=h.tK;omega
 have g:∀ j,fJ is2 j=if i=j then 0 else fJ t.ids j:=by rw[v];exact fun j=>jh D
 have l:=hd.gW
 have G:∀ j,(∃ p,p<t.n/\fJ cs2 p=j+1)↔v2.A.gW j:=by
  intro j
  rw[y,l,h.cell]
  exact And.comm
 refine⟨⟨?_,?_,?_,?_,?_,?_,?_,?_,?_,?_,?_,?_,?_⟩,fun x=>⟨?_,?_⟩⟩
 . show P2 cs2.length;rw[m];exact h.p2
 . show cs2.length<=_;rw[m];exact h.top
 . show 2<=cs2.length;rw[m];exact h.two
 . show 2*v2.A.n<=cs2.length;rw[m,hd.n];exact h.room
 . show v2.A.n<=_;rw[hd.n];exact h.an
 . show is2.length=v2.A.begun;rw[v,gC,hd.oV];exact h.tK
 . intro j
   show gZ .u64 (fJ is2 j)
   rw[g]
   split
   . exact⟨d_,d_⟩
   . exact h.ids j
 . grind
 . grind
 . intro a b C hb
   show fJ is2 a=fJ is2 b->a=b
   have d:=(l a).1 C
   have u:=(l b).1 hb
   rw[g,g,if_neg (fun e=>d.2 e.symm),if_neg (fun e=>u.2 e.symm)]
   exact h.uniq a b d.1 u.1
 . show rH cs2.length _ (fun j=>kG cs2.length (fJ is2 j))
   rw[m]
   intro c j q o F k z
   have d:j≠i:=((y j).1 ⟨c,o,k⟩).1
   simp only[g,if_neg (fun e=>d e.symm:¬ i=j)]at z
   exact B c j q o F k z
 . show v2.A.begun<=v2.A.n
   exact r.le
 . show v2.A.used<=v2.A.n
   have:=r.used
   have:=r.le
   omega
 . rintro⟨j,k,f⟩
   change fJ is2 j=x at f
   have d:=(l j).1 k
   rw[g,if_neg (fun e=>d.2 e.symm)]at f
   exact⟨⟨j,d.1,f⟩,fun e=>d.2 (h.uniq j i d.1 hi (f.trans e))⟩
 . rintro⟨⟨j,k,f⟩,E⟩
   have w:j≠i:=fun e=>E (by rw[<-f,e])
   exact⟨j,(l j).2 ⟨k,w⟩,by show fJ is2 j=x;rw[g,if_neg (fun e=>w e.symm)];exact f⟩
theorem TW.ok.copy(h:t.ok){v2:AW}{f:List (Option Nat)}(hv:v2.A={ t.A with ps:=f })(iv cv:Value):TW.ok ⟨iv,cv,v2,t.ids,t.cs⟩/\∀ x,TW.mem ⟨iv,cv,v2,t.ids,t.cs⟩ x↔t.mem x:=by
 have c:∀ j,v2.A.gW j↔t.A.gW j:=fun j=>by rw[hv];rfl
 have e1:v2.A.n=t.A.n:=by rw[hv]
 have d:v2.A.begun=t.A.begun:=by rw[hv]
 refine⟨⟨h.p2,h.top,h.two,?_,?_,?_,h.ids,?_,h.inj,?_,h.FP,?_,?_⟩,fun x=>?_⟩
 . show 2*v2.A.n<=_;rw[e1];exact h.room
 . show v2.A.n<=_;rw[e1];exact h.an
 . show t.ids.length=v2.A.begun;rw[d];exact h.tK
 . exact fun i=>(h.cell i).trans (c i).symm
 . exact fun a b e hb=>h.uniq a b ((c a).1 e) ((c b).1 hb)
 . show v2.A.begun<=v2.A.n;rw[e1,d];exact h.oV
 . show v2.A.used<=v2.A.n;rw[hv];exact h.ul
 . exact exists_congr fun i=>and_congr_left fun _=>c i
theorem P2.two:P2 2:=⟨1,d_,rfl⟩
theorem P2.Wm{n:Nat}(h:P2 n)(b:n<=1000000):P2 (n*2):=by
 obtain⟨k,a,rfl⟩:=h
 refine⟨k+1,?_,by rw[DM]⟩
 by_cases h9:k+1<=40
 . exact h9
 . grind
theorem TW.tQ{m n:Nat}{v:AW}(hv:v.A=As.new m)(hm:m<=65536)(r:P2 n)(h1:2<=n)(l:2*m<=n)(o:n<=1000000)(iv cv:Value):TW.ok ⟨iv,cv,v,[],List.replicate n 0⟩/\∀ x,¬ TW.mem ⟨iv,cv,v,[],List.replicate n 0⟩ x:=by
 have s:(List.replicate n 0).length=n:=xq
 have k:∀ p,fJ (List.replicate n 0) p=0:=by
  intro p
  simp only[fJ,uh]
  split<;>rfl
 have f:∀ j,¬ v.A.gW j:=fun j d=>by rw[hv]at d;exact absurd d.1 (by simp[As.new])
 have e1:v.A.n=m:=by rw[hv];rfl
 have g:v.A.begun=0:=by rw[hv];rfl
 refine⟨⟨?_,?_,?_,?_,?_,?_,?_,?_,?_,?_,?_,?_,?_⟩,fun x ⟨j,d,_⟩=>f j d⟩
 . grind
 . grind
 . grind
 . grind
 . show v.A.n<=_;rw[e1];exact hm
 . grind
 . intro j
   have e:fJ ([]:List Int) j=0:=by show (none:Option Int).getD default=0;rfl
   show gZ .u64 (fJ ([]:List Int) j)
   rw[e]
   exact⟨d_,d_⟩
 . grind
 . intro p q _ _ h
   exact absurd (k p) h
 . exact fun a b i=>absurd i (f a)
 . intro c j q _ _ d
   grind
 . show v.A.begun<=v.A.n;rw[g];omega
 . show v.A.used<=v.A.n;rw[hv];exact oO _
end
end Go.Sx
namespace Go.Sx
open Go
structure Lv where
 slot:Int
 seq:Int
 u:Int
 v:Int
 wt:Int
 t:Int
 exp:Int
structure Cf where
 win:Int
 fL:Int
 fN:Int
 kK:Int
instance:Inhabited Lv:=⟨⟨0,0,0,0,0,0,0⟩⟩
def Lv.cells(x:Lv):List Value:=[.int .i64 x.slot,.int .u64 x.seq,.int .u64 x.u,.int .u64 x.v,.int .i64 x.wt,.int .i64 x.t,.int .i64 x.exp]
structure Lv.ok (x:Lv):Prop where
 slot:gZ .i64 x.slot
 seq:gZ .u64 x.seq
 u:gZ .u64 x.u
 v:gZ .u64 x.v
 wt:gZ .i64 x.wt
 t:gZ .i64 x.t
 exp:gZ .i64 x.exp
end Go.Sx
namespace Go.Sx
open Go
end Go.Sx
namespace Go.Sx
open Go
structure fU where
 jb:Nat
 tb:Nat
 ab:Nat
 mb:Nat
 lv:Value
 last:Int
 aw:AW
 t:TW
 live:List Lv
 im:IM
abbrev fU.A(s:fU):As:=s.aw.A
abbrev Lv.at(x:Lv)(id:Int):Prop:=x.u=id\/x.v=id
def fU.inc(s:fU)(id:Int):List Nat:=(fT s.im id).2
structure fU.ok (fN fL:Nat) (s:fU):Prop where
 n:s.A.n=fL
 tn:s.t.A.n=fN
 en:fL<=16384
 vn:fN<=4096
 kW:s.A.ok
 tok:s.t.ok
 ll:s.live.length=s.A.begun
 slot:∀ i,s.A.gW i->(fJ s.live i).slot=(i:Int)
 Fl:∀ i,(fJ s.live i).ok
 ne:∀ i,s.A.gW i->(fJ s.live i).u≠(fJ s.live i).v
 mem:∀ id,s.t.mem id↔∃ i,s.A.gW i/\(fJ s.live i).at id
 keys:(s.im.map Prod.fst).Nodup
 inc:∀ id i,i∈s.inc id↔s.A.gW i/\(fJ s.live i).at id
 nd:∀ id,(s.inc id).Nodup
 empty:∀ id,gV s.im id=none↔s.inc id=[]
 seq:∀ i,s.A.gW i->(fJ s.live i).seq<=s.last
 Ga:∀ i j,s.A.gW i->s.A.gW j->(fJ s.live i).seq=(fJ s.live j).seq->i=j
 sV:0<=s.last
def fU.has(s:fU)(x:Lv):Prop:=∃ i,s.A.gW i/\fJ s.live i=x
noncomputable def TW.cnt(t:TW)(id:Int):Nat:=by
 classical
 exact if t.mem id then 0 else 1
theorem TW.v7{t:TW}{id:Int}(h:t.mem id):t.cnt id=0:=by unfold TW.cnt;exact if_pos h
theorem TW.tH{t:TW}{id:Int}(h:¬ t.mem id):t.cnt id=1:=by unfold TW.cnt;exact if_neg h
theorem TW.mA.cnt{t:TW}{id:Int}{z:Nat}{b:Bool}(h:t.mA id z b):t.cnt id=if b then 0 else 1:=by
 rcases h with ⟨rfl,a,c⟩|⟨rfl,_,h⟩
 . exact TW.v7 ⟨z,a,c⟩
 . exact TW.tH h
noncomputable def fU.gN(s:fU)(fN fL:Nat)(u v:Int):Int:=by
 classical
 exact if u=v then 9 else if fL<=s.A.used then 12 else if fN<s.t.A.used+(s.t.cnt u+s.t.cnt v)then 11 else 0
theorem fU.NV{s:fU}{fN fL:Nat}{u v:Int}(h:u=v):s.gN fN fL u v=9:=by unfold fU.gN;rw[if_pos h]
theorem fU.NU{s:fU}{fN fL:Nat}{u v:Int}(h:u≠v)(h1:fL<=s.A.used):s.gN fN fL u v=12:=by unfold fU.gN;rw[if_neg h,if_pos h1]
theorem fU.Ch{s:fU}{fN fL:Nat}{u v:Int}(h:u≠v)(h1:¬ fL<=s.A.used)(a:fN<s.t.A.used+(s.t.cnt u+s.t.cnt v)):s.gN fN fL u v=11:=by unfold fU.gN;rw[if_neg h,if_neg h1,if_pos a]
theorem fU.Ay{s:fU}{fN fL:Nat}{u v:Int}(h:u≠v)(h1:¬ fL<=s.A.used)(a:¬ fN<s.t.A.used+(s.t.cnt u+s.t.cnt v)):s.gN fN fL u v=0:=by unfold fU.gN;rw[if_neg h,if_neg h1,if_neg a]
theorem fU.EA{s:fU}{fN fL:Nat}{u v:Int}(h:s.gN fN fL u v=0):u≠v/\s.A.used<fL/\s.t.A.used+(s.t.cnt u+s.t.cnt v)<=fN:=by
 grind [fU.NV,fU.NU,fU.Ch]
def yP(ls:List Lv)(i:Nat)(x:Lv):List Lv:=fO (if i=ls.length then ls++[default]else ls) i (fun _=>x)
theorem adl{ls:List Lv}{i:Nat}{x:Lv}(h:i<=ls.length)(j:Nat):fJ (yP ls i x) j=if i=j then x else fJ ls j:=by
 grind [yP,jh,fJ]
theorem adm{ls:List Lv}{i:Nat}{x:Lv}(h:i<=ls.length):(yP ls i x).length=if i=ls.length then ls.length+1 else ls.length:=by
 unfold yP
 rw[gC]
 split<;>simp
section
variable {fN fL:Nat} {s:fU}
theorem fU.ok.ins(h:s.ok fN fL){e:Lv}{i:Nat}{l:AW}{p:TW}(hp:AW.put s.A l.A i)(q:l.A.ok)(S:p.ok)(J:e.slot=(i:Int))(w:e.seq=s.last+1)(I:e.ok)(N:e.u≠e.v)
 (Q:∀ x,p.mem x↔(s.t.mem x\/x=e.u)\/x=e.v) (R:p.A.n=s.t.A.n) {lv2 G v2:Value} {ls:List Lv} (E:ls=yP s.live i e) {im2:IM}
 (C:im2=gx (gx s.im e.u (G,s.inc e.u++[i])) e.v (v2,s.inc e.v++[i])) :
 fU.ok fN fL ⟨s.jb,s.tb,s.ab,s.mb,lv2,s.last+1,l,p,ls,im2⟩/\∀ x,fU.has ⟨s.jb,s.tb,s.ab,s.mb,lv2,s.last+1,l,p,ls,im2⟩ x↔s.has x\/x=e:=by
 have U:=h.ll
 have D:i<=s.live.length:=by
  rcases hp.oV with c|c<;>omega
 have r:∀ j,fJ ls j=if i=j then e else fJ s.live j:=by rw[E];exact adl D
 have M:ls.length=if i=s.live.length then s.live.length+1 else s.live.length:=by rw[E];exact adm D
 have f:=hp.gW
 have F:=hp.new
 have O:∀ j,s.A.gW j->i≠j:=fun j d e=>F (e▸d)
 have g:∀ j,s.A.gW j->fJ ls j=fJ s.live j:=fun j d=>by rw[r,if_neg (O j d)]
 have m:fJ ls i=e:=by rw[r,if_pos rfl]
 have B:∀ id,gV im2 id=if e.v=id then some (v2,s.inc e.v++[i])else if e.u=id then some (G,s.inc e.u++[i])else gV s.im id:=by
  intro id
  rw[C,wG,wG]
 have y:∀ id,(fT im2 id).2=if e.v=id then s.inc e.v++[i]else if e.u=id then s.inc e.u++[i]else s.inc id:=by
  intro id
  unfold fT
  rw[B]
  split
  . rfl
  . split
    . rfl
    . rfl
 have P:∀ id,i∉s.inc id:=fun id hi=>F ((h.inc id i).1 hi).1
 refine⟨⟨?_,?_,h.en,h.vn,q,S,?_,?_,?_,?_,?_,?_,?_,?_,?_,?_,?_,?_⟩,fun x=>⟨?_,?_⟩⟩
 . exact hp.n.trans h.n
 . exact R.trans h.tn
 . show ls.length=l.A.begun
   rw[M]
   rcases hp.oV with c|c
   . rw[if_neg o_];omega
   . rw[if_pos o_];omega
 . intro j d
   show (fJ ls j).slot=(j:Int)
   rcases(f j).1 d with c|rfl
   . rw[g j c];exact h.slot j c
   . rw[m];exact J
 . intro j
   show (fJ ls j).ok
   rw[r]
   split
   . exact I
   . exact h.Fl j
 . intro j d
   show (fJ ls j).u≠(fJ ls j).v
   rcases(f j).1 d with c|rfl
   . rw[g j c];exact h.ne j c
   . rw[m];exact N
 . intro id
   show p.mem id↔∃ j,l.A.gW j/\(fJ ls j).at id
   rw[Q,h.mem]
   constructor
   . rintro((⟨j,d,k⟩|rfl)|rfl)
     . grind
     . grind
     . grind
   . rintro⟨j,d,k⟩
     rcases(f j).1 d with c|rfl
     . grind
     . grind
 . show (im2.map Prod.fst).Nodup
   rw[C]
   exact wL (wL h.keys _ _) _ _
 . intro id j
   show j∈(fT im2 id).2↔l.A.gW j/\(fJ ls j).at id
   rw[y,f]
   have T:=h.inc id j
   grind [fJ]
 . intro id
   show (fT im2 id).2.Nodup
   rw[y]
   have z:∀ id,(s.inc id++[i]).Nodup:=fun id=>zu.2 ⟨h.nd id,s_,fun a q b hb=>by
    rw[lR]at hb
    subst hb
    rintro rfl
    exact P id q⟩
   split
   . exact z _
   . split
     . exact z _
     . exact h.nd id
 . intro id
   show gV im2 id=none↔(fT im2 id).2=[]
   rw[y,B]
   split
   . simp
   . split
     . simp
     . exact h.empty id
 . intro j d
   show (fJ ls j).seq<=s.last+1
   rcases(f j).1 d with c|rfl
   . rw[g j c];have:=h.seq j c;omega
   . rw[m,w];omega
 . intro a b K L
   show (fJ ls a).seq=(fJ ls b).seq->a=b
   rcases(f a).1 K with c|c<;>rcases(f b).1 L with o|o
   . rw[g a c,g b o];exact h.Ga a b c o
   . rw[g a c,o,m,w];intro H;have:=h.seq a c;omega
   . rw[g b o,c,m,w];intro H;have:=h.seq b o;omega
   . intro _;omega
 . show 0<=s.last+1
   have:=h.sV
   omega
 . rintro⟨j,d,k⟩
   change fJ ls j=x at k
   rcases(f j).1 d with c|c
   . rw[g j c]at k;exact .inl ⟨j,c,k⟩
   . rw[c,m]at k;exact .inr k.symm
 . rintro(⟨j,d,k⟩|rfl)
   . exact⟨j,(f j).2 (.inl d),by show fJ ls j=x;rw[g j d];exact k⟩
   . exact⟨i,(f i).2 (.inr rfl),m⟩
end
structure TW.zY (t t2:TW) (id:Int):Prop where
 mem:∀ x,t2.mem x↔t.mem x\/x=id
 n:t2.A.n=t.A.n
 used:t2.A.used=t.A.used+t.cnt id
theorem TW.Sw{t:TW}{u:Int}(h:t.A.used+t.cnt u<=t.A.n):t.mem u\/t.A.used<t.A.n:=by
 grind [TW.tH]
theorem TW.zY.room{t t2:TW}{u v:Int}(p:TW.zY t t2 u)(h:t.A.used+(t.cnt u+t.cnt v)<=t.A.n):t2.mem v\/t2.A.used<t2.A.n:=by
 by_cases hm:t2.mem v
 . exact .inl hm
 . have b:¬ t.mem v:=fun a=>hm ((p.mem v).2 (.inl a))
   rw[TW.tH b]at h
   rw[p.used,p.n]
   exact .inr o_
theorem tP{γ:Type}[Inhabited γ]{m:List (Int×γ)}{a c:Int}{x:γ}(h:a≠c):fT (gx m a x) c=fT m c:=by
 unfold fT
 rw[wG,if_neg h]
theorem kH{a:Int}(h : -9223372036854775808<=a/\a<=9223372036854775807):gZ .i64 a:=h
theorem oZ{a:Int}(h:0<=a/\a<=18446744073709551615):gZ .u64 a:=h
theorem fU.ok.Jj{fN fL:Nat}{s:fU}(h:s.ok fN fL)(id:Int):(s.inc id).length<=65536:=by
 refine lq (AU s.A.begun _ (h.nd id) fun j a=>((h.inc id j).1 a).1.1) ?_
 have:=h.kW.le
 have:=h.n
 have:=h.en
 omega
structure mD (im:IM) (t:TW) (im2:IM) (t2:TW) (id:Int) (i:Nat):Prop where
 get:∀ c j,j∈(fT im2 c).2↔j∈(fT im c).2/\(c=id->j≠i)
 nd:(∀ c,(fT im c).2.Nodup)->∀ c,(fT im2 c).2.Nodup
 none:(∀ c,gV im c=none↔(fT im c).2=[])->∀ c,gV im2 c=none↔(fT im2 c).2=[]
 keys:(im.map Prod.fst).Nodup->(im2.map Prod.fst).Nodup
 mem:∀ x,t2.mem x↔t.mem x/\(x=id->(fT im2 id).2≠[])
 n:t2.A.n=t.A.n
theorem abD{γ:Type}[Inhabited γ]{m:List (Int×γ)}{a c:Int}{x:γ}:fT (gx m a x) c=if a=c then x else fT m c:=by
 unfold fT
 rw[wG]
 split<;>rfl
theorem abC{m:IM}(b:(m.map Prod.fst).Nodup){a c:Int}:fT (iJ m a) c=if a=c then default else fT m c:=by
 unfold fT
 rw[FA b]
 split<;>rfl
theorem J8{xs:List Nat}(d:xs.Nodup){a b:Nat}(c:a<xs.length)(hb:b<xs.length)(e:xs[a]=xs[b]):a=b:=by
 rcases Hj a b with h|h|h
 . exact absurd e (uq.1 d a b c hb h)
 . exact h
 . exact absurd e.symm (uq.1 d b a hb c h)
theorem Pg{xs:List Nat}{i k:Nat}(f:xs.Nodup)(hk:xs[k]? = some i)(j:Nat):j∈xs.eraseIdx k↔j∈xs/\j≠i:=by
 obtain⟨e,d⟩:=zk.1 hk
 rw[List.mem_eraseIdx_iff_getElem]
 constructor
 . grind [J8]
 . rintro⟨b,g⟩
   obtain⟨a,c,rfl⟩:=vC b
   grind
theorem mD.keep{im:IM}{t:TW}{id:Int}{i k:Nat}{v:Value}(d:(fT im id).2.Nodup)(hk:(fT im id).2[k]? = some i)(b:(fT im id).2.eraseIdx k≠[]):mD im t (gx im id (v,(fT im id).2.eraseIdx k)) t id i:=by
 have a:∀ c,(fT (gx im id (v,(fT im id).2.eraseIdx k)) c).2=if id=c then(fT im id).2.eraseIdx k else(fT im c).2:=fun c=>by rw[abD];split<;>rfl
 refine⟨fun c j=>?_,fun h c=>?_,fun h c=>?_,fun h=>wL h _ _,fun x=>⟨fun h=>⟨h,fun _=>?_⟩,fun h=>h.1⟩,rfl⟩
 . grind [Pg]
 . grind
 . grind [wG]
 . rw[a,if_pos rfl];exact b
theorem mD.drop{im:IM}{t t2:TW}{id:Int}{i k:Nat}(d:(im.map Prod.fst).Nodup)(e:(fT im id).2.Nodup)(hk:(fT im id).2[k]? = some i)(a:(fT im id).2.eraseIdx k=[])(l:∀ x,t2.mem x↔t.mem x/\x≠id)(f:t2.A.n=t.A.n):mD im t (iJ im id) t2 id i:=by
 have g:∀ c,(fT (iJ im id) c).2=if id=c then[]else(fT im c).2:=fun c=>by rw[abC d];split<;>rfl
 have b:=Pg e hk
 rw[a]at b
 refine⟨fun c j=>?_,fun h c=>?_,fun h c=>?_,fun h=>Ke h _,fun x=>?_,f⟩
 . grind
 . grind
 . grind [FA]
 . grind
section
variable {fN fL:Nat} {s:fU}
theorem fU.ok.rem(h:s.ok fN fL){i:Nat}(hi:s.A.gW i){g:AW}(hd:AW.del s.A g.A i)(H:g.A.ok){z im2:IM}{t1 t2:TW}(N:t2.ok)
 (p:mD s.im s.t z t1 (fJ s.live i).u i) (l:mD z t1 im2 t2 (fJ s.live i).v i) {lv2:Value} {ls:List Lv} (F:ls=fO s.live i (fun _=>default)) :
 fU.ok fN fL ⟨s.jb,s.tb,s.ab,s.mb,lv2,s.last,g,t2,ls,im2⟩/\∀ x,fU.has ⟨s.jb,s.tb,s.ab,s.mb,lv2,s.last,g,t2,ls,im2⟩ x↔s.has x/\x.slot≠(i:Int):=by
 have L:=h.ll
 have J:i<s.live.length:=by have:=hi.1;omega
 have B:∀ j,fJ ls j=if i=j then default else fJ s.live j:=by rw[F];exact fun j=>jh J
 have k:=hd.gW
 have P:=h.ne i hi
 have C:∀ c j,j∈(fT im2 c).2↔j∈s.inc c/\(c=(fJ s.live i).u->j≠i)/\(c=(fJ s.live i).v->j≠i):=by
  intro c j
  rw[l.get,p.get,and_assoc]
  rfl
 have y:∀ c j,j∈(fT im2 c).2↔g.A.gW j/\(fJ ls j).at c:=by
  intro c j
  rw[C,k,h.inc]
  constructor
  . grind
  . grind
 have m:∀ j,g.A.gW j->fJ ls j=fJ s.live j:=fun j d=>by rw[B,if_neg (fun e=>((k j).1 d).2 e.symm)]
 refine⟨⟨hd.n.trans h.n,(l.n.trans p.n).trans h.tn,h.en,h.vn,H,N,?_,?_,?_,?_,?_,l.keys (p.keys h.keys),y,l.nd (p.nd h.nd),l.none (p.none h.empty),?_,?_,h.sV⟩,fun x=>⟨?_,?_⟩⟩
 . show ls.length=g.A.begun
   rw[F,gC,hd.oV]
   exact L
 . intro j d
   show (fJ ls j).slot=(j:Int)
   rw[m j d]
   exact h.slot j ((k j).1 d).1
 . intro j
   show (fJ ls j).ok
   rw[B]
   split
   . exact⟨kH (by show _/\_;decide),oZ (by show _/\_;decide),oZ (by show _/\_;decide),oZ (by show _/\_;decide),kH (by show _/\_;decide),kH (by show _/\_;decide),kH (by show _/\_;decide)⟩
   . exact h.Fl j
 . intro j d
   show (fJ ls j).u≠(fJ ls j).v
   rw[m j d]
   exact h.ne j ((k j).1 d).1
 . intro x
   show t2.mem x↔∃ j,g.A.gW j/\(fJ ls j).at x
   rw[l.mem,p.mem]
   have I:(∃ j,g.A.gW j/\(fJ ls j).at x)↔(fT im2 x).2≠[]:=by
    constructor
    . rintro⟨j,d⟩ e
      have:=(y x j).2 d
      rw[e]at this
      simp at this
    . intro M
      obtain⟨j,d⟩:=LN _ M
      exact⟨j,(y x j).1 d⟩
   rw[I]
   constructor
   . rintro⟨⟨f,w⟩,q⟩
     by_cases hv:x=(fJ s.live i).v
     . rw[hv];exact q hv
     . by_cases hu:x=(fJ s.live i).u
       . have G:=w hu
         intro e
         obtain⟨j,d⟩:=LN _ G
         have:j∈(fT im2 x).2:=(l.get x j).2 ⟨by rw[hu];exact d,fun r=>absurd r hv⟩
         rw[e]at this
         simp at this
       . obtain⟨j,d,O⟩:=(h.mem x).1 f
         grind
   . intro f
     obtain⟨j,d⟩:=LN _ f
     have w:=(C x j).1 d
     have q:=(h.inc x j).1 w.1
     refine⟨⟨(h.mem x).2 ⟨j,q.1,q.2⟩,fun e=>?_⟩,fun e=>by rw[<-e];exact f⟩
     intro r
     have:j∈(fT z x).2:=((l.get x j).1 d).1
     rw[e,r]at this
     simp at this
 . intro j d
   show (fJ ls j).seq<=s.last
   rw[m j d]
   exact h.seq j ((k j).1 d).1
 . intro a b D E
   show (fJ ls a).seq=(fJ ls b).seq->a=b
   rw[m a D,m b E]
   exact h.Ga a b ((k a).1 D).1 ((k b).1 E).1
 . rintro⟨j,d,o⟩
   change fJ ls j=x at o
   rw[m j d]at o
   have f:=(k j).1 d
   refine⟨⟨j,f.1,o⟩,?_⟩
   rw[<-o,h.slot j f.1]
   intro e
   exact f.2 o_
 . rintro⟨⟨j,d,o⟩,hs⟩
   have K:j≠i:=by
    rintro rfl
    rw[<-o,h.slot j d]at hs
    exact hs rfl
   have f:=(k j).2 ⟨d,K⟩
   exact⟨j,f,by show fJ ls j=x;rw[m j f];exact o⟩
end
theorem Jf{xs:List Nat}{i:Nat}(h:i∈xs)(d:xs.Nodup):∃ k,xs[k]? = some i/\(gB xs)[k]? = some (i:Int)/\∀ (j:Nat) (y:Int),j<k->(gB xs)[j]? = some y->y≠(i:Int):=by
 obtain⟨k,a,e⟩:=vC h
 refine⟨k,by rw[zm a,e],by simp[gB,z7,zm a,e],fun j y c b f=>?_⟩
 simp only[gB,z7,Bt]at b
 grind [J8]
theorem J6{xs:List Nat}(h:∀ j∈xs,j<65536):∀ y∈gB xs,gZ .i64 y:=by
 grind [kH]
theorem Ji{fN fL:Nat}{s:fU}(h:s.ok fN fL){id:Int}{P:Nat->Prop}(hs:∀ j,P j->j∈s.inc id){j:Nat}(a:P j):j<65536:=by
 have b:=((h.inc id j).1 (hs j a)).1.1
 have:=h.kW.le
 have:=h.n
 have:=h.en
 omega
theorem inc_le{fN fL:Nat}{s:fU}(h:s.ok fN fL){a:IM}{t1:TW}{id:Int}{i:Nat}(o:mD s.im s.t a t1 id i)(c:Int):(fT a c).2.length<=65536:=by
 refine lq (AU s.A.begun _ (o.nd h.nd c) fun j b=>((h.inc c j).1 ((o.get c j).1 b).1).1.1) ?_
 have:=h.kW.le
 have:=h.n
 have:=h.en
 omega
theorem fU.tQ{fN fL:Nat}{aw:AW}{t:TW}(c:aw.A=As.new fL)(f:t.ok)(g:∀ x,¬ t.mem x)(e:t.A.n=fN)(d:fL<=16384)(hv:fN<=4096)(jb tb ab mb:Nat) :
 fU.ok fN fL ⟨jb,tb,ab,mb,.slice none 0 0,0,aw,t,[],[]⟩/\∀ x,¬ fU.has ⟨jb,tb,ab,mb,.slice none 0 0,0,aw,t,[],[]⟩ x:=by
 have b:∀ j,¬ aw.A.gW j:=fun j a=>by rw[c]at a;exact absurd a.1 (by simp[As.new])
 have hd:∀ j,fJ ([]:List Lv) j=⟨0,0,0,0,0,0,0⟩:=fun j=>rfl
 refine⟨⟨?_,e,d,hv,?_,f,?_,?_,?_,?_,?_,?_,?_,?_,?_,?_,?_,?_⟩,fun x ⟨j,a,_⟩=>b j a⟩
 . show aw.A.n=fL;rw[c];rfl
 . grind [As.tQ]
 . show ([]:List Lv).length=aw.A.begun;rw[c];rfl
 . exact fun j a=>absurd a (b j)
 . intro j
   show Lv.ok (⟨0,0,0,0,0,0,0⟩:Lv)
   exact⟨kH (by show _/\_;decide),oZ (by show _/\_;decide),oZ (by show _/\_;decide),oZ (by show _/\_;decide),kH (by show _/\_;decide),kH (by show _/\_;decide),kH (by show _/\_;decide)⟩
 . exact fun j a=>absurd a (b j)
 . grind
 . exact zT
 . exact fun id j=>⟨fun h=>(by cases h),fun h=>absurd h.1 (b j)⟩
 . exact fun id=>zT
 . exact fun id=>⟨fun _=>rfl,fun _=>rfl⟩
 . exact fun j a=>absurd a (b j)
 . exact fun j _ a=>absurd a (b j)
 . exact xC 0
end Go.Sx
namespace Go.Sx
open Go
def TW.Kp(t t2:TW):Prop:=∀ z,t.A.gW z->t2.mem (fJ t.ids z)->t2.A.gW z/\fJ t2.ids z=fJ t.ids z
theorem TW.Kp.refl(t:TW):TW.Kp t t:=fun z h _=>⟨h,rfl⟩
theorem TW.Kp.trans{t t2 e:TW}(h1:TW.Kp t t2)(h:TW.Kp t2 e)(hm:∀ x,t.mem x->e.mem x->t2.mem x):TW.Kp t e:=fun z g f=>by
 obtain⟨a,b⟩:=h1 z g (hm _ ⟨z,g,rfl⟩ f)
 obtain⟨c,d⟩:=h z a (by rw[b];exact f)
 exact⟨c,d.trans b⟩
theorem TW.ok.R8{t:TW}(h:t.ok){id:Int}{v2:AW}{i:Nat}(hp:AW.put t.A v2.A i){iv cv:Value}{is2:List Int}{cs2:List Nat}(c:is2=tT t.ids i id):TW.Kp t ⟨iv,cv,v2,is2,cs2⟩:=fun z a _=>by
 have e:=h.tK
 have d:i<=t.ids.length:=by rcases hp.oV with b|b<;>omega
 refine⟨(hp.gW z).2 (.inl a),?_⟩
 show fJ is2 z=_
 rw[c,R7 d,if_neg]
 rintro rfl
 exact hp.new a
theorem TW.ok.Wn{t:TW}(h:t.ok){v2:AW}{i:Nat}(hi:t.A.gW i)(hd:AW.del t.A v2.A i){iv cv:Value}{is2:List Int}{cs2:List Nat}(c:is2=fO t.ids i (fun _=>0))(hm:∀ x,TW.mem ⟨iv,cv,v2,is2,cs2⟩ x↔t.mem x/\x≠fJ t.ids i):TW.Kp t ⟨iv,cv,v2,is2,cs2⟩:=fun z d f=>by
 have a:z≠i:=fun e=>((hm _).1 f).2 (by rw[e])
 have b:i<t.ids.length:=by have:=hi.1;have:=h.tK;omega
 refine⟨(hd.gW z).2 ⟨d,a⟩,?_⟩
 show fJ is2 z=_
 rw[c,jh b,if_neg fun e=>a e.symm]
theorem TW.zY.yB{t t2 a:TW}{u v:Int}(p:TW.zY t t2 u)(q:TW.zY t2 a v)(h1:TW.Kp t t2)(b:TW.Kp t2 a):TW.Kp t a:=h1.trans b fun x c _=>(p.mem x).2 (.inl c)
theorem mD.yB{c im2:IM}{t t1 t2:TW}{v:Int}{i:Nat}(d:mD c t1 im2 t2 v i)(h1:TW.Kp t t1)(a:TW.Kp t1 t2):TW.Kp t t2:=h1.trans a fun x _ b=>((d.mem x).1 b).1
end Go.Sx
namespace Go.Sx
open Go
theorem AV:∀ (L M:List Int),L.Nodup->(∀ j∈L,j∈M)->L.length<=M.length
 | [],_,_,_=>by simp
 | x :: L,M,hn,h=>by
  have b:=h x s_
  have c:=AV L (M.erase x) (zx.1 hn).2 (fun j a=>(List.mem_erase_of_ne (fun e=>(zx.1 hn).1 (by rw[<-e];exact a))).2 (h j (by simp[a])))
  rw[G7 b]at c
  have:=G8 b
  simp only[zh]
  omega
def TW.tJ(t:TW):List Int:=(t.A.list t.A.begun).map (fJ t.ids)
theorem TW.Je{t:TW}(c:t.A.ok)(x:Int):x∈t.tJ↔t.mem x:=by
 unfold TW.tJ TW.mem
 rw[zz]
 exact⟨fun⟨i,a,b⟩=>⟨i,(c.o7 i).1 a,b⟩,fun⟨i,a,b⟩=>⟨i,(c.o7 i).2 a,b⟩⟩
theorem TW.PV{t:TW}(a:t.A.ok):t.tJ.length=t.A.used:=by rw[TW.tJ,zq,a.AP]
theorem Kb{α β:Type}{f:α->β}:∀ {l:List α},l.Nodup->(∀ x∈l,∀ y∈l,f x=f y->x=y)->(l.map f).Nodup
 | [],_,_=>zT
 | a :: l,h,hf=>by
  rw[kr,zx]
  refine⟨fun hm=>?_,Kb (zx.1 h).2 fun x c y d=>hf x (by simp[c]) y (by simp[d])⟩
  obtain⟨b,hb,e⟩:=zz.1 hm
  have:=hf b (by simp[hb]) a s_ e
  subst this
  exact(zx.1 h).1 hb
theorem TW.PW{t:TW}(h:t.ok)(a:t.A.ok):t.tJ.Nodup :=
 Kb ((t.A.CK _).imp fun h=>Nat.ne_of_lt h) fun x b y c e=>h.uniq x y ((a.o7 x).1 b) ((a.o7 y).1 c) e
theorem TW.Ih{t:TW}(h:t.ok)(d:t.A.ok){u v:Int}(e:u≠v):∃ K:List Int,K.Nodup/\K.length=t.A.used+(t.cnt u+t.cnt v)/\∀ x,x∈K↔t.mem x\/x=u\/x=v:=by
 have b:=TW.PW h d
 have f:=TW.PV d
 have hm:=TW.Je d
 by_cases hu:t.mem u<;>by_cases hv:t.mem v
 . rw[TW.v7 hu,TW.v7 hv]
   refine⟨t.tJ,b,o_,fun x=>(hm x).trans ⟨.inl,?_⟩⟩
   rintro(a|rfl|rfl)
   . exact a
   . exact hu
   . exact hv
 . rw[TW.v7 hu,TW.tH hv]
   refine⟨v :: t.tJ,zx.2 ⟨fun a=>hv ((hm v).1 a),b⟩,by simp;omega,fun x=>?_⟩
   rw[zg,hm]
   constructor
   . rintro(a|a)
     . exact .inr (.inr a)
     . exact .inl a
   . rintro(a|rfl|a)
     . exact .inr a
     . exact .inr hu
     . exact .inl a
 . rw[TW.tH hu,TW.v7 hv]
   refine⟨u :: t.tJ,zx.2 ⟨fun a=>hu ((hm u).1 a),b⟩,by simp;omega,fun x=>?_⟩
   rw[zg,hm]
   constructor
   . rintro(a|a)
     . exact .inr (.inl a)
     . exact .inl a
   . rintro(a|a|rfl)
     . exact .inr a
     . exact .inl a
     . exact .inr hv
 . rw[TW.tH hu,TW.tH hv]
   refine⟨u :: v :: t.tJ,zx.2 ⟨fun a=>?_,zx.2 ⟨fun a=>hv ((hm v).1 a),b⟩⟩,by simp;omega,fun x=>?_⟩
   . rcases zg.1 a with c|c
     . exact e c
     . exact hu ((hm u).1 c)
   . rw[zg,zg,hm]
     constructor
     . rintro(a|a|a)
       . exact .inr (.inl a)
       . exact .inr (.inr a)
       . exact .inl a
     . rintro(a|a|a)
       . exact .inr (.inr a)
       . exact .inl a
       . exact .inr (.inl a)
section
variable {fN fL:Nat} {s s1 s2:fU}
theorem fU.ok.xZ(h:s.ok fN fL){x:Lv}(a:s.has x):∃ i:Nat,x.slot=(i:Int)/\s.A.gW i/\fJ s.live i=x/\i<fL:=by
 obtain⟨i,hi,rfl⟩:=a
 refine⟨i,h.slot i hi,hi,rfl,?_⟩
 have:=hi.1
 have:=h.kW.le
 have:=h.n
 omega
theorem fU.ok.Dg(h:s.ok fN fL){x y:Lv}(c:s.has x)(d:s.has y)(e:x.slot=y.slot):x=y:=by
 obtain⟨i,g,_,b,_⟩:=h.xZ c
 obtain⟨j,f,_,a,_⟩:=h.xZ d
 have:i=j:=by omega
 subst this
 rw[<-b,<-a]
theorem fU.ok.SH(h:s.ok fN fL){x:Lv}(a:s.has x):x.seq<=s.last:=by
 obtain⟨i,hi,rfl⟩:=a
 exact h.seq i hi
theorem fU.ok.AJ(h:s.ok fN fL){x:Lv}(a:s.has x):x.ok/\x.u≠x.v:=by
 obtain⟨i,hi,rfl⟩:=a
 exact⟨h.Fl i,h.ne i hi⟩
theorem fU.afR(h1:s1.ok fN fL)(a:s2.ok fN fL)(hs:∀ x,s1.has x->s2.has x):s1.A.used<=s2.A.used:=by
 rw[<-h1.kW.AP,<-a.kW.AP]
 refine CZ _ _ ((s1.A.CK _).imp fun h=>Nat.ne_of_lt h) fun i hi=>?_
 have b:=(h1.kW.o7 i).1 hi
 obtain⟨j,c,e⟩:=hs _ ⟨i,b,rfl⟩
 have d:=a.slot j c
 rw[e,h1.slot i b]at d
 have:i=j:=by omega
 subst this
 exact(a.kW.o7 i).2 c
theorem fU.Vy(h1:s1.ok fN fL)(g:s1.t.A.ok)(b:s2.ok fN fL)(h:s2.t.A.ok)(hs:∀ x,s1.has x->s2.has x){u v:Int}(l:s2.gN fN fL u v=0):s1.gN fN fL u v=0:=by
 obtain⟨a,p,q⟩:=fU.EA l
 have w:=fU.afR h1 b hs
 obtain⟨c,k1,y,o⟩:=TW.Ih h1.tok g a
 obtain⟨d,r,g2,f⟩:=TW.Ih b.tok h a
 have s:c.length<=d.length:=AV c d k1 fun x n=>(f x).2 ((o x).1 n |>.imp_left fun hm=>by
  obtain⟨i,hi,k⟩:=(h1.mem x).1 hm
  obtain⟨j,m,e⟩:=hs _ ⟨i,hi,rfl⟩
  exact(b.mem x).2 ⟨j,m,by rw[e];exact k⟩)
 exact fU.Ay a o_ o_
structure fU.mB (s:fU) (L:List Lv):Prop where
 mem:∀ x,x∈L↔s.has x
 j5:L.Pairwise fun a b=>a.seq<b.seq
theorem fU.mB.nodup{L:List Lv}(h:s.mB L):L.Nodup:=h.j5.imp fun {a b} c e=>by rw[e]at c;omega
theorem fU.mB.slots{L:List Lv}(a:s.mB L)(h:s.ok fN fL):(L.map Lv.slot).Nodup :=
 Kb a.nodup fun x b y c e=>h.Dg ((a.mem x).1 b) ((a.mem y).1 c) e
theorem fU.mB.len{L:List Lv}(a:s.mB L)(h:s.ok fN fL):L.length<=fL:=by
 have b:(L.map Lv.slot).length<=((List.range fL).map fun i:Nat=>(i:Int)).length:=AV _ _ (a.slots h) fun j c=>by
  obtain⟨x,d,rfl⟩:=zz.1 c
  obtain⟨i,e,_,_,hi⟩:=h.xZ ((a.mem x).1 d)
  rw[e]
  exact zz.2 ⟨i,k9.2 hi,rfl⟩
 simpa using b
theorem fU.aa5{ys:List Lv}(h:s.ok fN fL)(hp:ys.Perm ((s.A.list s.A.begun).map (fJ s.live)))(hs:ys.Pairwise fun a b=>a.seq<=b.seq):s.mB ys:=by
 refine⟨fun x=>?_,?_⟩
 . rw[hp.mem_iff,zz]
   exact⟨fun⟨i,c,d⟩=>⟨i,(h.kW.o7 i).1 c,d⟩,fun⟨i,c,d⟩=>⟨i,(h.kW.o7 i).2 c,d⟩⟩
 . have c:((s.A.list s.A.begun).map (fJ s.live)).Pairwise fun a b=>a.seq≠b.seq:=by
    rw[Hi]
    refine(s.A.CK _).imp_of_mem fun {a b} f hb j e=>?_
    have:=h.Ga a b ((h.kW.o7 a).1 f) ((h.kW.o7 b).1 hb) e
    omega
   have d:ys.Pairwise fun a b=>a.seq≠b.seq:=hp.symm.pairwise c fun {a b} g e=>g e.symm
   exact(hs.and d).imp fun {a b} h=>by have:=h.1;have:=h.2;omega
theorem Gg{α β:Type}[Inhabited α]{l:List α}(f:α->β){k:Nat}(hk:k<l.length):(l.take (k+1)).map f=(l.take k).map f++[f (fJ l k)]:=by
 have a:l[k]? = some (fJ l k):=gz hk
 rw[qz,a]
 simp
end
end Go.Sx
namespace Go.Sx
open Go
def TW.At(t:TW)(z:Nat)(id:Int):Prop:=t.A.gW z/\fJ t.ids z=id
theorem TW.At.uniq{t:TW}(h:t.ok){z y:Nat}{id:Int}(a:t.At z id)(b:t.At y id):z=y:=h.uniq z y a.1 b.1 (a.2.trans b.2.symm)
theorem TW.Kp.at{t t2:TW}(k:TW.Kp t t2){z:Nat}{id:Int}(a:t.At z id)(hm:t2.mem id):t2.At z id:=by
 obtain⟨b,c⟩:=k z a.1 (by rw[a.2];exact hm)
 exact⟨b,c.trans a.2⟩
theorem TW.Kp.back{t t2:TW}(k:TW.Kp t t2)(d:t2.ok){z:Nat}{id:Int}(a:t2.At z id)(hm:t.mem id):t.At z id:=by
 obtain⟨y,c,b⟩:=hm
 have hb:=k.at ⟨c,b⟩ ⟨z,a.1,a.2⟩
 rw[TW.At.uniq d a hb]
 exact⟨c,b⟩
theorem TW.mA.at{t:TW}{id:Int}{z:Nat}{b:Bool}(h:t.mA id z b)(hm:t.mem id):t.At z id:=by
 rcases h with ⟨_,h⟩|⟨_,_,h⟩
 . exact h
 . exact absurd hm h
def nD(u:fU)(g:GW):Prop:=∀ (k:Nat) (t:Nat×Nat×Int),(gF g.m k).map Ed.er=some t↔∃ x,u.has x/\x.slot=(k:Int)/\u.t.At t.1 x.u/\u.t.At t.2.1 x.v/\t.2.2=x.exp
section
variable {fN fL:Nat} {u u2:fU} {g g2:GW}
theorem fU.ok.yI(h:u.ok fN fL){x:Lv}(a:u.has x):u.t.mem x.u/\u.t.mem x.v:=by
 obtain⟨i,hi,rfl⟩:=a
 exact⟨(h.mem _).2 ⟨i,hi,.inl rfl⟩,(h.mem _).2 ⟨i,hi,.inr rfl⟩⟩
theorem fU.ok.abn{fN fL:Nat}{u u2:fU}(h:u.ok fN fL)(a:u2.ok fN fL)(d:∀ y,u2.has y->u.has y)(x:Int)(f:u2.t.mem x):u.t.mem x:=by
 obtain⟨i,hi,b⟩:=(a.mem x).1 f
 obtain⟨j,e,c⟩:=d _ ⟨i,hi,rfl⟩
 exact(h.mem x).2 ⟨j,e,by rw[c];exact b⟩
theorem nD.tI(h:nD u g)(n:u.ok fN fL){x:Lv}(j:u.has x){k:Nat}(hk:x.slot=(k:Int)):∃ e,gF g.m k=some e/\e.exp=x.exp/\u.t.At e.a x.u/\u.t.At e.b x.v:=by
 obtain⟨⟨a,d,f⟩,⟨b,hb,i⟩⟩:=n.yI j
 have:=(h k (a,b,x.exp)).2 ⟨x,j,hk,⟨d,f⟩,⟨hb,i⟩,rfl⟩
 obtain⟨e,l,c⟩:=Bt.1 this
 unfold Ed.er at c
 simp only[Prod.mk.injEq]at c
 exact⟨e,l,c.2.2,by rw[c.1];exact⟨d,f⟩,by rw[c.2.1];exact⟨hb,i⟩⟩
theorem nD.live(h:nD u g){k:Nat}{e:Ed}(c:gF g.m k=some e):∃ x,u.has x/\x.slot=(k:Int)/\u.t.At e.a x.u/\u.t.At e.b x.v/\e.exp=x.exp :=
 (h k e.er).1 (by rw[c];rfl)
theorem nD.empty(h:nD u g){k:Nat}(hk:∀ x,u.has x->x.slot≠(k:Int)):gF g.m k=none:=by
 cases he:gF g.m k with
 | none=>rfl
 | some e =>
  obtain⟨x,a,hs,_⟩:=h.live he
  exact absurd hs (hk x a)
theorem nD.rest(h:nD u g)(o:u.ok fN fL)(e:u2.ok fN fL){P:Nat->Prop}(d:∀ x,u2.has x↔u.has x/\∀ k:Nat,x.slot=(k:Int)->¬ P k)(hk:TW.Kp u.t u2.t)(h1:∀ k,P k->gF g2.m k=none)(l:∀ k,¬ P k->(gF g2.m k).map Ed.er=(gF g.m k).map Ed.er):nD u2 g2:=by
 intro k t
 by_cases hp:P k
 . rw[h1 k hp]
   exact⟨fun h=>(by cases h),fun⟨x,a,hs,_⟩=>absurd hp (((d x).1 a).2 k hs)⟩
 . rw[l k hp,h k t]
   constructor
   . rintro⟨x,a,hs,b,hb,c⟩
     have i:u2.has x:=(d x).2 ⟨a,fun j n=>by rw[hs]at n;rw[<-show k=j by omega];exact hp⟩
     have hm:=e.yI i
     exact⟨x,i,hs,hk.at b hm.1,hk.at hb hm.2,c⟩
   . rintro⟨x,a,hs,b,hb,c⟩
     have f:=((d x).1 a).1
     have hm:=o.yI f
     exact⟨x,f,hs,hk.back e.tok b hm.1,hk.back e.tok hb hm.2,c⟩
theorem nD.ins(h:nD u g)(w:u.ok fN fL)(b:u2.ok fN fL){e:Lv}{i q r:Nat}(n:e.slot=(i:Int))(l:∀ y,u2.has y↔u.has y\/y=e)(hk:TW.Kp u.t u2.t)(s:xF g.m g2.m i (some (q,r,e.exp)))(o:u2.t.At q e.u)(hb:u2.t.At r e.v):nD u2 g2:=by
 intro k t
 rw[s k]
 by_cases hki:k=i
 . subst hki
   rw[if_pos rfl]
   constructor
   . intro j
     cases j
     exact⟨e,(l e).2 (.inr rfl),n,o,hb,rfl⟩
   . rintro⟨x,f,hs,c,d,a⟩
     have:x=e:=b.Dg f ((l e).2 (.inr rfl)) (hs.trans n.symm)
     subst this
     obtain⟨z,A,B⟩:=t
     simp only at c d a
     rw[TW.At.uniq b.tok c o,TW.At.uniq b.tok d hb,a]
 . rw[if_neg hki,h k t]
   constructor
   . rintro⟨x,f,hs,c,d,a⟩
     have p:=(l x).2 (.inl f)
     have hm:=b.yI p
     exact⟨x,p,hs,hk.at c hm.1,hk.at d hm.2,a⟩
   . rintro⟨x,f,hs,c,d,a⟩
     rcases(l x).1 f with j|rfl
     . have hm:=w.yI j
       exact⟨x,j,hs,hk.back b.tok c hm.1,hk.back b.tok d hm.2,a⟩
     . rw[n]at hs
       exact absurd (show k=i by omega) hki
end
structure sL (m m2:List (Int×Ed)) (ds:List Nat) (k:Nat):Prop where
 out:∀ j,j∉ds->(gF m2 j).map Ed.er=(gF m j).map Ed.er
 sub:∀ j,j∈ds->gF m2 j=none\/(gF m2 j).map Ed.er=(gF m j).map Ed.er
 cnt:(ds.filter fun j=>(gF m2 j).isSome).length+k=ds.length
theorem sL.start{m:List (Int×Ed)}{ds:List Nat}(h:∀ j∈ds,(gF m j).isSome=true):sL m m ds 0 :=
 ⟨fun j _=>rfl,fun j _=>.inr rfl,by rw[uk.2 h];rfl⟩
theorem PA{α:Type}[DecidableEq α]{p q:α->Bool}{i:α}:∀ {l:List α},l.Nodup->i∈l->p i=true->(∀ j,q j=(p j&&decide (j≠i)))->(l.filter q).length+1=(l.filter p).length
 | [],_,h,_,_=>by simp at h
 | a :: l,hn,hi,hp,hq=>by
  have c:=zx.1 hn
  by_cases e:a=i
  . subst e
    have b:q a=false:=by rw[hq];simp
    rw[Bx (by rw[b];decide),By hp]
    have d:l.filter q=l.filter p:=xz fun x g=>by rw[hq];simp;rintro _ rfl;exact absurd g c.1
    rw[d]
    rfl
  . have f:i∈l:=(zg.1 hi).resolve_left fun h=>e h.symm
    have k:=PA c.2 f hp hq
    have b:q a=p a:=by rw[hq];simp[e]
    by_cases hpa:p a=true
    . rw[By hpa,By (by rw[b];exact hpa)]
      simp only[zh]
      omega
    . rw[Bx hpa,Bx (by rw[b];exact hpa)]
      exact k
theorem sL.next{m m2 m3:List (Int×Ed)}{ds:List Nat}{k i:Nat}{b:Bool}{T:Int}(h:sL m m2 ds k)(hk:k<ds.length)(I:ds.Nodup)(y:∀ j e,gF m j=some e->(j∈ds↔e.exp<=T))
 (J:(b=false/\(∀ k,gF m2 k=none)/\gF m3=gF m2)\/(b=true/\(∃ o,gF m2 i=some o/\∀ j e,gF m2 j=some e->j=i\/o.exp<e.exp\/(o.exp=e.exp/\i<j))/\gF m3=(gF m2).set i none)):sL m m3 ds (k+1):=by
 have z:=h.cnt
 have A:∀ {j:Nat} {e:Ed},gF m2 j=some e->(gF m2 j).map Ed.er=(gF m j).map Ed.er->∃ d,gF m j=some d/\d.exp=e.exp:=fun {j e} f u=>by
  rw[f]at u
  obtain⟨d,v,s⟩:=Bt.1 u.symm
  unfold Ed.er at s
  simp only[Prod.mk.injEq]at s
  exact⟨d,v,s.2.2⟩
 obtain⟨r,F⟩:∃ r,r∈ds.filter fun j=>(gF m2 j).isSome:=by
  cases hf:ds.filter fun j=>(gF m2 j).isSome with
  | nil=>rw[hf]at z;simp at z;omega
  | cons a l=>exact⟨a,s_⟩
 obtain⟨w,G⟩:=kD.1 F
 obtain⟨d,n⟩:=Option.isSome_iff_exists.1 G
 rcases J with ⟨_,f,_⟩|⟨_,⟨o,B,H⟩,E⟩
 . rw[f]at n;cases n
 . have c:i∈ds:=by
    by_cases c:i∈ds
    . exact c
    . exfalso
      obtain⟨C,f,u⟩:=A B (h.out i c)
      obtain⟨D,v,s⟩:=A n ((h.sub r w).resolve_left (by rw[n];exact fun h=>by cases h))
      have K:=(y r D v).1 w
      have L:¬ C.exp<=T:=fun g=>c ((y i C f).2 g)
      rcases H r d n with g|g|g
      . exact c (g▸w)
      . omega
      . omega
   have x:∀ j,gF m3 j=if j=i then none else gF m2 j:=fun j=>by rw[E];rfl
   refine⟨fun j t=>?_,fun j t=>?_,?_⟩
   . rw[x,if_neg (fun e:j=i=>t (e▸c))];exact h.out j t
   . rw[x]
     split
     . exact .inl rfl
     . exact h.sub j t
   . have f:=PA (p:=fun j=>(gF m2 j).isSome) (q:=fun j=>(gF m3 j).isSome) I c (by rw[B];rfl) fun j=>by
      rw[x]
      by_cases e:j=i
      . simp[e]
      . simp[e]
     omega
theorem sL.fin{m m2:List (Int×Ed)}{ds:List Nat}(h:sL m m2 ds ds.length):∀ j∈ds,gF m2 j=none:=fun j b=>by
 have c:=h.cnt
 have a:ds.filter (fun j=>(gF m2 j).isSome)=[]:=um o_
 cases he:gF m2 j with
 | none=>rfl
 | some e =>
  have:j∈ds.filter fun j=>(gF m2 j).isSome:=kD.2 ⟨b,by rw[he];rfl⟩
  rw[a]at this
  cases this
end Go.Sx
namespace Go.Sx
open Go
structure WC where
 win:Int
 fL:Nat
 fN:Nat
 kK:Int
structure WW where
 cb:Nat
 ub:Nat
 sb:Nat
 hb:Nat
 ob:Nat
 now:Int
 q:QS
 u:fU
 g:GW
 added:Int
 jB:Int
def DV(u:fU)(q:QS):Prop:=∀ e:gG,e∈q.fP↔∃ x,u.has x/\x.slot=(e.ix:Int)/\x.exp=e.key
structure WW.ok (c:WC) (s:WW):Prop where
 w1:1<=c.win
 wi:c.win<=1000000
 e1:1<=c.fL
 en:c.fL<=16384
 v2:2<=c.fN
 vn:c.fN<=4096
 n0:0<=s.now
 n1:s.now<=1000000
 a0:0<=s.added
 a1:s.added<=1000000
 ex:gZ .u64 s.jB
 la:s.u.last<=s.added
 tY:DV s.u s.q
 live:∀ x,s.u.has x->x.t<=s.now/\s.now<x.exp/\x.exp=x.t+c.win/\0<=x.t
 ord:∀ x y,s.u.has x->s.u.has y->x.seq<y.seq->x.t<=y.t
 fr:nD s.u s.g
structure oS (u u2:fU) (ds:List Nat):Prop where
 has:∀ x,u2.has x↔u.has x/\∀ i∈ds,x.slot≠(i:Int)
 last:u2.last=u.last
theorem oS.start(u:fU):oS u u []:=⟨fun x=>by simp,rfl⟩
theorem oS.next{u u2 d:fU}{ds:List Nat}{i:Nat}(h:oS u u2 ds)(e:∀ x,d.has x↔u2.has x/\x.slot≠(i:Int))(f:d.last=u2.last):oS u d (ds++[i]) :=
 ⟨fun x=>by
  rw[e,h.has,and_assoc]
  refine and_congr_right fun _=>⟨fun⟨a,b⟩ j c=>?_,fun h=>⟨fun j c=>h j (by simp[c]),h i s_⟩⟩
  rcases zr.1 c with c|c
  . exact a j c
  . rw[lR]at c;subst c;exact b,f.trans h.last⟩
theorem oS.fin{fN fL n:Nat}{u u2:fU}{q p:QS}{ds:List Nat}{t:Int}(h:oS u u2 ds)(hs:DV u q)(c:u.ok fN fL)(hd:qa n q p ds t):∀ x,u2.has x↔u.has x/\t<x.exp:=by
 intro x
 rw[h.has]
 refine and_congr_right fun a=>?_
 obtain⟨i,hi,_,_,_⟩:=c.xZ a
 have d:(⟨i,x.exp⟩:gG)∈q.fP:=(hs _).2 ⟨x,a,hi,rfl⟩
 constructor
 . intro b
   by_cases h2:t<x.exp
   . exact h2
   . exact absurd hi (b i ((hd.out i).2 ⟨_,d,rfl,Int.not_lt.1 h2⟩))
 . intro b j l e
   obtain⟨f,g,k,r⟩:=(hd.out j).1 l
   obtain⟨y,m,o,s⟩:=(hs f).1 g
   have:x=y:=c.Dg a m (by rw[e,o,k])
   subst this
   omega
theorem oS.can{fN fL n:Nat}{u u2:fU}{q B:QS}{ds:List Nat}{t:Int}{k i:Nat}(h:oS u u2 (ds.take k))(hs:DV u q)(v:u2.ok fN fL)(hd:qa n q B ds t)(hk:ds[k]? = some i):u2.A.gW i:=by
 obtain⟨s,r⟩:=zk.1 hk
 obtain⟨f,l,m,C⟩:=(hd.out i).1 (zd hk)
 obtain⟨x,w,z,D⟩:=(hs f).1 l
 rw[m]at z
 have y:u2.has x:=(h.has x).2 ⟨w,fun j c e=>by
  obtain⟨a,d,b⟩:=vC c
  have g:a<k/\a<ds.length:=by
   rw[z8]at d
   omega
  rw[List.getElem_take]at b
  have o:j=i:=by omega
  have:=J8 hd.nd g.2 s (by rw[b,r,o])
  omega⟩
 obtain⟨j,c,p,_,_⟩:=v.xZ y
 have:j=i:=by omega
 subst this
 exact p
section
variable {c:WC} {s:WW}
theorem WW.ok.tick(h:s.ok c){T:Int}(r:s.now<=T)(k:T<=1000000){u2:fU}{i:QS}{g2:GW}{ds:List Nat}{n:Nat}{ex:Int}(l:gZ .u64 ex)(hd:qa n s.q i ds T)(d:∀ x,u2.has x↔s.u.has x/\T<x.exp)(o:u2.last=s.u.last)(m:nD u2 g2) :
 WW.ok c ⟨s.cb,s.ub,s.sb,s.hb,s.ob,T,i,u2,g2,s.added,ex⟩:=by
 have v:=h.n0
 refine⟨h.w1,h.wi,h.e1,h.en,h.v2,h.vn,by show 0<=T;omega,k,h.a0,h.a1,l,by show u2.last<=_;rw[o];exact h.la,fun e=>?_,fun x g=>?_,fun x y g p=>h.ord x y ((d x).1 g).1 ((d y).1 p).1,m⟩
 . show e∈i.fP↔∃ x,u2.has x/\_
   rw[hd.rest,h.tY]
   constructor
   . rintro⟨⟨x,a,b,f⟩,j⟩
     exact⟨x,(d x).2 ⟨a,o_⟩,b,f⟩
   . rintro⟨x,a,b,f⟩
     have j:=(d x).1 a
     exact⟨⟨x,j.1,b,f⟩,o_⟩
 . have a:=(d x).1 g
   have b:=h.live x a.1
   show x.t<=T/\T<x.exp/\_
   exact⟨o_,a.2,b.2.2⟩
theorem WW.ok.free(h:s.ok c)(j:s.u.ok c.fN c.fL){u2:fU}(k:u2.ok c.fN c.fL){i:Nat}{e:Lv}(d:e.slot=(i:Int))(m:e.seq=s.u.last+1)(a:∀ y,u2.has y↔s.u.has y\/y=e):∀ f∈s.q.fP,f.ix≠i:=by
 intro f g e1
 obtain⟨x,b,l,_⟩:=(h.tY f).1 g
 have:x=e:=k.Dg ((a x).2 (.inl b)) ((a e).2 (.inr rfl)) (by rw[l,d,e1])
 subst this
 have:=j.SH b
 omega
theorem WW.ok.ins(h:s.ok c)(z:s.u.ok c.fN c.fL){u2:fU}{n:QS}{g2:GW}{i:Nat}{e:Lv}(r:e.slot=(i:Int))(E:e.seq=s.u.last+1)(F:e.t=s.now)(D:e.exp=s.now+c.win)(g:∀ y,u2.has y↔s.u.has y\/y=e)(G:u2.last=s.u.last+1)
 (w:∀ f,f∈n.fP↔f∈s.q.fP\/f=⟨i,e.exp⟩) (B:s.added<1000000) (v:nD u2 g2):WW.ok c ⟨s.cb,s.ub,s.sb,s.hb,s.ob,s.now,n,u2,g2,s.added+1,s.jB⟩:=by
 have C:=h.a0
 have H:=h.la
 have I:=h.n0
 have J:=h.w1
 refine⟨h.w1,h.wi,h.e1,h.en,h.v2,h.vn,h.n0,h.n1,by show 0<=s.added+1;omega,by show s.added+1<=_;omega,h.ex,by show u2.last<=s.added+1;omega,fun f=>?_,fun x k=>?_,fun x y k p=>?_,v⟩
 . show f∈n.fP↔∃ x,u2.has x/\_
   rw[w,h.tY]
   constructor
   . rintro(⟨x,l,j⟩|rfl)
     . exact⟨x,(g x).2 (.inl l),j⟩
     . exact⟨e,(g e).2 (.inr rfl),r,rfl⟩
   . rintro⟨x,l,j,m⟩
     rcases(g x).1 l with d|rfl
     . exact .inl ⟨x,d,j,m⟩
     . right
       obtain⟨a,b⟩:=f
       simp only at j m
       have:a=i:=by omega
       subst this
       rw[m]
 . show x.t<=s.now/\s.now<x.exp/\_
   rcases(g x).1 k with d|rfl
   . exact h.live x d
   . exact⟨o_,o_,o_,o_⟩
 . change u2.has x at k
   change u2.has y at p
   rcases(g x).1 k with d|rfl<;>rcases(g y).1 p with o|rfl
   . exact h.ord x y d o
   . intro _
     have:=(h.live x d).1
     omega
   . have:=z.SH o
     intro A
     omega
   . intro _;omega
end
theorem WW.tQ{c:WC}(w1:1<=c.win)(wi:c.win<=1000000)(e1:1<=c.fL)(en:c.fL<=16384)(v2:2<=c.fN)(vn:c.fN<=4096){u:fU}{q:QS}{g:GW}(a:∀ y,¬ u.has y)(f:u.last=0)(d:q.fP=[])(b:g.m=[])(cb ub sb hb ob:Nat):WW.ok c ⟨cb,ub,sb,hb,ob,0,q,u,g,0,0⟩ :=
 ⟨w1,wi,e1,en,v2,vn,xC 0,by show (0:Int)<=1000000;decide,xC 0,by show (0:Int)<=1000000;decide,oZ ⟨xC 0,by show (0:Int)<=18446744073709551615;decide⟩,by show u.last<=0;omega,fun e=>⟨fun h=>by change e∈q.fP at h;rw[d]at h;simp at h,fun⟨x,h,_⟩=>absurd h (a x)⟩,fun x h=>absurd h (a x),fun x y h=>absurd h (a x),fun k t=>⟨fun h=>(by change (gF g.m k).map Ed.er=_ at h;rw[b]at h;cases h),fun⟨x,h,_⟩=>absurd h (a x)⟩⟩
theorem WW.ok.noE{c:WC}{s:WW}(h:s.ok c){i:Nat}(a:∀ f∈s.q.fP,f.ix≠i):gF s.g.m i=none :=
 h.fr.empty fun x b hs=>a ⟨i,x.exp⟩ ((h.tY _).2 ⟨x,b,hs,rfl⟩) rfl
theorem WW.ok.due{c:WC}{s:WW}(h:s.ok c){v:QS}{ds:List Nat}{n:Nat}{T:Int}(hd:qa n s.q v ds T)(o:s.u.ok c.fN c.fL):sL s.g.m s.g.m ds 0/\∀ j e,gF s.g.m j=some e->(j∈ds↔e.exp<=T):=by
 refine⟨sL.start fun j p=>?_,fun j e d=>?_⟩
 . obtain⟨f,i,l,_⟩:=(hd.out j).1 p
   obtain⟨x,a,b,_⟩:=(h.tY f).1 i
   obtain⟨e,d,_⟩:=h.fr.tI o a (k:=j) (by rw[b,l])
   rw[d];rfl
 . obtain⟨x,a,b,_,_,A⟩:=h.fr.live d
   rw[hd.out]
   constructor
   . rintro⟨f,i,l,z⟩
     obtain⟨y,r,t,B⟩:=(h.tY f).1 i
     have:x=y:=o.Dg a r (by rw[b,t,l])
     subst this
     omega
   . intro w
     exact⟨⟨j,x.exp⟩,(h.tY _).2 ⟨x,a,b,rfl⟩,rfl,by show x.exp<=T;omega⟩
theorem WW.ok.afp{c:WC}{s:WW}(h:s.ok c){l:QS}{u2:fU}{g2:GW}{ds:List Nat}{n:Nat}{T:Int}(hd:qa n s.q l ds T)(f:s.u.ok c.fN c.fL)(j:u2.ok c.fN c.fL)(e:oS s.u u2 ds)(hk:TW.Kp s.u.t u2.t)(b:sL s.g.m g2.m ds ds.length):nD u2 g2 :=
 h.fr.rest f j (P:=fun k=>k∈ds) (fun x=>(e.has x).trans (and_congr_right fun o=>⟨fun a k hk d=>a k d hk,fun a i hi hs=>a i hs hi⟩)) hk (fun k hk=>b.fin k hk) fun k hk=>b.out k hk
structure WW.Step (s s2:WW) (r:Lv):Prop where
 now:s2.now=s.now\/s2.now=r.t
 added:s2.added<=s.added+1
 has:∀ x,s2.u.has x->s.u.has x\/(x.u=r.u/\x.v=r.v/\x.wt=r.wt)
theorem WW.Step.same(s:WW)(r:Lv):WW.Step s s r:=⟨.inl rfl,o_,fun x h=>.inl h⟩
theorem ZW(x:Int):gZ .u64 (IntKind.u64.wrap x):=by
 rw[IntKind.wrap_u64]
 exact oZ o_
theorem NT{win now t:Int}(h1:now<=t)(a : -9223372036854775808<=t+win/\t+win<=9223372036854775807):rS win now t=0:=by
 unfold rS
 rw[if_neg o_,Av a]
theorem qa.acn{n:Nat}{q a t:QS}{ds:List Nat}{now:Int}(h:qa n a t ds now)(e:a.fP=q.fP):qa n q t ds now :=
 ⟨h.ok,by rw[<-e];exact h.rest,by rw[<-e];exact h.out,h.nd,h.len⟩
theorem TW.mA.lt{t:TW}{id:Int}{z:Nat}{b:Bool}(h:t.mA id z b)(a:t.ok)(hp:0<t.A.n):z<t.A.n:=by
 rcases h with ⟨_,h,_⟩|⟨_,rfl,_⟩
 . exact oC h.1 a.oV
 . exact hp
def Room(c:WC)(s:WW)(x:Lv):Prop:=∀ u2:fU,u2.ok c.fN c.fL->u2.t.A.ok->(∀ y,u2.has y↔s.u.has y/\x.t<y.exp)->u2.gN c.fN c.fL x.u x.v=0
theorem Room.of{c:WC}{s:WW}{x:Lv}{a:fU}(d:a.ok c.fN c.fL)(e:a.t.A.ok)(g:a.gN c.fN c.fL x.u x.v=0)(hs:∀ y,s.u.has y/\x.t<y.exp->a.has y):Room c s x :=
 fun u2 b f h=>fU.Vy b f d e (fun y i=>hs y ((h y).1 i)) g
end Go.Sx
namespace Go.Sx
open Go
structure rJ (c:WC) (s:WW) (k:Nat):Prop where
 now:s.now<=3*(k:Int)
 added:s.added<=(k:Int)
 ids:∀ x,s.u.has x->(0<=x.u/\x.u<12)/\0<=x.v/\x.v<12
 wt:∀ x,s.u.has x -> -128<=x.wt/\x.wt<=127
theorem rJ.next{c:WC}{s s2:WW}{k:Nat}{r:Lv}(h:rJ c s k)(hs:WW.Step s s2 r)(m:r.t<=s.now+3)(f:0<=r.u/\r.u<12)(hv:0<=r.v/\r.v<12)(g : -128<=r.wt/\r.wt<=127):rJ c s2 (k+1):=by
 have i:=h.now
 have j:=h.added
 have l:=hs.added
 refine⟨?_,o_,fun x b=>?_,fun x b=>?_⟩
 . rcases hs.now with e|e<;>omega
 . rcases hs.has x b with a|⟨a,d,_⟩
   . exact h.ids x a
   . rw[a,d];exact⟨f,hv⟩
 . rcases hs.has x b with a|⟨_,_,a⟩
   . exact h.wt x a
   . rw[a];exact g
end Go.Sx
namespace Go.Sx
open Go
structure Mv where
 u:Int
 v:Int
 wt:Int
 af:Int
instance:Inhabited Mv:=⟨⟨0,0,0,0⟩⟩
structure Mv.ok (x:Mv):Prop where
 u:0<=x.u/\x.u<=255
 v:0<=x.v/\x.v<=255
 wt : -128<=x.wt/\x.wt<=127
 af:0<=x.af/\x.af<=255
theorem rJ.start{c:WC}{s:WW}(h1:s.now=0)(d:s.added=0)(b:∀ y,¬ s.u.has y):rJ c s 0 :=
 ⟨by rw[h1];decide,by rw[d];decide,fun x a=>absurd a (b x),fun x a=>absurd a (b x)⟩
def Mv.tI(now:Int)(x:Mv):Lv:=⟨0,0,x.u%12,x.v%12,x.wt,now+x.af%4,0⟩
theorem Mv.ok.tI{x:Mv}(h:x.ok){now:Int}(a:0<=now)(h1:now<=1000):(x.tI now).ok:=by
 have b:=h.wt
 unfold Mv.tI
 exact⟨kH (by show _/\_;dsimp only;omega),oZ (by show _/\_;dsimp only;omega),oZ (by show _/\_;dsimp only;omega),oZ (by show _/\_;dsimp only;omega),kH (by show _/\_;dsimp only;omega),kH (by show _/\_;dsimp only;omega),kH (by show _/\_;dsimp only;omega)⟩
end Go.Sx
namespace Go.Sx
open Go
section
variable {ys xs:List Int} {i j n:Nat} {x:Int}
def qG(ys:List Int)(i:Nat):Prop:=∀ p q,p<q->q<i->fJ ys p<=fJ ys q
def uy(ys:List Int)(i j:Nat):Prop:=∀ p q,p<q->q<=i->q≠j->fJ ys p<=fJ ys q
def Di(ys:List Int)(j:Nat):List Int:=fO (fO ys j fun _=>fJ ys (j-1)) (j-1) fun _=>fJ ys j
theorem ae7(c:0<j)(h:j<ys.length):(Di ys j).Perm ys:=by
 have b:=List.set_set_perm h (show j-1<ys.length by omega)
 have e1:fJ ys (j-1)=ys[j-1]:=ij (zm o_)
 have a:fJ ys j=ys[j]:=ij (zm h)
 unfold Di fO
 rw[e1,a]
 exact b
theorem S6(a:0<j)(h:j<ys.length)(k:Nat):fJ (Di ys j) k=if k=j then fJ ys (j-1)else if k=j-1 then fJ ys j else fJ ys k:=by
 unfold Di
 rw[jh (by rw[gC];omega),jh h]
 by_cases h1:k=j
 . subst h1
   rw[if_neg o_,if_pos rfl,if_pos rfl]
 . by_cases h2:k=j-1
   . subst h2
     rw[if_pos rfl,if_neg h1,if_pos rfl]
   . rw[if_neg (fun e=>h2 e.symm),if_neg (fun e=>h1 e.symm),if_neg h1,if_neg h2]
theorem qG.zero:qG ys 1:=fun p q a b=>by omega
theorem qG.at(h:qG ys i):uy ys i i:=fun p q a b c=>h p q a o_
theorem uy.swap(h:uy ys i j)(b:0<j)(e:j<=i)(f:i<ys.length)(g:fJ ys j<fJ ys (j-1)):uy (Di ys j) i (j-1):=by
 intro p q d a c
 rw[S6 b o_,S6 b o_]
 by_cases hqj:q=j
 . rw[if_pos hqj]
   by_cases hp:p=j-1
   . rw[if_neg o_,if_pos hp];omega
   . rw[if_neg o_,if_neg hp]
     exact h p (j-1) o_ o_ o_
 . rw[if_neg hqj,if_neg c]
   by_cases hpj:p=j
   . rw[if_pos hpj]
     exact h (j-1) q o_ a hqj
   . rw[if_neg hpj]
     by_cases hp:p=j-1
     . rw[if_pos hp]
       exact h j q o_ a hqj
     . rw[if_neg hp]
       exact h p q d a hqj
theorem uy.Wu(h:uy ys i 0):qG ys (i+1):=fun p q a b=>h p q a o_ o_
theorem uy.done(h:uy ys i j)(b:0<j)(d:j<=i)(e:¬ fJ ys j<fJ ys (j-1)):qG ys (i+1):=by
 intro p q a c
 by_cases hq:q=j
 . subst hq
   by_cases hp:p=q-1
   . subst hp;omega
   . have:=h p (q-1) o_ o_ o_
     omega
 . exact h p q a o_ hq
theorem qG.j5(h:qG ys ys.length)(f:ys.Nodup):ys.Pairwise fun a b=>a<b:=by
 have e:ys.Pairwise fun a b=>a<=b:=by
  rw[uq]
  intro p q hp d g
  have c:=h p q g d
  rw[ij (zm hp),ij (zm d)]at c
  exact c
 exact(e.and f).imp fun {a b} h=>by have:=h.1;have:=h.2;omega
theorem Er{α:Type}{r:α->α->Prop}(hi:∀ a,¬ r a a)(f:∀ a b,r a b->¬ r b a):∀ {a b:List α},a.Pairwise r->b.Pairwise r->(∀ x,x∈a↔x∈b)->a=b
 | [],[],_,_,_=>rfl
 | [],y :: b,_,_,h=>by have:=(h y).2 s_;cases this
 | x :: a,[],_,_,h=>by have:=(h x).1 s_;cases this
 | x :: a,y :: b,ha,hb,h=>by
  have k:x=y:=by
   rcases zg.1 ((h x).1 s_)with e|c
   . exact e
   . rcases zg.1 ((h y).2 s_)with e|g
     . exact e.symm
     . exact absurd ((tj.1 ha).1 y g) (f _ _ ((tj.1 hb).1 x c))
  subst k
  have i:=(tj.1 ha).1
  have j:=(tj.1 hb).1
  congr 1
  refine Er hi f (tj.1 ha).2 (tj.1 hb).2 fun z=>⟨fun d=>?_,fun d=>?_⟩
  . rcases zg.1 ((h z).1 (by simp[d]))with e|c
    . subst e;exact absurd (i z d) (hi z)
    . exact c
  . rcases zg.1 ((h z).2 (by simp[d]))with e|c
    . subst e;exact absurd (j z d) (hi z)
    . exact c
theorem U6{a b:List Int}(c:a.Pairwise fun x y=>x<y)(hb:b.Pairwise fun x y=>x<y)(h:∀ x,x∈a↔x∈b):a=b :=
 Er (fun a=>Int.lt_irrefl a) (fun a b h=>by omega) c hb h
theorem fU.mB.uniq{s:fU}{a b:List Lv}(c:s.mB a)(hb:s.mB b):a=b :=
 Er (r:=fun x y:Lv=>x.seq<y.seq) (fun a=>Int.lt_irrefl _) (fun a b h=>by omega) c.j5 hb.j5 fun x=>(c.mem x).trans (hb.mem x).symm
structure oP (ys:List Int) (x:Int) (i j:Nat):Prop where
 lo:∀ p,p<i->fJ ys p<x
 hi:∀ p,j<=p->p<ys.length->x<=fJ ys p
theorem oP.start:oP ys x 0 ys.length:=⟨fun p h=>by omega,fun p a b=>by omega⟩
theorem Es(h:ys.Pairwise fun a b=>a<b){p q:Nat}(e:p<q)(c:q<ys.length):fJ ys p<fJ ys q:=by
 have d:=(uq.1 h) p q o_ c e
 rw[ij (zm (show p<ys.length by omega)),ij (zm c)]
 exact d
theorem oP.up(h:oP ys x i j)(hs:ys.Pairwise fun a b=>a<b){k:Nat}(hk:k<ys.length)(c:fJ ys k<x):oP ys x (k+1) j :=
 ⟨fun p hp=>by
  by_cases e:p=k
  . subst e;exact c
  . have:=Es hs (show p<k by omega) hk
    omega,h.hi⟩
theorem oP.down(h:oP ys x i j)(hs:ys.Pairwise fun a b=>a<b){k:Nat}(f:¬ fJ ys k<x):oP ys x i k :=
 ⟨h.lo,fun p d c=>by
  by_cases e:p=k
  . subst e;omega
  . have:=Es hs (show k<p by omega) c
    omega⟩
def gK(ys:List Int)(x:Int):Nat:=(ys.filter fun y=>decide (y<x)).length
theorem oP.gK(h:oP ys x i i)(hi:i<=ys.length):i=gK ys x:=by
 have d:(ys.take i).filter (fun y=>decide (y<x))=ys.take i:=uk.2 fun y c=>by
  obtain⟨p,hp,e⟩:=vC c
  rw[z8]at hp
  rw[List.getElem_take]at e
  have a:=h.lo p o_
  rw[ij (zm o_),e]at a
  exact decide_eq_true a
 have a:(ys.drop i).filter (fun y=>decide (y<x))=[]:=LU.2 fun y c=>by
  obtain⟨p,hp,e⟩:=vC c
  rw[BF]at hp
  rw[List.getElem_drop]at e
  have b:=h.hi (i+p) o_ o_
  rw[ij (zm o_),e]at b
  simp
  omega
 have b:ys.filter (fun y=>decide (y<x))=ys.take i:=by
  conv=>lhs;rw[<-vu i ys]
  rw[BE,d,a,vH]
 unfold Go.Sx.gK
 rw[b,z8]
 omega
theorem r9(hs:ys.Pairwise fun a b=>a<b)(f:x∈ys):gK ys x<ys.length/\fJ ys (gK ys x)=x:=by
 obtain⟨k,c,e⟩:=vC f
 have e1:fJ ys k=x:=ij (by rw[zm c,e])
 have hb:oP ys x k k:=⟨fun p hp=>by have:=Es hs hp c;omega,fun p g d=>by
  by_cases h3:k=p
  . subst h3;omega
  . have:=Es hs (show k<p by omega) d
    omega⟩
 rw[<-hb.gK o_]
 exact⟨c,e1⟩
structure Ge where
 u:Nat
 v:Nat
 w:Int
instance:Inhabited Ge:=⟨⟨0,0,0⟩⟩
def Ge.cells(x:Ge):List Value:=[.int .i64 x.u,.int .i64 x.v,.int .i64 x.w]
structure Ma (ids:List Int) (x:Lv) (e:Ge):Prop where
 ul:e.u<ids.length
 vl:e.v<ids.length
 u:fJ ids e.u=x.u
 v:fJ ids e.v=x.v
 w:e.w=x.wt
structure oQ (ids:List Int) (L:List Lv) (es:List Ge) (k:Nat):Prop where
 len:es.length=L.length
 fst:∀ i,i<k->Ma ids (fJ L i) (fJ es i)
theorem oQ.start{ids:List Int}{L:List Lv}:oQ ids L (List.replicate L.length ⟨0,0,0⟩) 0:=⟨by rw[xq],fun i h=>by omega⟩
theorem oQ.next{ids:List Int}{L:List Lv}{es:List Ge}{k:Nat}(h:oQ ids L es k)(hk:k<L.length)(hs:ids.Pairwise fun a b=>a<b)(c:(fJ L k).u∈ids)(hv:(fJ L k).v∈ids) :
 oQ ids L (fO es k fun _=>⟨gK ids (fJ L k).u,gK ids (fJ L k).v,(fJ L k).wt⟩) (k+1):=by
 have d:=h.len
 refine⟨by rw[gC];exact d,fun i hi=>?_⟩
 rw[jh o_]
 by_cases e:k=i
 . subst e
   rw[if_pos rfl]
   exact⟨(r9 hs c).1,(r9 hs hv).1,(r9 hs c).2,(r9 hs hv).2,rfl⟩
 . rw[if_neg e]
   exact h.fst i o_
structure fU.pK (s:fU) (K:List Int):Prop where
 j5:K.Pairwise fun a b=>a<b
 mem:∀ x,x∈K↔s.t.mem x
theorem fU.pK.uniq{s:fU}{a b:List Int}(c:s.pK a)(hb:s.pK b):a=b:=U6 c.j5 hb.j5 fun x=>(c.mem x).trans (hb.mem x).symm
theorem fU.pK.ends{s:fU}{fN fL:Nat}{K:List Int}{L:List Lv}(h:s.pK K)(a:s.ok fN fL)(b:s.mB L){k:Nat}(hk:k<L.length):(fJ L k).u∈K/\(fJ L k).v∈K:=by
 obtain⟨i,hi,e⟩:=(b.mem _).1 (zd (gz hk))
 exact⟨(h.mem _).2 ((a.mem _).2 ⟨i,hi,.inl (by rw[e])⟩),(h.mem _).2 ((a.mem _).2 ⟨i,hi,.inr (by rw[e])⟩)⟩
theorem fU.pK.len{s:fU}{fN fL:Nat}{K:List Int}(h:s.pK K)(d:s.ok fN fL)(c:s.t.A.ok):K.length<=fN:=by
 have f:K.length<=s.t.tJ.length:=AV K _ (h.j5.imp fun {a b} k e=>by omega) fun x g=>(TW.Je c x).2 ((h.mem x).1 g)
 rw[TW.PV c]at f
 have i:=d.tok.ul
 have j:=d.tn
 omega
structure Mw where
 wa:Bool
 u:Int
 v:Int
 wt:Int
 af:Int
instance:Inhabited Mw:=⟨⟨false,0,0,0,0⟩⟩
def Mw.cells(x:Mw):List Value:=[.bool x.wa,.int .u8 x.u,.int .u8 x.v,.int .i8 x.wt,.int .u8 x.af]
def Mw.mv(x:Mw):Mv:=⟨x.u,x.v,x.wt,x.af⟩
abbrev cG:WC:=⟨20,40,10,60⟩
theorem rJ.tick{c:WC}{s s2:WW}{k:Nat}{T:Int}(h:rJ c s k)(g:s2.now=T)(i:T<=s.now+3)(f:s2.added=s.added)(b:∀ y,s2.u.has y↔s.u.has y/\T<y.exp):rJ c s2 (k+1):=by
 have d:=h.now
 have e:=h.added
 exact⟨o_,o_,fun x a=>h.ids x ((b x).1 a).1,fun x a=>h.wt x ((b x).1 a).1⟩
end
end Go.Sx
namespace Go.Sx
open Go
structure Ds where
 uv:Value
 lv:Value
 sv:Value
 up:List Nat
 le:List Nat
 sz:List Int
 cnt:Int
 lb:List Nat
structure Ds.wO (d:Nat->Nat) (n:Nat) (s:Ds):Prop where
 ul:s.up.length=n
 ll:s.le.length=n
 sl:s.sz.length=n
 bl:s.lb.length=n
 ub:∀ i,i<n->fJ s.up i<n
 wF:∀ i,i<n->fJ s.lb (fJ s.up i)=fJ s.lb i
 dec:∀ i,i<n->fJ s.up i≠i->d (fJ s.up i)<d i
 qw:∀ i j,i<n->j<n->fJ s.up i=i->fJ s.up j=j->fJ s.lb i=fJ s.lb j->i=j
 gQ:∀ i,i<n->fJ s.up i=i->fJ s.le i=fJ s.lb i
 low:∀ i,i<n->fJ s.lb i<=i
 kZ:∀ i,i<n->fJ s.lb (fJ s.lb i)=fJ s.lb i
 K8:∀ x∈s.sz,gZ .i64 x
def Ds.ok(n:Nat)(s:Ds):Prop:=(∃ d,s.wO d n)/\gZ .i64 s.cnt
def js(lb:List Nat)(x y:Nat):List Nat:=lb.map fun z=>if z=max x y then min x y else z
theorem FE{lb:List Nat}{x y:Nat}:(js lb x y).length=lb.length:=by simp[js]
theorem Q7{lb:List Nat}{x:Nat}:js lb x x=lb:=by
 unfold js
 conv=>rhs;rw[<-List.map_id lb]
 exact zN fun z _=>by simp;intro h;exact h.symm
theorem nJ{lb:List Nat}{x y i:Nat}(h:i<lb.length):fJ (js lb x y) i=if fJ lb i=max x y then min x y else fJ lb i:=by
 obtain⟨z,a⟩:=pS h
 grind [ij,js]
theorem lG{n i:Nat}(h:i<n):fJ (List.range n) i=i:=ij (p6 h)
theorem yJ{α:Type}[Inhabited α]{x:α}{n i:Nat}(h:i<n):fJ (List.replicate n x) i=x:=ij (by rw[uh,if_pos h])
theorem ZY:gZ .i64 1:=by unfold gZ;decide
theorem Ds.tQ{n:Nat}{u l s:Value}{c:Int}(b:gZ .i64 c):Ds.ok n ⟨u,l,s,List.range n,List.range n,List.replicate n 1,c,List.range n⟩ :=
 ⟨⟨fun _=>0,s_,s_,s_,s_,fun i h=>by show fJ (List.range n) i<n;rw[lG h];exact h,fun i h=>by show fJ (List.range n) (fJ (List.range n) i)=_;rw[lG h,lG h],fun i h a=>absurd (lG h) a,
  fun i j hi d _ _ h=>by have a:fJ (List.range n) i=fJ (List.range n) j:=h;rwa [lG hi,lG d]at a,fun i _ _=>rfl,fun i h=>by show fJ (List.range n) i<=i;rw[lG h];exact zo _,fun i h=>by show fJ (List.range n) (fJ (List.range n) i)=_;rw[lG h,lG h],fun x e=>by rw[(List.mem_replicate.1 e).2];exact ZY⟩,b⟩
structure sK (n k:Nat) (up le:List Nat) (sz:List Int):Prop where
 u:up=(List.range k)++List.replicate (n-k) 0
 l:le=(List.range k)++List.replicate (n-k) 0
 s:sz=List.replicate k 1++List.replicate (n-k) 0
theorem Bl{α:Type}[Inhabited α]{a b:List α}{x y:α}{f:α->α}(c:f x=y):fO (a++x :: b) a.length f=a++y :: b:=by
 unfold fO
 rw[ij (x:=x) s_,c,List.set_append_right _ _ (zo _)]
 simp
theorem sK.start{n:Nat}:sK n 0 (List.replicate n 0) (List.replicate n 0) (List.replicate n 0):=⟨s_,s_,s_⟩
theorem Ba{α:Type}{x:α}{n k:Nat}(h:k<n):List.replicate (n-k) x=x :: List.replicate (n-(k+1)) x:=by
 rw[show n-k=(n-(k+1))+1 by omega];rfl
theorem sK.next{n k:Nat}{up le:List Nat}{sz:List Int}(h:sK n k up le sz)(hk:k<n):sK n (k+1) (fO up k fun _=>k) (fO le k fun _=>k) (fO sz k fun _=>1):=by
 obtain⟨rfl,rfl,rfl⟩:=h
 have c:fO (List.range k++List.replicate (n-k) 0) k (fun _=>k)=List.range (k+1)++List.replicate (n-(k+1)) 0:=by
  have:=Bl (a:=List.range k) (b:=List.replicate (n-(k+1)) 0) (x:=0) (y:=k) (f:=fun _=>k) rfl
  rw[p7]at this
  rw[Ba hk,this,tw]
  simp
 refine⟨c,c,?_⟩
 have:=Bl (a:=List.replicate k (1:Int)) (b:=List.replicate (n-(k+1)) 0) (x:=0) (y:=1) (f:=fun _=>1) rfl
 rw[xq]at this
 rw[Ba hk,this,List.replicate_succ']
 simp
theorem sK.fin{n:Nat}{up le:List Nat}{sz:List Int}(h:sK n n up le sz):up=List.range n/\le=List.range n/\sz=List.replicate n 1:=by
 obtain⟨rfl,rfl,rfl⟩:=h
 simp
theorem sK.len{n k:Nat}{up le:List Nat}{sz:List Int}(h:sK n k up le sz)(hk:k<=n):up.length=n/\le.length=n/\sz.length=n:=by
 obtain⟨rfl,rfl,rfl⟩:=h
 simp
 omega
def gh(x:Int):List Value:=[.int .i64 x]
def Ds.wu(s:Ds)(up:List Nat):Ds:={ s with up:=up }
structure p8 (d:Nat->Nat) (n:Nat) (s:Ds) (a0:Nat) (up:List Nat) (a:Nat):Prop where
 ok:(s.wu up).wO d n
 an:a<n
 la:fJ s.lb a=fJ s.lb a0
 ro:∀ i,i<n->fJ s.up i=i->fJ up i=i
theorem p8.start{d:Nat->Nat}{n a:Nat}{s:Ds}(h:s.wO d n)(b:a<n):p8 d n s a s.up a:=⟨h,b,rfl,fun _ _ h=>h⟩
theorem p8.half{d:Nat->Nat}{n a0 a:Nat}{s:Ds}{up:List Nat}(h:p8 d n s a0 up a)(w:fJ up a≠a) :
 p8 d n s a0 (fO up a fun _=>fJ up (fJ up a)) (fJ up (fJ up a))/\fJ (fO up a fun _=>fJ up (fJ up a)) a=fJ up (fJ up a)/\d (fJ up (fJ up a))<d a:=by
 obtain⟨b,f,v,A⟩:=h
 have x:up.length=n:=b.ul
 have m:∀ i,i<n->fJ up i<n:=b.ub
 have g:∀ i,i<n->fJ s.lb (fJ up i)=fJ s.lb i:=b.wF
 have t:∀ i,i<n->fJ up i≠i->d (fJ up i)<d i:=b.dec
 have hp:=m a f
 have o:=m _ hp
 have k:∀ i,fJ (fO up a fun _=>fJ up (fJ up a)) i=if a=i then fJ up (fJ up a)else fJ up i:=fun i=>jh o_
 have y:=t a f w
 have r:d (fJ up (fJ up a))<=d (fJ up a):=by
  grind
 have z:fJ up (fJ up a)≠a:=fun e=>by rw[e]at r;omega
 have l:∀ i,fJ (fO up a fun _=>fJ up (fJ up a)) i=i->fJ up i=i:=by
  grind
 refine⟨⟨⟨by show (fO up a fun _=>fJ up (fJ up a)).length=n;rw[gC];exact x,b.ll,b.sl,b.bl,?_,?_,?_,?_,?_,b.low,b.kZ,b.K8⟩,o,by rw[g _ hp,g _ f];exact v,?_⟩,by rw[k,if_pos rfl],o_⟩
 . intro i hi
   show fJ (fO up a fun _=>fJ up (fJ up a)) i<n
   rw[k]
   split
   . exact o
   . exact m i hi
 . intro i hi
   show fJ s.lb (fJ (fO up a fun _=>fJ up (fJ up a)) i)=fJ s.lb i
   rw[k]
   split
   . grind
   . exact g i hi
 . intro i hi
   show fJ (fO up a fun _=>fJ up (fJ up a)) i≠i->d (fJ (fO up a fun _=>fJ up (fJ up a)) i)<d i
   grind
 . intro i j hi u c p q
   exact b.qw i j hi u (l i c) (l j p) q
 . intro i hi c
   exact b.gQ i hi (l i c)
 . grind
theorem p8.PL{d:Nat->Nat}{n a0 a:Nat}{s:Ds}{up:List Nat}(h:p8 d n s a0 up a)(b:fJ up a≠a) :
 p8 d n s a0 (fO up a fun _=>fJ up (fJ up a)) (fJ (fO up a fun _=>fJ up (fJ up a)) a)/\d (fJ (fO up a fun _=>fJ up (fJ up a)) a)<d a:=by
 rw[h.half b |>.2.1]
 exact⟨(h.half b).1,(h.half b).2.2⟩
theorem Ds.join{d:Nat->Nat}{n x y:Nat}{s:Ds}{sz:List Int}{m:Nat}{c:Int}(h:s.wO d n)(f:x<n)(b:y<n)(r:fJ s.up x=x)(o:fJ s.up y=y)(C:x≠y)(hs:sz.length=n)(hk:∀ z∈sz,gZ .i64 z)
 (hm:m=min (fJ s.le x) (fJ s.le y)) (A:gZ .i64 c):Ds.ok n ⟨s.uv,s.lv,s.sv,fO s.up y fun _=>x,fO s.le x fun _=>m,sz,c,js s.lb (fJ s.lb x) (fJ s.lb y)⟩:=by
 have G:fJ s.lb x≠fJ s.lb y:=fun e=>C (h.qw x y f b r o e)
 have l:∀ i,fJ (fO s.up y fun _=>x) i=if y=i then x else fJ s.up i:=fun i=>jh (by rw[h.ul];exact b)
 have B:∀ i,fJ (fO s.le x fun _=>m) i=if x=i then m else fJ s.le i:=fun i=>jh (by rw[h.ll];exact f)
 have hb:∀ i,i<n->fJ (js s.lb (fJ s.lb x) (fJ s.lb y)) i=if fJ s.lb i=max (fJ s.lb x) (fJ s.lb y)then min (fJ s.lb x) (fJ s.lb y)else fJ s.lb i:=fun i hi=>nJ (by rw[h.bl];exact hi)
 refine⟨⟨fun i=>d i+if fJ s.lb i=fJ s.lb y then d x+1 else 0,by show (fO s.up y fun _=>x).length=n;rw[gC];exact h.ul,by show (fO s.le x fun _=>m).length=n;rw[gC];exact h.ll,hs,by show (js s.lb (fJ s.lb x) (fJ s.lb y)).length=n;rw[FE];exact h.bl,?_,?_,?_,?_,?_,?_,?_,hk⟩,A⟩
 . intro i hi
   show fJ (fO s.up y fun _=>x) i<n
   rw[l]
   split
   . exact f
   . exact h.ub i hi
 . intro i hi
   show fJ (js s.lb (fJ s.lb x) (fJ s.lb y)) (fJ (fO s.up y fun _=>x) i)=fJ (js s.lb (fJ s.lb x) (fJ s.lb y)) i
   rw[l,hb i hi]
   by_cases e:y=i
   . grind
   . rw[if_neg e,hb _ (h.ub i hi),h.wF i hi]
 . intro i hi
   show fJ (fO s.up y fun _=>x) i≠i->d (fJ (fO s.up y fun _=>x) i)+_<d i+_
   rw[l]
   by_cases e:y=i
   . grind
   . rw[if_neg e,h.wF i hi]
     intro g
     have:=h.dec i hi g
     omega
 . intro i j hi q g u v
   have a : fJ (fO s.up y fun _=>x) i=i:=g
   have k : fJ (fO s.up y fun _=>x) j=j:=u
   have w : fJ (js s.lb (fJ s.lb x) (fJ s.lb y)) i=fJ (js s.lb (fJ s.lb x) (fJ s.lb y)) j:=v
   rw[l]at a k
   rw[hb i hi,hb j q]at w
   have p:y≠i:=fun e=>by rw[if_pos e]at a; omega
   have t:y≠j:=fun e=>by rw[if_pos e]at k; omega
   rw[if_neg p]at a
   rw[if_neg t]at k
   have J:=h.qw i y hi b a o
   have L:=h.qw j y q b k o
   have K:=h.qw i j hi q a k
   grind
 . intro i hi g
   show fJ (fO s.le x fun _=>m) i=fJ (js s.lb (fJ s.lb x) (fJ s.lb y)) i
   have a : fJ (fO s.up y fun _=>x) i=i:=g
   rw[l]at a
   rw[B,hb i hi,hm,h.gQ x f r,h.gQ y b o]
   have p:y≠i:=fun e=>by rw[if_pos e]at a; omega
   rw[if_neg p]at a
   by_cases e:x=i
   . subst e
     rw[if_pos rfl]
     split<;>omega
   . rw[if_neg e,h.gQ i hi a, if_neg]
     intro F
     have a1:=h.qw i x hi f a r
     have a2:=h.qw i y hi b a o
     grind [fJ]
 . intro i hi
   show fJ (js s.lb (fJ s.lb x) (fJ s.lb y)) i<=i
   rw[hb i hi]
   have:=h.low i hi
   split<;>omega
 . intro i hi
   show fJ (js s.lb (fJ s.lb x) (fJ s.lb y)) (fJ (js s.lb (fJ s.lb x) (fJ s.lb y)) i)=fJ (js s.lb (fJ s.lb x) (fJ s.lb y)) i
   have bi:=h.low i hi
   have bx:=h.low x f
   have E:=h.low y b
   have ix:=h.kZ x f
   have I:=h.kZ y b
   have D:=h.kZ i hi
   rw[hb i hi]
   split
   . have H:min (fJ s.lb x) (fJ s.lb y)<n:=by omega
     grind
   . rename_i e
     rw[hb _ o_,D,if_neg e]
theorem p8.two{d:Nat->Nat}{n a b x y:Nat}{s:Ds}{g u2:List Nat}(h1:p8 d n s a g x)(r1:fJ g x=x)(c:p8 d n (s.wu g) b u2 y)(r2:fJ u2 y=y) :
 (s.wu u2).wO d n/\fJ u2 x=x/\fJ u2 y=y/\x<n/\y<n/\fJ s.lb x=fJ s.lb a/\fJ s.lb y=fJ s.lb b/\(x=y↔fJ s.lb a=fJ s.lb b):=by
 have h:=c.ro x h1.an r1
 refine⟨c.ok,h,r2,h1.an,c.an,h1.la,c.la,fun e=>?_,fun e=>?_⟩
 . have e1:=h1.la
   have f:fJ s.lb y=fJ s.lb b:=c.la
   rw[<-e1,<-f,e]
 . have e1:=h1.la
   have f:fJ s.lb y=fJ s.lb b:=c.la
   exact c.ok.qw x y h1.an c.an h r2 (e1.trans (e.trans f.symm))
theorem Q5{lb:List Nat}{x y:Nat}:js lb x y=js lb y x:=by unfold js;rw[Nat.max_comm,Nat.min_comm]
theorem Q6{lb:List Nat}{x y a b:Nat}(h1:x=a)(c:y=b):js lb x y=js lb a b:=by rw[h1,c]
theorem TR{k:IntKind}{zs:List Int}{i:Nat}{f:Int->Int}(h:∀ z∈zs,gZ k z)(b:gZ k (f (fJ zs i))):∀ z∈fO zs i f,gZ k z:=fun z c=>by
 rcases List.mem_or_eq_of_mem_set c with a|a
 . exact h z a
 . exact a▸b
theorem FD{a b:Nat}:(if (b:Int)<(a:Int)then(b:Int)else(a:Int))=((min a b:Nat):Int):=by split<;>omega
theorem abk{a b:Nat}:(if (a:Int)<(b:Int)then(b:Int)else(a:Int))=((max a b:Nat):Int):=by split<;>omega
theorem GD(x:Int):gZ .i64 (IntKind.i64.wrap x):=by
 rw[IntKind.wrap_i64]
 show (-9223372036854775808:Int)<=_/\_<=(9223372036854775807:Int)
 omega
theorem ad3(v:Value){e:TypeId}{n:Nat}:fM fW v e 1 (List.replicate n 0)=fM gh v e 1 (List.replicate n 0):=by
 unfold fM
 have h:(List.replicate n (0:Nat)).flatMap fW=(List.replicate n (0:Int)).flatMap gh:=by
  induction n with
  | zero=>rfl
  | succ n a=>rw[List.replicate_succ,List.replicate_succ,z6,z6,a];rfl
 grind
end Go.Sx
namespace Go.Sx
open Go
def iV(es:List Ge):List Nat:=es.flatMap fun e=>[e.u,e.v]
theorem xU(es:List Ge):(iV es).length=2*es.length:=by
 induction es with
 | nil=>rfl
 | cons e es a=>simp only[iV,z6,zw,zh,zn]at *;omega
theorem AB{es:List Ge}{i:Nat}(h:i<es.length):(iV es)[2*i]? = some (fJ es i).u/\(iV es)[2*i+1]? = some (fJ es i).v:=by
 induction es generalizing i with
 | nil=>simp at h
 | cons e es a =>
  cases i with
  | zero=>exact⟨rfl,rfl⟩
  | succ i =>
   have:=a (i:=i) (by simpa using h)
   have e1:fJ (e :: es) (i+1)=fJ es i:=by simp[fJ]
   rw[e1]
   simpa[iV,show 2*(i+1)=2*i+1+1 by omega,show 2*(i+1)+1=2*i+1+1+1 by omega]using this
theorem WE{es:List Ge}{i:Nat}(h:i<es.length):iV (es.take (i+1))=iV (es.take i)++[(fJ es i).u,(fJ es i).v]:=by
 have a:es.take (i+1)=es.take i++[fJ es i]:=by rw[qz,gz h];rfl
 rw[a]
 simp[iV]
def oH(E:List Nat)(v:Nat):Nat:=E.count v
def sX(E:List Nat)(v:Nat):Nat:=E.countP fun x=>decide (x<v)
theorem QF(E:List Nat)(v:Nat):sX E (v+1)=sX E v+oH E v:=by
 unfold sX oH
 induction E with
 | nil=>rfl
 | cons x E a =>
  rw[xm,xm,List.count_cons,a]
  by_cases h1:x<v
  . rw[if_pos (by simp;omega),if_pos (by simpa using h1),if_neg (by simp;omega)];omega
  . by_cases h2:x=v
    . subst h2
      rw[if_pos s_,if_neg s_,if_pos s_];omega
    . rw[if_neg (by simp;omega),if_neg (by simpa using h1),if_neg (by simpa using h2)];omega
theorem aa1(E:List Nat):sX E 0=0:=by unfold sX;rw[BB];simp
theorem QE(E:List Nat)(v:Nat):sX E v<=E.length:=LY
theorem N4(E:List Nat)(v:Nat):oH E v<=E.length:=List.count_le_length
theorem V0{E:List Nat}{k v:Nat}(h:E[k]? = some v):oH (E.take k) v<oH E v:=by
 have a:k<E.length:=(zk.1 h).1
 have b:E=E.take k++v :: E.drop (k+1):=by
  conv=>lhs;rw[<-vu k E]
  rw[Bw a,(zk.1 h).2]
 unfold oH
 conv=>rhs;rw[b]
 rw[List.count_append,List.count_cons_self]
 omega
theorem VZ{E:List Nat}{k v:Nat}(h:E[k]? = some v)(x:Nat):oH (E.take (k+1)) x=oH (E.take k) x+if v=x then 1 else 0:=by
 unfold oH
 rw[qz,h,List.count_append]
 simp[List.count_cons]
def ot(n:Nat)(E:List Nat):List Nat:=0 :: (List.range n).map (oH E)
theorem wY{n:Nat}{E:List Nat}:(ot n E).length=n+1:=by simp[ot]
theorem Bh{n v:Nat}{E:List Nat}(h:v<n):fJ (ot n E) (v+1)=oH E v:=ij (by simp[ot,p6 h])
theorem AR{α:Type}[Inhabited α]{xs ys:List α}(h:xs.length=ys.length)(a:∀ i,i<xs.length->fJ xs i=fJ ys i):xs=ys:=by
 apply nU
 intro i
 by_cases hi:i<xs.length
 . rw[gz hi,gz o_,a i hi]
 . rw[mw o_,mw o_]
theorem aev{n:Nat}:List.replicate (n+1) 0=ot n []:=by
 refine AR (by simp[ot]) fun i hi=>?_
 rw[xq]at hi
 rw[yJ hi]
 cases i with
 | zero=>rfl
 | succ i=>rw[Bh o_];rfl
theorem SO{n v:Nat}{E:List Nat}(h:v<n):fO (ot n E) (v+1) (fun _=>fJ (ot n E) (v+1)+1)=ot n (E++[v]):=by
 refine AR (by rw[gC,wY,wY]) fun i hi=>?_
 rw[gC,wY]at hi
 rw[jh (by rw[wY];omega)]
 cases i with
 | zero=>rw[if_neg o_];rfl
 | succ i =>
  rw[Bh (show i<n by omega),Bh (show i<n by omega),Bh h]
  unfold oH
  rw[List.count_append]
  by_cases e:v=i
  . subst e;simp
  . rw[if_neg o_];simp[e]
def mP(n:Nat)(E:List Nat)(k:Nat):List Nat:=(List.range (n+1)).map fun j=>if j<=k then sX E j else oH E (j-1)
theorem yY{n k:Nat}{E:List Nat}:(mP n E k).length=n+1:=by simp[mP]
theorem yZ{n k j:Nat}{E:List Nat}(h:j<=n):fJ (mP n E k) j=if j<=k then sX E j else oH E (j-1):=ij (by rw[mP,z7,p6 o_];rfl)
theorem aex{n:Nat}{E:List Nat}:ot n E=mP n E 0:=by
 refine AR (by rw[wY,yY]) fun i hi=>?_
 rw[wY]at hi
 rw[yZ o_]
 cases i with
 | zero=>rw[if_pos o_,aa1];rfl
 | succ i=>rw[if_neg o_,Bh o_];rfl
theorem aew{n k:Nat}{E:List Nat}(h:k<n):fO (mP n E k) (k+1) (fun _=>fJ (mP n E k) (k+1)+fJ (mP n E k) k)=mP n E (k+1):=by
 refine AR (by rw[gC,yY,yY]) fun i hi=>?_
 rw[gC,yY]at hi
 rw[jh (by rw[yY];omega),yZ (show i<=n by omega),yZ (show i<=n by omega),yZ (show k+1<=n by omega),yZ (show k<=n by omega)]
 by_cases e:k+1=i
 . subst e
   rw[if_pos rfl,if_neg o_,if_pos (zo _),if_pos (zo _),QF,show k+1-1=k by omega];omega
 . rw[if_neg e]
   by_cases h1:i<=k
   . rw[if_pos h1,if_pos o_]
   . rw[if_neg h1,if_neg o_]
def ua(n:Nat)(es:List Ge):List Nat:=mP n (iV es) n
theorem aeU{n j:Nat}{es:List Ge}(h:j<=n):fJ (ua n es) j=sX (iV es) j:=by rw[ua,yZ h,if_pos h]
theorem S2{n:Nat}{es:List Ge}:(ua n es).length=n+1:=yY
def oM(n:Nat)(E:List Nat)(k:Nat):List Nat:=(List.range (n+1)).map fun v=>sX E v+oH (E.take k) v
theorem yO{n k:Nat}{E:List Nat}:(oM n E k).length=n+1:=by simp[oM]
theorem C0{n k v:Nat}{E:List Nat}(h:v<=n):fJ (oM n E k) v=sX E v+oH (E.take k) v:=ij (by rw[oM,z7,p6 o_];rfl)
theorem aci{n:Nat}{es:List Ge}:ua n es=oM n (iV es) 0:=by
 refine AR (by rw[S2,yO]) fun i hi=>?_
 rw[S2]at hi
 rw[aeU o_,C0 o_]
 simp[oH]
theorem Rl{n k v:Nat}{E:List Nat}(hv:v<n)(h:E[k]? = some v):fO (oM n E k) v (fun _=>fJ (oM n E k) v+1)=oM n E (k+1):=by
 refine AR (by rw[gC,yO,yO]) fun i hi=>?_
 rw[gC,yO]at hi
 rw[jh (by rw[yO];omega),C0 (show i<=n by omega),C0 (show i<=n by omega),C0 (show v<=n by omega),VZ h]
 by_cases e:v=i
 . subst e;rw[if_pos rfl,if_pos rfl];omega
 . rw[if_neg e,if_neg e];rfl
theorem Rj{n k v:Nat}{E:List Nat}(hv:v<n)(h:E[k]? = some v):fJ (oM n E k) v<E.length:=by
 rw[C0 o_]
 have a:=V0 h
 have b:=QF E v
 have c:=QE E (v+1)
 omega
def qU(n:Nat)(E:List Nat):Nat->List Nat
 | 0=>List.replicate E.length 0
 | k+1=>fO (qU n E k) (fJ (oM n E k) (fJ E k)) fun _=>k / 2
theorem JN{n:Nat}{E:List Nat}:∀ k,(qU n E k).length=E.length
 | 0=>by simp[qU]
 | k+1=>by rw[qU,gC];exact JN k
def lsF(n:Nat)(es:List Ge):List Nat:=qU n (iV es) (2*es.length)
def qg(n:Nat)(es:List Ge):Prop:=∀ e∈es,e.u<n/\e.v<n/\e.u≠e.v
theorem qg.at{n:Nat}{es:List Ge}(h:qg n es){i:Nat}(hi:i<es.length):(fJ es i).u<n/\(fJ es i).v<n/\(fJ es i).u≠(fJ es i).v:=h _ (zd (gz hi))
theorem aa2{n i:Nat}{es:List Ge}(h:i<es.length):qU n (iV es) (2*i+1)=fO (qU n (iV es) (2*i)) (fJ (oM n (iV es) (2*i)) (fJ es i).u) fun _=>i:=by
 rw[qU,ij (AB h).1,show 2*i / 2=i by omega]
theorem aa3{n i:Nat}{es:List Ge}(h:i<es.length):qU n (iV es) (2*(i+1))=fO (qU n (iV es) (2*i+1)) (fJ (oM n (iV es) (2*i+1)) (fJ es i).v) fun _=>i:=by
 rw[show 2*(i+1)=2*i+1+1 by omega,qU,ij (AB h).2,show (2*i+1) / 2=i by omega]
structure Gr where
 ev:Value
 sv:Value
 lv:Value
theorem SS{n j:Nat}{E:List Nat}(h:j<=n):fJ (ot n E) j<=E.length:=by
 cases j with
 | zero=>exact oO _
 | succ j=>rw[Bh o_];exact N4 _ _
theorem SU{n k j:Nat}{E:List Nat}(h:j<=n):fJ (mP n E k) j<=E.length:=by
 rw[yZ h]
 split
 . exact QE _ _
 . exact N4 _ _
theorem St.reR{bs:List (World×List Nat)}{L:List fS}{R R' : fS}{w:World}(j:Nat)(h:St bs L w)(hi:L[j]? = some R)(e:R=R'):St bs (L.set j R') w:=by
 subst e
 rwa [show L.set j R=L from by
  apply nU
  intro i
  rw[vE]
  split
  . rename_i e
    subst e
    split
    . exact hi.symm
    . rename_i a
      rw[mw o_]at hi
      cases hi
  . rfl]
end Go.Sx
namespace Go.Sx
open Go
def qS(es:List Ge)(i j:Nat):Prop:=(fJ es i).w<(fJ es j).w\/((fJ es i).w=(fJ es j).w/\i<j)
instance (es:List Ge) (i j:Nat):Decidable (qS es i j):=by unfold qS;infer_instance
theorem aaA{es:List Ge}(i:Nat):¬ qS es i i:=by unfold qS;omega
theorem aaz{es:List Ge}{i j:Nat}(h:qS es i j):¬ qS es j i:=by unfold qS at *;omega
structure sM (es:List Ge) (o:List Nat):Prop where
 perm:o.Perm (List.range es.length)
 Gc:o.Pairwise (qS es)
theorem sM.uniq{es:List Ge}{o o' : List Nat}(h:sM es o)(c : sM es o'):o=o' :=
 Er (r:=qS es) aaA (fun a b h=>aaz h) h.Gc c.Gc fun x=>(h.perm.mem_iff).trans (c.perm.mem_iff).symm
theorem sM.len{es:List Ge}{o:List Nat}(h:sM es o):o.length=es.length:=by rw[h.perm.length_eq,p7]
theorem sM.lt{es:List Ge}{o:List Nat}(h:sM es o){i:Nat}(hi:i∈o):i<es.length:=k9.1 (h.perm.mem_iff.1 hi)
def gU(es:List Ge)(n:Nat)(f:List Nat):List Nat:=f.foldl (fun lb i=>js lb (fJ lb (fJ es i).u) (fJ lb (fJ es i).v)) (List.range n)
theorem Fi{es:List Ge}{n:Nat}{f:List Nat}{i:Nat}:gU es n (f++[i])=js (gU es n f) (fJ (gU es n f) (fJ es i).u) (fJ (gU es n f) (fJ es i).v):=by
 unfold gU
 rw[Hh]
 rfl
theorem Fh{es:List Ge}{n:Nat}(f:List Nat):(gU es n f).length=n:=by
 unfold gU
 rw[<-List.foldr_reverse]
 induction f.reverse with
 | nil=>exact p7
 | cons i f a=>rw[List.foldr_cons,FE];exact a
def mc(es:List Ge)(n:Nat)(f:List Nat)(i:Nat):Prop:=fJ (gU es n f) (fJ es i).u≠fJ (gU es n f) (fJ es i).v
instance (es:List Ge) (n:Nat) (f:List Nat) (i:Nat):Decidable (mc es n f i):=by unfold mc;infer_instance
def jG(es:List Ge)(n:Nat)(o:List Nat):List Nat:=o.foldl (fun f i=>if mc es n f i then f++[i]else f) []
theorem Cw{es:List Ge}{n:Nat}{o:List Nat}{i:Nat}:jG es n (o++[i])=if mc es n (jG es n o) i then jG es n o++[i]else jG es n o:=by
 unfold jG
 rw[Hh]
 rfl
theorem E6{es:List Ge}{n k:Nat}{o:List Nat}(h:k<o.length):jG es n (o.take (k+1))=if mc es n (jG es n (o.take k)) (fJ o k)then jG es n (o.take k)++[fJ o k]else jG es n (o.take k):=by
 rw[<-Cw,qz,gz h]
 rfl
theorem Cy{es:List Ge}{n:Nat}(o:List Nat):(jG es n o).Sublist o:=by
 have h:∀ r:List Nat,(jG es n r.reverse).Sublist r.reverse:=by
  intro r
  induction r with
  | nil=>exact List.Sublist.refl _
  | cons i r a =>
   rw[List.reverse_cons,Cw]
   split
   . exact a.append (List.Sublist.refl _)
   . exact a.trans (List.sublist_append_left _ _)
 simpa using h o.reverse
theorem JA{es:List Ge}{n:Nat}{f:List Nat}{i:Nat}:gU es n (if mc es n f i then f++[i]else f)=js (gU es n f) (fJ (gU es n f) (fJ es i).u) (fJ (gU es n f) (fJ es i).v):=by
 split
 . exact Fi
 . rename_i h
   have e:fJ (gU es n f) (fJ es i).u=fJ (gU es n f) (fJ es i).v:=Decidable.not_not.1 h
   rw[e,Q7]
structure nv (es:List Ge) (n:Nat) (f:List Nat):Prop where
 of:∃ o,sM es o/\f=jG es n o
theorem nv.uniq{es:List Ge}{n:Nat}{f a : List Nat}(h:nv es n f)(b : nv es n a):f=a := by
 obtain⟨o,c,rfl⟩:=h
 obtain⟨e, d,rfl⟩:=b
 rw[c.uniq d]
theorem nv.lt{es:List Ge}{n:Nat}{f:List Nat}(h:nv es n f){i:Nat}(hi:i∈f):i<es.length:=by
 obtain⟨o,a,rfl⟩:=h
 exact a.lt ((Cy o).subset hi)
def si(m k:Nat):List Nat:=List.range k++List.replicate (m-k) 0
theorem adQ{m:Nat}:List.replicate m 0=si m 0:=by simp[si]
theorem adN{m:Nat}:si m m=List.range m:=by simp[si]
theorem adO{m k:Nat}(h:k<=m):(si m k).length=m:=by simp[si];omega
theorem adP{m k:Nat}(h:k<m):fO (si m k) k (fun _=>k)=si m (k+1):=by
 have:=Bl (a:=List.range k) (b:=List.replicate (m-(k+1)) 0) (x:=0) (y:=k) (f:=fun _=>k) rfl
 rw[p7]at this
 rw[si,Ba h,this,si,tw]
 simp
end Go.Sx
namespace Go.Sx
open Go
section
variable {r:Option Nat} {P:Program} {ops:Array Oper} {Q:Exit->Act->World->Prop} {n:Nat} {ds:List Deferred} {s:List (Nat×Value)} {rest:List Oper} {w w0:World} {d:Nat} {dd:Option Nat} {T e:TypeId} {ty:TypeId} {pos:String} {af:Array Edge} {g:Option (Nat×Bool)} {x y:Operand} {α:Type} {cf:α->List Value} {ok:Nat->Prop} {ys:List α} {c:α} {sz k off off' se by_ m i:Nat} {z v:Value} {kk:IntKind}
theorem aag(l:ev n s x=jW sz v k off)(p:ev n s y = .int kk (i:Nat))(d:P.underlying T=some (.array m e))(j:TI P e se by_ z)(r:i<m)(h:off+i*se=off')(a:iz sz cf ok w0 v ys)(f:ys[k]? = some c) :
 (execOp (ev n s) ⟨dd,.indexAddr T x y,ty,pos,af,g⟩).run P w = .ok (.value (jW sz v k off')) w:=by
 obtain⟨b,o,t, q,rfl,_⟩:=a.place f
 subst h
 exact P0 l p d j ⟨o_,o_⟩ (by simp only[nt,lg])
theorem sU(j:gE ops n s g=true)(p:ev n s x=jW sz v k off)(q:ev n s y = .int kk (i:Nat))(f:P.underlying T=some (.array m e))(o:TI P e se by_ z)(a:i<m)(l:off+i*se=off')(b:iz sz cf ok w0 v ys)(h:ys[k]? = some c)
 (K:WL r P ops Q rest (Fr n ((d,jW sz v k off') :: s) ds) w):WL r P ops Q (⟨some d,.indexAddr T x y,ty,pos,af,g⟩ :: rest) (Fr n s ds) w:=pw j (fun _=>aag p q f o a l b h) K
end
structure iU where
 a:Nat
 b:Nat
instance:Inhabited iU:=⟨⟨0,0⟩⟩
abbrev iU.cells(x:iU):List Value:=[.int .i64 (x.a:Int),.int .i64 (x.b:Int)]
structure Un (n:Nat) (lb:List Nat) (us:List iU):Prop where
 len:us.length=n
 bl:lb.length=n
 le:∀ i,i<n->(fJ us i).a<=i
 wF:∀ i,i<n->fJ lb (fJ us i).a=fJ lb i
 root:∀ i,i<n->(fJ us i).a=i->fJ lb i=i
 low:∀ i,i<n->fJ lb i<=i
 kZ:∀ i,i<n->fJ lb (fJ lb i)=fJ lb i
structure uA (n:Nat) (lb:List Nat) (us0:List iU) (a0:Nat) (us:List iU) (i:Nat):Prop where
 un:Un n lb us
 nd:∀ j,(fJ us j).b=(fJ us0 j).b
 lt:i<n
 la:fJ lb i=fJ lb a0
theorem uA.start{n a:Nat}{lb:List Nat}{us:List iU}(h:Un n lb us)(b:a<n):uA n lb us a us a:=⟨h,fun _=>rfl,b,rfl⟩
theorem uA.half{n a0 i:Nat}{lb:List Nat}{l us us2:List iU}(h:uA n lb l a0 us i)(r:(fJ us i).a≠i)(k:us2=fO us i fun x=>{ x with a:=(fJ us (fJ us i).a).a }) :
 uA n lb l a0 us2 (fJ us2 i).a/\(fJ us2 i).a<i:=by
 have hi:=h.lt
 have m:=h.un.len
 have o:=h.un.le i hi
 have hp:(fJ us i).a<n:=by omega
 have p:=h.un.le _ hp
 have f:=h.un.wF i hi
 have g:=h.un.wF _ hp
 have c:∀ j,fJ us2 j=if i=j then { fJ us i with a:=(fJ us (fJ us i).a).a } else fJ us j:=fun j=>by rw[k];exact jh o_
 have e1:(fJ us2 i).a=(fJ us (fJ us i).a).a:=by rw[c,if_pos rfl]
 rw[e1]
 refine⟨⟨⟨by rw[k,gC];exact m,h.un.bl,fun j b=>?_,fun j b=>?_,fun j b d=>?_,h.un.low,h.un.kZ⟩,fun j=>?_,o_,by rw[g,f];exact h.la⟩,o_⟩
 . rw[c]
   split
   . rename_i e;subst e;show (fJ us (fJ us i).a).a<=i;omega
   . exact h.un.le j b
 . rw[c]
   split
   . rename_i e;subst e;show fJ lb (fJ us (fJ us i).a).a=_;rw[g,f]
   . exact h.un.wF j b
 . rw[c]at d
   split at d
   . rename_i e
     subst e
     have q:(fJ us (fJ us i).a).a=i:=d
     omega
   . exact h.un.root j b d
 . rw[c]
   split
   . rename_i e;subst e;exact h.nd i
   . exact h.nd j
theorem uA.fin{n a0 i:Nat}{lb:List Nat}{c us:List iU}(h:uA n lb c a0 us i)(b:(fJ us i).a=i):i=fJ lb a0:=by rw[<-h.la,h.un.root i h.lt b]
end Go.Sx
namespace Go.Sx
open Go
theorem Un.join{n x y a b c:Nat}{lb:List Nat}{us us2:List iU}(h:Un n lb us)(v:x<n)(w:y<n)(ex:fJ lb x=x)(p:fJ lb y=y)(u:x≠y)(l:a=min x y)(hb:b=max x y)
 (m:us2=fO (fO us b fun z=>{ z with a:=a }) a fun z=>{ z with b:=c }):Un n (js lb x y) us2/\∀ j,(fJ us2 j).b=if j=a then c else(fJ us j).b:=by
 have o:=h.len
 have r:a<b:=by omega
 have s:b<n:=by omega
 have t:∀ j,fJ us2 j=if a=j then { fJ us a with b:=c } else if b=j then { fJ us b with a:=a } else fJ us j:=by
  grind [jh,gC]
 have i:∀ j,(fJ us2 j).a=if b=j then a else(fJ us j).a:=by
  grind
 have hm:∀ j,j<n->fJ (js lb x y) j=if fJ lb j=b then a else fJ lb j:=fun j d=>by rw[nJ (by rw[h.bl];exact d),<-l,<-hb]
 have eb:fJ lb b=b:=by rcases(show b=x\/b=y by omega)with e|e<;>rw[e]<;>assumption
 have ea:fJ lb a=a:=by rcases(show a=x\/a=y by omega)with e|e<;>rw[e]<;>assumption
 refine⟨⟨by rw[m,gC,gC];exact o,by rw[FE];exact h.bl,fun j d=>?_,fun j d=>?_,fun j d g=>?_,fun j d=>?_,fun j d=>?_⟩,fun j=>?_⟩
 . rw[i]
   split
   . omega
   . exact h.le j d
 . rw[i,hm j d]
   split
   . grind
   . have f:=h.le j d
     rw[hm _ o_,h.wF j d]
 . rw[i]at g
   split at g
   . omega
   . rename_i e
     rw[hm j d]
     have f:=h.root j d g
     rw[f,if_neg (fun k=>e k.symm)]
 . rw[hm j d]
   have f:=h.low j d
   split<;>omega
 . have f:=h.low j d
   have q:=h.kZ j d
   rw[hm j d]
   split
   . grind
   . grind
 . grind
structure nW where
 l:List Int
 r:List Int
 p:List Int
 h:List Int
 s:List Nat
 d:List Nat
def nW.init(n m:Nat):nW:=⟨List.replicate m (-1),List.replicate m (-1),List.replicate m (-1),List.replicate m 0,List.replicate n 1++List.replicate (m-n) 0,List.range n⟩
def nW.step(lb:List Nat)(e:Ge)(x:Nat)(t:nW):nW :=
 ⟨fO t.l x (fun _=>((fJ t.d (min (fJ lb e.u) (fJ lb e.v)):Nat):Int)),fO t.r x (fun _=>((fJ t.d (max (fJ lb e.u) (fJ lb e.v)):Nat):Int)),
  fO (fO t.p (fJ t.d (min (fJ lb e.u) (fJ lb e.v))) (fun _=>(x:Int))) (fJ t.d (max (fJ lb e.u) (fJ lb e.v))) (fun _=>(x:Int)),fO t.h x (fun _=>e.w),
  fO t.s x (fun _=>fJ t.s (fJ t.d (min (fJ lb e.u) (fJ lb e.v)))+fJ t.s (fJ t.d (max (fJ lb e.u) (fJ lb e.v)))),fO t.d (min (fJ lb e.u) (fJ lb e.v)) (fun _=>x)⟩
def gM(es:List Ge)(n:Nat)(f:List Nat):Nat->nW
 | 0=>nW.init n (n+f.length)
 | i+1=>nW.step (gU es n (f.take i)) (fJ es (fJ f i)) (n+i) (gM es n f i)
def fV(es:List Ge)(n:Nat)(f:List Nat):nW:=gM es n f f.length
theorem V5{l:List Nat}{a b:Nat}(h:a≠b):l.count a+l.count b<=l.length:=by
 induction l with
 | nil=>simp
 | cons x l c =>
  grind
theorem abO{lb:List Nat}{x y j:Nat}(h:x≠y):(js lb x y).count j=if j=max x y then 0 else if j=min x y then lb.count x+lb.count y else lb.count j:=by
 unfold js
 induction lb with
 | nil=>simp
 | cons z lb a =>
  grind
structure qF (es:List Ge) (n:Nat) (f:List Nat) (i:Nat) (us:List iU):Prop where
 un:Un n (gU es n (f.take i)) us
 dd:∀ j,j<n->(fJ us j).b=fJ (gM es n f i).d j
 nd:∀ j,j<n->fJ (gM es n f i).d j<n+i
 sz:∀ j,j<n->fJ (gU es n (f.take i)) j=j->fJ (gM es n f i).s (fJ (gM es n f i).d j)=(gU es n (f.take i)).count j
theorem zG{es:List Ge}{n:Nat}{f:List Nat}:∀ i,(gM es n f i).l.length=n+f.length/\(gM es n f i).r.length=n+f.length/\(gM es n f i).p.length=n+f.length/\(gM es n f i).h.length=n+f.length/\(gM es n f i).s.length=n+f.length/\(gM es n f i).d.length=n
 | 0=>by simp[gM,nW.init]
 | i+1=>by
  have h:=zG (es:=es) (n:=n) (f:=f) i
  simp only[gM,nW.step,gC]
  exact h
theorem V4{n j:Nat}(h:j<n):(List.range n).count j=1:=by
 grind
theorem Un.init{n:Nat}:Un n (List.range n) ((List.range n).map fun i=>⟨i,i⟩):=by
 have h:∀ i,i<n->fJ ((List.range n).map fun i=>(⟨i,i⟩:iU)) i=⟨i,i⟩:=fun i hi=>ij (by rw[z7,p6 hi];rfl)
 exact⟨s_,s_,fun i hi=>by rw[h i hi];exact zo _,fun i hi=>by rw[h i hi],fun i hi _=>lG hi,fun i hi=>by rw[lG hi];exact zo _,fun i hi=>by rw[lG hi,lG hi]⟩
theorem qF.start{es:List Ge}{n:Nat}{f:List Nat}:qF es n f 0 ((List.range n).map fun i=>⟨i,i⟩):=by
 have h:∀ i,i<n->fJ ((List.range n).map fun i=>(⟨i,i⟩:iU)) i=⟨i,i⟩:=fun i hi=>ij (by rw[z7,p6 hi];rfl)
 refine⟨Un.init,fun j a=>?_,fun j a=>?_,fun j a _=>?_⟩
 . rw[h j a];exact(lG a).symm
 . show fJ (List.range n) j<n+0
   rw[lG a];omega
 . show fJ (List.replicate n 1++List.replicate (n+f.length-n) 0) (fJ (List.range n) j)=(List.range n).count j
   rw[lG a,V4 a]
   exact ij (by rw[zO (by simpa using a),uh,if_pos a])
theorem qF.at{es:List Ge}{n:Nat}{f:List Nat}{i:Nat}{us:List iU}(h:qF es n f i us)(d:qg n es)(hi:i<f.length)(c:∀ k∈f,k<es.length)(b:mc es n (f.take i) (fJ f i)) :
 (fJ es (fJ f i)).u<n/\(fJ es (fJ f i)).v<n/\fJ (gU es n (f.take i)) (fJ es (fJ f i)).u<n/\fJ (gU es n (f.take i)) (fJ es (fJ f i)).v<n/\fJ (gU es n (f.take i)) (fJ es (fJ f i)).u≠fJ (gU es n (f.take i)) (fJ es (fJ f i)).v:=by
 have a:=d.at (c _ (zd (gz hi)))
 have e:=h.un.low _ a.1
 have g:=h.un.low _ a.2.1
 exact⟨a.1,a.2.1,o_,o_,b⟩
theorem qF.next{es:List Ge}{n:Nat}{f:List Nat}{i:Nat}{us us2 p:List iU}(h:qF es n f i us)(G:qg n es)(hi:i<f.length)(F:∀ k∈f,k<es.length)(D:mc es n (f.take i) (fJ f i))
 (C:Un n (gU es n (f.take i)) us2) (hb:∀ j,j<n->(fJ us2 j).b=fJ (gM es n f i).d j)
 (E:p=fO (fO us2 (max (fJ (gU es n (f.take i)) (fJ es (fJ f i)).u) (fJ (gU es n (f.take i)) (fJ es (fJ f i)).v)) fun z=>{ z with a:=min (fJ (gU es n (f.take i)) (fJ es (fJ f i)).u) (fJ (gU es n (f.take i)) (fJ es (fJ f i)).v) }) (min (fJ (gU es n (f.take i)) (fJ es (fJ f i)).u) (fJ (gU es n (f.take i)) (fJ es (fJ f i)).v)) fun z=>{ z with b:=n+i }) :
 qF es n f (i+1) p:=by
 obtain⟨t,w,A,B,m⟩:=h.at G hi F D
 have e1:=h.un.kZ _ t
 have r:=h.un.kZ _ w
 have o:gU es n (f.take (i+1))=js (gU es n (f.take i)) (fJ (gU es n (f.take i)) (fJ es (fJ f i)).u) (fJ (gU es n (f.take i)) (fJ es (fJ f i)).v):=by
  rw[qz,gz hi]
  exact Fi
 generalize O:fJ (gU es n (f.take i)) (fJ es (fJ f i)).u=x at *
 generalize P:fJ (gU es n (f.take i)) (fJ es (fJ f i)).v=y at *
 obtain⟨L,Q⟩:=Un.join (c:=n+i) C A B e1 r m rfl rfl E
 have N:=zG (es:=es) (n:=n) (f:=f) i
 have hd:∀ j,fJ (gM es n f (i+1)).d j=if min x y=j then n+i else fJ (gM es n f i).d j:=by
  grind [gM,nW.step,jh]
 have hs:∀ j,fJ (gM es n f (i+1)).s j=if n+i=j then fJ (gM es n f i).s (fJ (gM es n f i).d (min x y))+fJ (gM es n f i).s (fJ (gM es n f i).d (max x y))else fJ (gM es n f i).s j:=by
  grind [gM,nW.step,jh]
 have I:fJ (gU es n (f.take i)) (min x y)=min x y:=by rcases zR x y with q|q<;>simp only[qC,BH,q]<;>assumption
 have H:fJ (gU es n (f.take i)) (max x y)=max x y:=by rcases zR x y with q|q<;>simp only[BJ,xo,q]<;>assumption
 refine⟨o▸L,fun j g=>?_,fun j g=>?_,fun j g l=>?_⟩
 . grind
 . rw[hd]
   have:=h.nd j g
   split<;>omega
 . rw[o]at l ⊢
   rw[abO m,hd]
   rw[nJ (by rw[h.un.bl];exact g)]at l
   by_cases e:min x y=j
   . rw[if_pos e,if_neg o_,if_pos e.symm,hs,if_pos rfl,h.sz _ o_ I,h.sz _ o_ H]
     grind
   . rw[if_neg e]
     have J:j≠max x y:=by
      grind
     have K:fJ (gU es n (f.take i)) j=j:=by
      split at l
      . rename_i M;omega
      . exact l
     rw[if_neg J,if_neg (fun q=>e q.symm),hs,if_neg (by have:=h.nd j g;omega)]
     exact h.sz j g K
theorem YX{es:List Ge}{n:Nat}(o:List Nat):∀ i,i<(jG es n o).length->mc es n ((jG es n o).take i) (fJ (jG es n o) i):=by
 have h:∀ r:List Nat,∀ i,i<(jG es n r.reverse).length->mc es n ((jG es n r.reverse).take i) (fJ (jG es n r.reverse) i):=by
  intro r
  induction r with
  | nil=>intro i hi;simp[jG]at hi
  | cons k r a =>
   grind [Cw,jG,fJ,ij]
 simpa using h o.reverse
theorem nv.mc{es:List Ge}{n:Nat}{f:List Nat}(h:nv es n f){i:Nat}(hi:i<f.length):mc es n (f.take i) (fJ f i):=by
 obtain⟨o,_,rfl⟩:=h
 exact YX o i hi
theorem qF.two{es:List Ge}{n:Nat}{f:List Nat}{i:Nat}{us:List iU}(h:qF es n f i us)(r:qg n es)(hi:i<f.length)(p:∀ k∈f,k<es.length)(o:mc es n (f.take i) (fJ f i)){x y:Nat}(t:fJ (gU es n (f.take i)) (fJ es (fJ f i)).u=x)(w:fJ (gU es n (f.take i)) (fJ es (fJ f i)).v=y) :
 fJ (gM es n f i).d (min x y)<n+i/\fJ (gM es n f i).d (max x y)<n+i/\fJ (gM es n f i).s (fJ (gM es n f i).d (min x y))+fJ (gM es n f i).s (fJ (gM es n f i).d (max x y))<=n:=by
 obtain⟨j,m,a,b,g⟩:=h.at r hi p o
 have e1:=h.un.kZ _ j
 have e:=h.un.kZ _ m
 rw[t]at a g e1
 rw[w]at b g e
 have c:=V5 (l:=gU es n (f.take i)) g
 rw[Fh]at c
 rcases zR x y with q|q
 . rw[qC q,xo q,h.sz x a e1,h.sz y b e]
   exact⟨h.nd x a,h.nd y b,c⟩
 . rw[BH q,BJ q,h.sz x a e1,h.sz y b e]
   exact⟨h.nd y b,h.nd x a,o_⟩
def nQ{α:Type}(x y:α)(m k:Nat):List α:=List.replicate k x++List.replicate (m-k) y
theorem F5{α:Type}{x y:α}{m:Nat}:List.replicate m y=nQ x y m 0:=by simp[nQ]
theorem KK{α:Type}{x y:α}{m:Nat}:nQ x y m m=List.replicate m x:=by simp[nQ]
theorem SB{α:Type}{x y:α}{m k:Nat}(h:k<=m):(nQ x y m k).length=m:=by simp[nQ];omega
theorem F4{α:Type}[Inhabited α]{x y:α}{m k:Nat}(h:k<m):fO (nQ x y m k) k (fun _=>x)=nQ x y m (k+1):=by
 have:=Bl (a:=List.replicate k x) (b:=List.replicate (m-(k+1)) y) (x:=y) (y:=x) (f:=fun _=>x) rfl
 rw[xq]at this
 rw[nQ,Ba h,this,nQ,List.replicate_succ']
 simp
def sC(n k:Nat):List iU:=((List.range k).map fun i=>⟨i,i⟩)++List.replicate (n-k) ⟨0,0⟩
theorem afV{n:Nat}:List.replicate n (⟨0,0⟩:iU)=sC n 0:=by simp[sC]
theorem afS{n:Nat}:sC n n=(List.range n).map fun i=>⟨i,i⟩:=by simp[sC]
theorem afT{n k:Nat}(h:k<=n):(sC n k).length=n:=by simp[sC];omega
theorem afU{n k:Nat}(h:k<n):fO (sC n k) k (fun _=>⟨k,k⟩)=sC n (k+1):=by
 have:=Bl (a:=(List.range k).map fun i=>(⟨i,i⟩:iU)) (b:=List.replicate (n-(k+1)) ⟨0,0⟩) (x:=⟨0,0⟩) (y:=⟨k,k⟩) (f:=fun _=>⟨k,k⟩) rfl
 rw[zq,p7]at this
 rw[sC,Ba h,this,sC,tw]
 simp
theorem nv.len{es:List Ge}{n:Nat}{f:List Nat}(h:nv es n f):f.length<=es.length:=by
 obtain⟨o,a,rfl⟩:=h
 have:=(Cy (es:=es) (n:=n) o).length_le
 rw[a.len]at this
 exact this
end Go.Sx
namespace Go.Sx
open Go
section
variable (es:List Ge) (n:Nat) (f:List Nat)
def nA(i:Nat):Nat:=min (fJ (gU es n (f.take i)) (fJ es (fJ f i)).u) (fJ (gU es n (f.take i)) (fJ es (fJ f i)).v)
def nB(i:Nat):Nat:=max (fJ (gU es n (f.take i)) (fJ es (fJ f i)).u) (fJ (gU es n (f.take i)) (fJ es (fJ f i)).v)
def nL(i:Nat):Nat:=fJ (gM es n f i).d (nA es n f i)
def nR(i:Nat):Nat:=fJ (gM es n f i).d (nB es n f i)
def gQ(y:Nat):Nat:=if y<n then y else nA es n f (y-n)
end
structure gP (es:List Ge) (n:Nat) (f:List Nat):Prop where
 g:qg n es
 f:nv es n f
theorem gP.Gt{es:List Ge}{n:Nat}{f:List Nat}(h:gP es n f):∀ i,i<=f.length->∃ us,qF es n f i us
 | 0,_=>⟨_,qF.start⟩
 | i+1,hi=>by
  obtain⟨us,a⟩:=h.Gt i o_
  exact⟨_,a.next h.g o_ (fun k b=>h.f.lt b) (h.f.mc o_) a.un a.dd rfl⟩
theorem gP.st{es:List Ge}{n:Nat}{f:List Nat}(h:gP es n f){i:Nat}(hi:i<f.length) :
 nA es n f i<nB es n f i/\nB es n f i<n/\fJ (gU es n (f.take i)) (nA es n f i)=nA es n f i/\fJ (gU es n (f.take i)) (nB es n f i)=nB es n f i/\nL es n f i<n+i/\nR es n f i<n+i/\gU es n (f.take (i+1))=js (gU es n (f.take i)) (nA es n f i) (nB es n f i):=by
 obtain⟨us,a⟩:=h.Gt i o_
 have c:=h.f.mc hi
 obtain⟨b1,b2,b3,j,l⟩:=a.at h.g hi (fun k b=>h.f.lt b) c
 obtain⟨d,e,_⟩:=a.two h.g hi (fun k b=>h.f.lt b) c rfl rfl
 have e1:=a.un.kZ _ b1
 have m:=a.un.kZ _ b2
 have o:gU es n (f.take (i+1))=js (gU es n (f.take i)) (fJ (gU es n (f.take i)) (fJ es (fJ f i)).u) (fJ (gU es n (f.take i)) (fJ es (fJ f i)).v):=by
  rw[qz,gz hi]
  exact Fi
 unfold nL nR nA nB
 refine⟨o_,o_,?_,?_,d,e,?_⟩
 . grind
 . grind
 . grind [fJ,gU,Q5]
structure vM (es:List Ge) (n:Nat) (f:List Nat) (i:Nat):Prop where
 a:∀ x,x<n->fJ (gM es n f i).l x = -1/\fJ (gM es n f i).r x = -1/\fJ (gM es n f i).h x=0/\fJ (gM es n f i).s x=1
 b:∀ j,j<i->fJ (gM es n f i).l (n+j)=(nL es n f j:Int)/\fJ (gM es n f i).r (n+j)=(nR es n f j:Int)/\fJ (gM es n f i).h (n+j)=(fJ es (fJ f j)).w /\
  fJ (gM es n f i).s (n+j)=fJ (gM es n f i).s (nL es n f j)+fJ (gM es n f i).s (nR es n f j)/\fJ (gM es n f i).p (nL es n f j)=((n+j:Nat):Int)/\fJ (gM es n f i).p (nR es n f j)=((n+j:Nat):Int)
 c:∀ y,y<n+f.length->fJ (gM es n f i).p y = -1\/∃ j,j<i/\fJ (gM es n f i).p y=((n+j:Nat):Int)/\(y=nL es n f j\/y=nR es n f j)
 e:∀ y,y<n+f.length->fJ (gM es n f i).s y<=n
 d:∀ l,l<n->fJ (gU es n (f.take i)) l=l->fJ (gM es n f i).p (fJ (gM es n f i).d l) = -1/\gQ es n f (fJ (gM es n f i).d l)=l
theorem vM.start{es:List Ge}{n:Nat}{f:List Nat}:vM es n f 0:=by
 refine⟨fun x d=>?_,fun j c=>by omega,fun y b=>.inl ?_,fun y b=>?_,fun l a _=>?_⟩
 . show fJ (List.replicate (n+f.length) (-1)) x = -1/\fJ (List.replicate (n+f.length) (-1)) x = -1/\fJ (List.replicate (n+f.length) 0) x=0/\fJ (List.replicate n 1++List.replicate (n+f.length-n) 0) x=1
   refine⟨yJ o_,yJ o_,yJ o_,ij ?_⟩
   grind
 . exact yJ b
 . show fJ (List.replicate n 1++List.replicate (n+f.length-n) 0) y<=n
   by_cases h1:y<n
   . rw[ij (x:=1) (by rw[zO (by simpa using h1),uh,if_pos h1])];omega
   . rw[ij (x:=0) (by rw[G5 (by simp;omega),uh,if_pos (by simp;omega)])];omega
 . show fJ (List.replicate (n+f.length) (-1)) (fJ (List.range n) l) = -1/\gQ es n f (fJ (List.range n) l)=l
   rw[lG a]
   exact⟨yJ o_,if_pos a⟩
theorem vM.next{es:List Ge}{n:Nat}{f:List Nat}(h:gP es n f){i:Nat}(hi:i<f.length)(v:vM es n f i):vM es n f (i+1):=by
 obtain⟨s1,s2,s3,K,s5,s6,s7⟩:=h.st hi
 obtain⟨l1,l2,l3,l4,l5,l6⟩:=zG (es:=es) (n:=n) (f:=f) i
 obtain⟨O,F⟩:=v.d _ o_ s3
 obtain⟨P,G⟩:=v.d _ s2 K
 have X:nL es n f i≠nR es n f i:=fun e=>by
  have e1:gQ es n f (nL es n f i)=nA es n f i:=F
  have m:gQ es n f (nR es n f i)=nB es n f i:=G
  rw[e,m]at e1
  omega
 have D:∀ y,fJ (gM es n f (i+1)).l y=if n+i=y then(nL es n f i:Int)else fJ (gM es n f i).l y:=by
  intro y
  have e1:(gM es n f (i+1)).l=fO (gM es n f i).l (n+i) (fun _=>(nL es n f i:Int)):=rfl
  rw[e1,jh o_]
 have E:∀ y,fJ (gM es n f (i+1)).r y=if n+i=y then(nR es n f i:Int)else fJ (gM es n f i).r y:=by
  intro y
  have e1:(gM es n f (i+1)).r=fO (gM es n f i).r (n+i) (fun _=>(nR es n f i:Int)):=rfl
  rw[e1,jh o_]
 have C:∀ y,fJ (gM es n f (i+1)).h y=if n+i=y then(fJ es (fJ f i)).w else fJ (gM es n f i).h y:=by
  intro y
  have e1:(gM es n f (i+1)).h=fO (gM es n f i).h (n+i) (fun _=>(fJ es (fJ f i)).w):=rfl
  rw[e1,jh o_]
 have t:∀ y,fJ (gM es n f (i+1)).s y=if n+i=y then fJ (gM es n f i).s (nL es n f i)+fJ (gM es n f i).s (nR es n f i)else fJ (gM es n f i).s y:=by
  intro y
  have e1:(gM es n f (i+1)).s=fO (gM es n f i).s (n+i) (fun _=>fJ (gM es n f i).s (nL es n f i)+fJ (gM es n f i).s (nR es n f i)):=rfl
  rw[e1,jh o_]
 have td:∀ y,fJ (gM es n f (i+1)).d y=if nA es n f i=y then n+i else fJ (gM es n f i).d y:=by
  intro y
  have e1:(gM es n f (i+1)).d=fO (gM es n f i).d (nA es n f i) (fun _=>n+i):=rfl
  rw[e1,jh o_]
 have A:∀ y,fJ (gM es n f (i+1)).p y=if nR es n f i=y then((n+i:Nat):Int)else if nL es n f i=y then((n+i:Nat):Int)else fJ (gM es n f i).p y:=by
  intro y
  have e1:(gM es n f (i+1)).p=fO (fO (gM es n f i).p (nL es n f i) fun _=>((n+i:Nat):Int)) (nR es n f i) fun _=>((n+i:Nat):Int):=rfl
  rw[e1,jh (by rw[gC];omega),jh o_]
 refine⟨fun x Y=>?_,fun j hj=>?_,fun y q=>?_,fun y q=>?_,fun l J z=>?_⟩
 . rw[D,E,C,t,if_neg o_,if_neg o_,if_neg o_,if_neg o_]
   exact v.a x Y
 . by_cases e:j=i
   . subst e
     refine⟨by rw[D,if_pos rfl],by rw[E,if_pos rfl],by rw[C,if_pos rfl],?_,?_,by rw[A,if_pos rfl]⟩
     . rw[t,t,t,if_pos rfl,if_neg o_,if_neg o_]
     . rw[A,if_neg (fun e=>X e.symm),if_pos rfl]
   . have R : j<i:=by omega
     obtain⟨b1,b2,b3,L,M,N⟩:=v.b j R
     obtain⟨_,_,_,_,Z,q6,_⟩:=h.st (show j<f.length by omega)
     have k1:∀ y,fJ (gM es n f i).p y=((n+j:Nat):Int)->fJ (gM es n f (i+1)).p y=((n+j:Nat):Int):=by
      intro y q
      rw[A,if_neg,if_neg,q]
      . intro m;rw[<-m]at q;have o:fJ (gM es n f i).p (nL es n f i) = -1:=O;rw[o]at q;omega
      . intro m;rw[<-m]at q;have o:fJ (gM es n f i).p (nR es n f i) = -1:=P;rw[o]at q;omega
     rw[D,E,C,t,t,t,if_neg o_,if_neg o_,if_neg o_,if_neg o_,if_neg o_,if_neg o_]
     exact⟨b1,b2,b3,L,k1 _ M,k1 _ N⟩
 . rw[A]
   by_cases e1:nR es n f i=y
   . exact .inr ⟨i,o_,by rw[if_pos e1],.inr e1.symm⟩
   . rw[if_neg e1]
     by_cases m:nL es n f i=y
     . exact .inr ⟨i,o_,by rw[if_pos m],.inl m.symm⟩
     . rw[if_neg m]
       rcases v.c y q with u|⟨j,u,H,I⟩
       . exact .inl u
       . exact .inr ⟨j,o_,H,I⟩
 . rw[t]
   split
   . obtain⟨us,u⟩:=h.Gt i o_
     exact(u.two h.g hi (fun k S=>h.f.lt S) (h.f.mc hi) rfl rfl).2.2
   . exact v.e y q
 . rw[s7,nJ (by rw[Fh];exact J)]at z
   have W:max (nA es n f i) (nB es n f i)=nB es n f i:=by omega
   have V:min (nA es n f i) (nB es n f i)=nA es n f i:=by omega
   rw[W,V]at z
   rw[td]
   by_cases e:nA es n f i=l
   . rw[if_pos e]
     refine⟨?_,?_⟩
     . rw[A,if_neg o_,if_neg o_]
       rcases v.c (n+i) o_ with u|⟨j,u,H,I⟩
       . exact u
       . obtain⟨_,_,_,_,Z,q6,_⟩:=h.st (show j<f.length by omega)
         omega
     . unfold gQ
       rw[if_neg o_,show n+i-n=i by omega]
       exact e
   . rw[if_neg e]
     have T:fJ (gU es n (f.take i)) l=l:=by
      split at z
      . exact absurd z e
      . exact z
     have U:l≠nB es n f i:=by
      intro o
      rw[if_pos (by rw[o];exact K)]at z
      exact e z
     obtain⟨Q,g2⟩:=v.d l J T
     refine⟨?_,g2⟩
     rw[A,if_neg,if_neg,Q]
     . intro o
       rw[<-o]at g2
       have B:gQ es n f (nL es n f i)=nA es n f i:=F
       exact e (B.symm.trans g2)
     . intro o
       rw[<-o]at g2
       have B:gQ es n f (nR es n f i)=nB es n f i:=G
       exact U (g2.symm.trans B)
theorem gP.vK{es:List Ge}{n:Nat}{f:List Nat}(h:gP es n f):∀ i,i<=f.length->vM es n f i
 | 0,_=>vM.start
 | i+1,hi=>(h.vK i o_).next h o_
theorem gP.v{es:List Ge}{n:Nat}{f:List Nat}(h:gP es n f):vM es n f f.length:=h.vK _ (zo _)
theorem gP.wB{es:List Ge}{n:Nat}{f:List Nat}(h:gP es n f){i:Nat}(hi:i<f.length):gQ es n f (nL es n f i)=nA es n f i/\gQ es n f (nR es n f i)=nB es n f i/\gQ es n f (n+i)=nA es n f i:=by
 obtain⟨s1,s2,s3,a,b,c,e⟩:=h.st hi
 have v:=h.vK i o_
 refine⟨(v.d _ o_ s3).2,(v.d _ s2 a).2,?_⟩
 grind [gQ]
theorem nv.j5{es:List Ge}{n:Nat}{f:List Nat}(h:nv es n f){i:Nat}(hi:i+1<f.length):(fJ es (fJ f i)).w<=(fJ es (fJ f (i+1))).w:=by
 obtain⟨o,a,rfl⟩:=h
 have b:=a.Gc.sublist (Cy (es:=es) (n:=n) o)
 have c:=(uq.1 b) i (i+1) o_ hi o_
 rw[ij (zm (show i<(jG es n o).length by omega)),ij (zm hi)]
 unfold qS at c
 omega
theorem aaP{L:List Nat}{p q:Nat->Bool}(x:Nat)(a:x∈L)(hp:p x=true)(c:q x=false)(h:∀ l∈L,q l=true->p l=true):(L.filter q).length<(L.filter p).length:=by
 induction L with
 | nil=>cases a
 | cons y L d =>
  have b:∀ M:List Nat,(∀ l∈M,q l=true->p l=true)->(M.filter q).length<=(M.filter p).length:=by
   intro M
   induction M with
   | nil=>intro _;exact zo _
   | cons z M e =>
    grind
  grind
theorem nv.room{es:List Ge}{n:Nat}{f:List Nat}(h:nv es n f)(b:qg n es):f.length<=n:=by
 have a:gP es n f:=⟨b,h⟩
 -- each step makes one label less
 have key:∀ i,i<=f.length->i+((List.range n).filter fun l=>decide (fJ (gU es n (f.take i)) l=l)).length<=n:=by
  intro i
  induction i with
  | zero=>intro _;have:=GZ (fun l=>decide (fJ (gU es n (f.take 0)) l=l)) (List.range n);rw[p7]at this;omega
  | succ i c =>
   intro hi
   have e:=c o_
   obtain⟨s1,s2,s3,d,p,q,r⟩:=a.st (show i<f.length by omega)
   have o:max (nA es n f i) (nB es n f i)=nB es n f i:=by omega
   have m:min (nA es n f i) (nB es n f i)=nA es n f i:=by omega
   have g:((List.range n).filter fun l=>decide (fJ (gU es n (f.take (i+1))) l=l)).length<((List.range n).filter fun l=>decide (fJ (gU es n (f.take i)) l=l)).length:=by
    refine aaP (nB es n f i) (k9.2 s2) (by simpa using d) ?_ fun l k j=>?_
    . grind [nJ,Fh]
    . grind [nJ,Fh]
   omega
 have:=key f.length (zo _)
 omega
theorem gP.inner{es:List Ge}{n:Nat}{f:List Nat}(h:gP es n f){i:Nat}(hi:i<f.length) :
 (fV es n f).l[n+i]? = some (nL es n f i:Int)/\(fV es n f).r[n+i]? = some (nR es n f i:Int)/\(fV es n f).h[n+i]? = some (fJ es (fJ f i)).w/\(fV es n f).p[nL es n f i]? = some ((n+i:Nat):Int)/\(fV es n f).p[nR es n f i]? = some ((n+i:Nat):Int) /\
 fJ (fV es n f).s (n+i)=fJ (fV es n f).s (nL es n f i)+fJ (fV es n f).s (nR es n f i)/\fJ (fV es n f).s (n+i)<=n/\nL es n f i<n+i/\nR es n f i<n+i/\nL es n f i≠nR es n f i:=by
 obtain⟨o,q,t,u,x,y⟩:=zG (es:=es) (n:=n) (f:=f) f.length
 obtain⟨b1,b2,b3,a,c,d⟩:=h.v.b i hi
 obtain⟨s1,s2,s3,z,j,k,A⟩:=h.st hi
 obtain⟨k1,g,m⟩:=h.wB hi
 refine⟨?_,?_,?_,?_,?_,a,h.v.e _ o_,j,k,fun e=>?_⟩
 . rw[<-b1];exact gz (by show n+i<(gM es n f f.length).l.length;omega)
 . rw[<-b2];exact gz (by show n+i<(gM es n f f.length).r.length;omega)
 . rw[<-b3];exact gz (by show n+i<(gM es n f f.length).h.length;omega)
 . rw[<-c];exact gz (by show nL es n f i<(gM es n f f.length).p.length;omega)
 . rw[<-d];exact gz (by show nR es n f i<(gM es n f f.length).p.length;omega)
 . rw[e,g]at k1;omega
theorem lK{es:List Ge}{n:Nat}{f:List Nat}:(fV es n f).l.length=n+f.length/\(fV es n f).r.length=n+f.length/\(fV es n f).p.length=n+f.length/\(fV es n f).h.length=n+f.length/\(fV es n f).s.length=n+f.length:=by
 obtain⟨a,b,c,d,e,g⟩:=zG (es:=es) (n:=n) (f:=f) f.length
 exact⟨a,b,c,d,e⟩
theorem gP.par{es:List Ge}{n:Nat}{f:List Nat}(h:gP es n f){y:Nat}(b:y<n+f.length):(fV es n f).p[y]? = some (-1)\/∃ j,j<f.length/\(fV es n f).p[y]? = some ((n+j:Nat):Int)/\(y=nL es n f j\/y=nR es n f j):=by
 have g:=(lK (es:=es) (n:=n) (f:=f)).2.2.1
 rcases h.v.c y b with a|⟨j,a,d,e⟩
 . grind [gz,fV]
 . grind [gz,fV]
def Pw(v:Value):List Value:=[v]
def nI(es:List Ge)(n:Nat)(f:List Nat)(m k:Nat):List Nat:=(List.range k).map (gQ es n f)++List.replicate (m-k) 0
theorem aaN{es:List Ge}{n m:Nat}{f:List Nat}:List.replicate m 0=nI es n f m 0:=by simp[nI]
theorem aaK{es:List Ge}{n m:Nat}{f:List Nat}:nI es n f m m=(List.range m).map (gQ es n f):=by simp[nI]
theorem aaL{es:List Ge}{n m k:Nat}{f:List Nat}(h:k<=m):(nI es n f m k).length=m:=by simp[nI];omega
theorem Qs{es:List Ge}{n m k j c:Nat}{f:List Nat}(hk:k<=m)(h:j<k):(fO (nI es n f m k) k fun _=>c)[j]? = some (gQ es n f j):=by
 grind [fO,nI]
theorem Qt{es:List Ge}{n m k c:Nat}{f:List Nat}(h:k<m)(d:c=gQ es n f k):fO (nI es n f m k) k (fun _=>c)=nI es n f m (k+1):=by
 have:=Bl (a:=(List.range k).map (gQ es n f)) (b:=List.replicate (m-(k+1)) 0) (x:=0) (y:=c) (f:=fun _=>c) rfl
 rw[zq,p7]at this
 rw[nI,Ba h,this,nI,tw,d]
 simp
theorem aaM{es:List Ge}{n m k c d:Nat}{f:List Nat}(h:k<m)(a:c=gQ es n f k):fO (fO (nI es n f m k) k (fun _=>d)) k (fun _=>c)=nI es n f m (k+1):=by
 rw[<-Qt h a]
 unfold fO
 rw[List.set_set]
theorem St.x9{bs:List (World×List Nat)}{L:List fS}{w w0:World}{b:Nat}{T:TypeId}{cs:List Value}(h:St bs L w)(hb:(w0,[])∈bs)(a:(blk b T cs).holds w0):(blk b T cs).holds w :=
 (blk b T cs).loc w0 w (fun c d => h.keep hb (by
  have e:c = b:=by simpa[blk]using d
  subst e
  exact(p5.1 a).1) mz) a
structure Mg where
 a:Nat
 b:Nat
 h:Int
 s:Nat
instance:Inhabited Mg:=⟨⟨0,0,0,0⟩⟩
abbrev Mg.cells(x:Mg):List Value:=[.int .i64 (x.a:Int),.int .i64 (x.b:Int),.int .i64 x.h,.int .i64 1,.int .i64 (x.s:Int)]
def Fy(es:List Ge)(n:Nat)(f:List Nat)(i:Nat):Mg:=⟨nA es n f i,nB es n f i,(fJ es (fJ f i)).w,fJ (fV es n f).s (n+i)⟩
def nZ(es:List Ge)(n:Nat)(f:List Nat)(k:Nat):List Mg:=(List.range k).map (Fy es n f)
theorem abz{es:List Ge}{n k:Nat}{f:List Nat}:nZ es n f (k+1)=nZ es n f k++[Fy es n f k]:=by unfold nZ;rw[tw,tq];rfl
theorem Fz{es:List Ge}{n k:Nat}{f:List Nat}:(nZ es n f k).length=k:=by simp[nZ]
theorem Qu{es:List Ge}{n m j:Nat}{f:List Nat}(h:j<m):((List.range m).map (gQ es n f))[j]? = some (gQ es n f j):=by rw[z7,p6 h];rfl
end Go.Sx
namespace Go.Sx
open Go
structure jV (ps:List Int):Prop where
 up:∀ i,i<ps.length->fJ ps i<0\/(i:Int)<fJ ps i/\fJ ps i<(ps.length:Int)
def gj(ps:List Int)(i:Nat):Nat:=if h:(i:Int)<fJ ps i/\i<ps.length then gj ps (fJ ps i).toNat+1 else 0
termination_by ps.length-i
decreasing_by omega
def jJ(ps:List Int)(k i:Nat):List Nat:=(List.range k).filter fun j=>decide (fJ ps j=(i:Int))
def oh(ps:List Int)(k:Nat):List Nat:=(List.range k).filter fun j=>decide (fJ ps j<0)
section
variable {ps:List Int} {k i j:Nat}
theorem adX(h:fJ ps k<0):oh ps (k+1)=oh ps k++[k]:=by simp[oh,tw,BE,h]
theorem adW(h:¬ fJ ps k<0):oh ps (k+1)=oh ps k:=by simp[oh,tw,BE,h]
theorem Qh:jJ ps (k+1) i=if fJ ps k=(i:Int)then jJ ps k i++[k]else jJ ps k i:=by
 unfold jJ
 rw[tw,BE]
 split<;>rename_i h<;>simp[h]
theorem aat(h:fJ ps k<0):jJ ps (k+1) i=jJ ps k i:=by rw[Qh,if_neg o_]
theorem QJ:j∈jJ ps k i↔j<k/\fJ ps j=(i:Int):=by simp[jJ]
theorem Fw:j∈oh ps k↔j<k/\fJ ps j<0:=by simp[oh]
theorem aas:(jJ ps k i).Nodup:=vG.sublist vz
theorem adV:(oh ps k).Nodup:=vG.sublist vz
theorem adU:(oh ps k).length<=k:=lq (GZ _ _) s_
theorem Qg:(jJ ps k i).length<=k:=lq (GZ _ _) s_
theorem EC(h:fJ ps i<0):gj ps i=0:=by rw[gj,dif_neg o_]
theorem Az(hp:jV ps)(a:j<ps.length)(h:fJ ps j=(i:Int)):gj ps j=gj ps i+1:=by
 have b:=hp.up j a
 rw[gj,dif_pos o_,h]
 rfl
theorem IC:gj ps i<=ps.length-i:=by
 induction hm:ps.length-i using Nat.strongRecOn generalizing i with
 | _ m a =>
  rw[gj]
  split
  . rename_i h
    have:=a (ps.length-(fJ ps i).toNat) o_ rfl
    omega
  . omega
end
structure Bf (ps:List Int) (i j:Nat) (od:List Nat) (dp:List Nat):Prop where
 nd:od.Nodup
 lt:∀ x∈od,x<ps.length
 len:dp.length=ps.length
 mem:∀ x,x<ps.length->(x∈od↔fJ ps x<0\/(∃ p∈od.take i,fJ ps x=(p:Int))\/i<od.length/\x∈(jJ ps ps.length (fJ od i)).take j)
 dep:∀ x∈od,fJ dp x=gj ps x
 Jg:i<=od.length
 zero:∀ x,x<ps.length->x∉od->fJ dp x=0
section
variable {ps:List Int} {i j:Nat} {od dp:List Nat}
theorem Bf.Kl(h:Bf ps i j od dp):od.length<=ps.length:=AU _ _ h.nd h.lt
theorem Bf.start:Bf ps 0 0 (oh ps ps.length) (List.replicate ps.length 0) where
 nd:=adV
 lt x hx:=(Fw.1 hx).1
 len:=by simp
 mem x hx:=by simp[Fw,hx]
 dep x hx:=by
  rw[EC (Fw.1 hx).2]
  exact ij (by simp[(Fw.1 hx).1])
 Jg:=by simp
 zero x hx _:=ij (by simp[hx])
theorem Bf.new(h:Bf ps i j od dp)(hi:i<od.length){c:Nat}(e:(jJ ps ps.length (fJ od i))[j]? = some c):c<ps.length/\fJ ps c=((fJ od i:Nat):Int)/\c∉od:=by
 obtain⟨d,g⟩:=QJ.1 (zd e)
 refine⟨d,g,fun hm=>?_⟩
 rcases(h.mem c d).1 hm with b|⟨p,hp,b⟩|⟨_,b⟩
 . omega
 . have l:p=fJ od i:=by omega
   subst l
   have f:=h.nd
   rw[<-vu i od]at f
   have k:fJ od i∈od.drop i:=zd (i:=0) (by rw[He,qD];exact gz hi)
   exact(zu.1 f).2.2 _ hp _ k rfl
 . obtain⟨q,a⟩:=List.mem_iff_getElem?.1 b
   rw[vD]at a
   split at a
   . rename_i n
     obtain⟨m,o⟩:=zk.1 a
     have:=(List.getElem?_inj m aas).1 (a.trans e.symm)
     omega
   . cases a
theorem Bf.wB(hp:jV ps)(h:Bf ps i j od dp)(hi:i<od.length){c:Nat}(l:(jJ ps ps.length (fJ od i))[j]? = some c) :
 Bf ps i (j+1) (od++[c]) (fO dp c (fun _=>fJ dp (fJ od i)+1)):=by
 obtain⟨g,m,k⟩:=h.new hi l
 have o:fJ (od++[c]) i=fJ od i:=ij (by rw[zO hi];exact gz hi)
 refine⟨?_,?_,by rw[gC];exact h.len,?_,?_,by rw[zw];have:=h.Jg;omega,?_⟩
 . refine zu.2 ⟨h.nd,s_,?_⟩
   rintro a n b hb rfl
   simp only[lR]at hb
   exact k (hb▸n)
 . intro x f
   rcases zr.1 f with d|d
   . exact h.lt x d
   . simp only[lR]at d
     exact d▸g
 . intro x f
   rw[o,LP o_,qz,l]
   simp only[zr,lR,Option.toList_some,zw,List.length_singleton]
   rw[h.mem x f]
   constructor
   . rintro((d|d|⟨_,d⟩)|d)
     . exact .inl d
     . exact .inr (.inl d)
     . exact .inr (.inr ⟨o_,.inl d⟩)
     . exact .inr (.inr ⟨o_,.inr d⟩)
   . rintro(d|d|⟨_,d|d⟩)
     . exact .inl (.inl d)
     . exact .inl (.inr (.inl d))
     . exact .inl (.inr (.inr ⟨hi,d⟩))
     . exact .inr d
 . intro x f
   rcases zr.1 f with d|d
   . have q:c≠x:=fun e=>k (e▸d)
     rw[jQ q]
     exact h.dep x d
   . simp only[lR]at d
     subst d
     rw[jU (by rw[h.len];exact g),Az hp g m,h.dep _ (zd (gz hi))]
 . intro x f p
   have d:x∉od/\x≠c:=by simpa using p
   rw[jQ (Ne.symm d.2)]
   exact h.zero x f d.1
theorem Bf.next(h:Bf ps i j od dp)(hi:i<od.length)(d:(jJ ps ps.length (fJ od i)).length<=j):Bf ps (i+1) 0 od dp:=by
 refine⟨h.nd,h.lt,h.len,fun x c=>?_,h.dep,hi,h.zero⟩
 rw[h.mem x c,vt d,qz,gz hi]
 simp only[QJ,List.take_zero,mz,and_false,or_false,zr,Option.toList_some,lR]
 constructor
 . rintro(a|⟨p,a,b⟩|⟨_,_,b⟩)
   . exact .inl a
   . exact .inr ⟨p,.inl a,b⟩
   . exact .inr ⟨_,.inr rfl,b⟩
 . rintro(a|⟨p,a|a,b⟩)
   . exact .inl a
   . exact .inr (.inl ⟨p,a,b⟩)
   . subst a
     exact .inr (.inr ⟨hi,c,b⟩)
theorem Bf.all(hp:jV ps)(h:Bf ps od.length 0 od dp):∀ x,x<ps.length->x∈od:=by
 intro x
 induction hm:ps.length-x using Nat.strongRecOn generalizing x with
 | _ m c =>
  intro b
  rw[h.mem x b]
  rcases hp.up x b with a|⟨a,d⟩
  . exact .inl a
  . refine .inr (.inl ⟨(fJ ps x).toNat,?_,o_⟩)
    rw[qB]
    exact c (ps.length-(fJ ps x).toNat) o_ _ rfl o_
theorem Bf.fin(hp:jV ps)(h:Bf ps od.length 0 od dp):od.length=ps.length/\dp=(List.range ps.length).map (gj ps):=by
 refine⟨Nat.le_antisymm h.Kl ?_,?_⟩
 . have b:=CZ (List.range ps.length) od vG fun x a=>h.all hp x (k9.1 a)
   simpa using b
 . apply nU
   intro x
   by_cases a:x<ps.length
   . rw[gz (by rw[h.len];exact a),h.dep x (h.all hp x a)]
     simp[a]
   . rw[mw (by rw[h.len];omega),mw (by simp;omega)]
end
def oK(f:Nat->Int)(n k:Nat):List Int:=(List.range k).map f++List.replicate (n-k) 0
section
variable {f:Nat->Int} {n k j:Nat}
theorem YL(h:k<=n):(oK f n k).length=n:=by simp[oK];omega
theorem YN:oK f n 0=List.replicate n 0:=by simp[oK]
theorem YK:oK f n n=(List.range n).map f:=by simp[oK]
theorem YM(h:k<n):fO (oK f n k) k (fun _=>f k)=oK f n (k+1):=by
 unfold oK fO
 rw[List.set_append_right _ _ s_,tw,tq,nu]
 simp only[zq,p7,Nat.sub_self,kr,zdt]
 obtain⟨m,hm⟩:∃ m,n-k=m+1:=⟨n-k-1,o_⟩
 rw[hm,List.replicate_succ,List.set_cons_zero,show n-(k+1)=m by omega]
 rfl
theorem abi{α:Type}[Inhabited α]{g:Nat->α}(h:j<n):fJ ((List.range n).map g) j=g j:=ij (by simp[h])
end
def kn(ps:List Int):Nat->Nat->Int
 | 0,v=>fJ ps v
 | k+1,v=>if 0<=kn ps k v then kn ps k (kn ps k v).toNat else kn ps k v
def jt(ps:List Int)(k:Nat):List Int:=(List.range ps.length).map (kn ps k)
section
variable {ps:List Int} {k v:Nat}
theorem Jq(hp:jV ps)(hv:v<ps.length):kn ps k v<0\/(v:Int)<kn ps k v/\kn ps k v<(ps.length:Int):=by
 induction k generalizing v with
 | zero=>exact hp.up v hv
 | succ k a =>
  have b:=a hv
  unfold kn
  split
  . have c:=a (v:=(kn ps k v).toNat) o_
    omega
  . omega
theorem Fg(h:0<=kn ps k v):kn ps (k+1) v=kn ps k (kn ps k v).toNat:=by
 show (if 0<=kn ps k v then _ else _)=_
 rw[if_pos h]
theorem Jr(h:¬ 0<=kn ps k v):kn ps (k+1) v=kn ps k v:=by
 show (if 0<=kn ps k v then _ else _)=_
 rw[if_neg h]
theorem AL:(jt ps k).length=ps.length:=by simp[jt]
theorem uQ(h:v<ps.length):fJ (jt ps k) v=kn ps k v:=abi h
theorem aal:jt ps 0=ps:=by
 apply nU
 intro j
 by_cases hj:j<ps.length
 . rw[gz hj,gz (by rw[AL];exact hj),uQ hj]
   rfl
 . rw[mw (by rw[AL];omega),mw o_]
theorem aan(hp:jV ps)(hv:v<ps.length)(h:0<=fJ (jt ps k) v):fJ (jt ps k) (fJ (jt ps k) v).toNat=kn ps (k+1) v:=by
 rw[uQ hv]at h ⊢
 rw[Fg h,uQ]
 have:=Jq hp hv (k:=k)
 omega
theorem aam(hv:v<ps.length)(h:¬ 0<=fJ (jt ps k) v):fJ (jt ps k) v=kn ps (k+1) v:=by
 rw[uQ hv]at h ⊢
 rw[Jr h]
theorem I2{f:Nat->Int}{n:Nat}{x:Int}(h:v<n)(a:x=f v):fO (oK f n v) v (fun _=>x)=oK f n (v+1):=by
 rw[a];exact YM h
end
section
variable {ps:List Int} {l:List (Value×List Int)} {k q n:Nat} {v:Value}
theorem Yy{α:Type}[Inhabited α]{l:List α}(h:q<k):fJ (l.eraseIdx k) q=fJ l q:=by
 unfold fJ
 rw[List.getElem?_eraseIdx_of_lt h]
theorem aak(a:l.length=n)(hk:k<n)(h:∀ q,q<k->(fJ l q).2=jt ps q):∀ q,q<k+1->(fJ (fO l k (fun _=>(v,jt ps k))) q).2=jt ps q:=by
 intro q b
 rw[jh o_]
 split
 . rename_i e;subst e;rfl
 . exact h q o_
end
def jc(ps hs:List Int)(T:Int)(x:Nat):Nat:=if h:((x:Int)<fJ ps x/\x<ps.length)/\fJ hs (fJ ps x).toNat<=T then jc ps hs T (fJ ps x).toNat else x
termination_by ps.length-x
decreasing_by omega
section
variable {ps hs:List Int} {T:Int} {x:Nat}
theorem xR(hp:jV ps)(a:x<ps.length)(h:0<=fJ ps x)(b:fJ hs (fJ ps x).toNat<=T):jc ps hs T x=jc ps hs T (fJ ps x).toNat:=by
 have:=hp.up x a
 rw[jc,dif_pos ⟨⟨o_,a⟩,b⟩]
theorem Ci(h:¬ (0<=fJ ps x/\fJ hs (fJ ps x).toNat<=T)):jc ps hs T x=x:=by
 rw[jc,dif_neg (fun a=>h ⟨o_,a.2⟩)]
theorem NZ(a:x<ps.length)(hp:jV ps):jc ps hs T x<ps.length:=by
 induction hm:ps.length-x using Nat.strongRecOn generalizing x with
 | _ m b =>
  by_cases h:0<=fJ ps x/\fJ hs (fJ ps x).toNat<=T
  . have c:=hp.up x a
    rw[xR hp a h.1 h.2]
    exact b (ps.length-(fJ ps x).toNat) o_ o_ rfl
  . rw[Ci h]
    exact a
end
theorem P5{l:List (Value×List Int)}(h:l.length=13):l.flatMap kL=[(fJ l 0).1,(fJ l 1).1,(fJ l 2).1,(fJ l 3).1,(fJ l 4).1,(fJ l 5).1,(fJ l 6).1,(fJ l 7).1,(fJ l 8).1,(fJ l 9).1,(fJ l 10).1,(fJ l 11).1,(fJ l 12).1]:=by
 match l,h with
 | [a0,a1,a2,a3,a4,a5,a6,a7,a8,a9,a10,a11,a12],_=>rfl
theorem gP.RC{es:List Ge}{n:Nat}{f:List Nat}(h:gP es n f){y:Nat}(d:y<n+f.length):fJ (fV es n f).p y = -1\/(y:Int)<fJ (fV es n f).p y/\fJ (fV es n f).p y<((n+f.length:Nat):Int):=by
 rcases h.par d with a|⟨j,a,c,b⟩
 . exact .inl (ij a)
 . have e:=ij c
   obtain⟨_,_,_,_,_,_,_,g,i,_⟩:=h.inner a
   refine .inr ?_
   rcases b with b|b<;>omega
theorem gP.mO{es:List Ge}{n:Nat}{f:List Nat}(h:gP es n f):jV (fV es n f).p :=
 ⟨fun i hi=>by
  have c:=(lK (es:=es) (n:=n) (f:=f)).2.2.1
  rcases h.RC (y:=i) o_ with a|⟨a,b⟩
  . exact .inl o_
  . exact .inr ⟨a,o_⟩⟩
theorem gP.Kr{es:List Ge}{n:Nat}{f:List Nat}(h:gP es n f):∀ i,i<(fV es n f).p.length -> -1<=fJ (fV es n f).p i:=fun i hi=>by
 have c:=(lK (es:=es) (n:=n) (f:=f)).2.2.1
 rcases h.RC (y:=i) o_ with a|⟨a,b⟩<;>omega
end Go.Sx
namespace Go.Sx
open Go
def o5(es:List Ge)(n:Nat)(f:List Nat)(T:Int):List Nat:=(List.range n).map fun y=>gQ es n f (jc (fV es n f).p (fV es n f).h T y)
section
variable {es:List Ge} {n:Nat} {f:List Nat} {T:Int} {x:Nat}
theorem aaB:(o5 es n f T).length=n:=by simp[o5]
end
end Go.Sx
namespace Go.Sx
open Go
def kY(E:List Ge)(n:Nat):List Nat:=E.foldl (fun lb e=>js lb (fJ lb e.u) (fJ lb e.v)) (List.range n)
theorem CG{es:List Ge}{n:Nat}{f:List Nat}:gU es n f=kY (f.map (fJ es)) n:=by
 unfold gU kY
 rw[List.foldl_map]
structure nV (n:Nat) (lb:List Nat):Prop where
 len:lb.length=n
 low:∀ i,i<n->fJ lb i<=i
 kZ:∀ i,i<n->fJ lb (fJ lb i)=fJ lb i
theorem nV.range{n:Nat}:nV n (List.range n) :=
 ⟨s_,fun i h=>by rw[lG h];exact zo _,fun i h=>by rw[lG h,lG h]⟩
theorem nV.next{n u v:Nat}{lb:List Nat}(h:nV n lb)(a:u<n)(hv:v<n):nV n (js lb (fJ lb u) (fJ lb v)):=by
 have b:=h.len
 have g:=h.low u a
 have lv:=h.low v hv
 have d:=h.kZ u a
 have iv:=h.kZ v hv
 refine⟨by rw[FE];exact b,fun i hi=>?_,fun i hi=>?_⟩
 . rw[nJ o_]
   have:=h.low i hi
   split<;>omega
 . have f:=h.low i hi
   have c:=h.kZ i hi
   rw[nJ (i:=i) o_]
   split
   . rename_i e
     rw[nJ o_]
     rcases zR (fJ lb u) (fJ lb v)with q|q
     . rw[qC q,xo q,d];split<;>omega
     . rw[BH q,BJ q,iv];split<;>omega
   . rename_i e
     rw[nJ o_,c,if_neg e]
structure nw (E:List Ge) (n:Nat) (lb:List Nat):Prop where
 ok:nV n lb
 yV:∀ e∈E,fJ lb e.u=fJ lb e.v
 qw:∀ lb2,nV n lb2->(∀ e∈E,fJ lb2 e.u=fJ lb2 e.v)->∀ i j,i<n->j<n->fJ lb i=fJ lb j->fJ lb2 i=fJ lb2 j
theorem nw.start{n:Nat}:nw [] n (List.range n) :=
 ⟨nV.range,fun e h=>(mz h).elim,fun b _ _ i j hi a h=>by rw[lG hi,lG a]at h;rw[h]⟩
theorem nw.next{E:List Ge}{n:Nat}{lb:List Nat}(h:nw E n lb)(e:Ge)(f:e.u<n)(hv:e.v<n)(p:∀ e∈E,e.u<n/\e.v<n):nw (E++[e]) n (js lb (fJ lb e.u) (fJ lb e.v)):=by
 have w:=h.ok.len
 refine⟨h.ok.next f hv,fun x b=>?_,fun t s r i j hi c a=>?_⟩
 . rcases zr.1 b with b|b
   . rw[nJ (by have:=(p x b).1;omega),nJ (by have:=(p x b).2;omega),h.yV x b]
   . rw[lR]at b
     subst b
     rw[nJ o_,nJ o_]
     split<;>split<;>omega
 . have k:=h.qw t s fun x b=>r x (xw _ b)
   have d:=r e (xu _ (lR.2 rfl))
   rw[nJ o_,nJ o_]at a
   have g:=fun q:fJ lb i=fJ lb e.u=>k i e.u hi f q
   have m:=fun q:fJ lb i=fJ lb e.v=>k i e.v hi hv q
   have l:=fun q:fJ lb j=fJ lb e.u=>k j e.u c f q
   have o:=fun q:fJ lb j=fJ lb e.v=>k j e.v c hv q
   rcases zR (fJ lb e.u) (fJ lb e.v)with q|q
   . rw[qC q,xo q]at a
     by_cases h1:fJ lb i=fJ lb e.v
     . by_cases h3:fJ lb j=fJ lb e.v
       . rw[m h1,o h3]
       . rw[if_pos h1,if_neg h3]at a
         rw[m h1,l a.symm,d]
     . by_cases h3:fJ lb j=fJ lb e.v
       . rw[if_neg h1,if_pos h3]at a
         rw[g a,o h3,d]
       . rw[if_neg h1,if_neg h3]at a
         exact k i j hi c a
   . rw[BH q,BJ q]at a
     by_cases h1:fJ lb i=fJ lb e.u
     . by_cases h3:fJ lb j=fJ lb e.u
       . rw[g h1,l h3]
       . rw[if_pos h1,if_neg h3]at a
         rw[g h1,o a.symm,d]
     . by_cases h3:fJ lb j=fJ lb e.u
       . rw[if_neg h1,if_pos h3]at a
         rw[m a,l h3,d]
       . rw[if_neg h1,if_neg h3]at a
         exact k i j hi c a
theorem nw.fold{n:Nat}:∀ (L D:List Ge) (lb:List Nat),nw D n lb->(∀ e∈D,e.u<n/\e.v<n)->(∀ e∈L,e.u<n/\e.v<n)->nw (D++L) n (L.foldl (fun lb e=>js lb (fJ lb e.u) (fJ lb e.v)) lb)
 | [],D,lb,h,_,_=>by rw[vH];exact h
 | e :: L,D,lb,h,hD,hL=>by
  have a:=hL e (ze ..)
  have c:=nw.fold L (D++[e]) _ (h.next e a.1 a.2 hD) (fun x b=>by
   rcases zr.1 b with q|q
   . exact hD x q
   . rw[lR]at q;subst q;exact a) (fun x b=>hL x (mT _ b))
  rw[nu]at c
  exact c
theorem uO{E:List Ge}{n:Nat}(h:∀ e∈E,e.u<n/\e.v<n):nw E n (kY E n) :=
 nw.fold E [] _ nw.start (fun e h=>(mz h).elim) h
theorem nw.le{E E2:List Ge}{n:Nat}{a b:List Nat}(h1:nw E n a)(c:nw E2 n b)(hm:∀ e,e∈E->e∈E2){i:Nat}(hi:i<n):fJ b i<=fJ a i:=by
 have h:=h1.ok.low i hi
 have f:=h1.qw b c.ok (fun e d=>c.yV e (hm e d)) (fJ a i) i o_ hi (h1.ok.kZ i hi)
 have g:=c.ok.low (fJ a i) o_
 omega
theorem nw.uniq{E E2:List Ge}{n:Nat}{a b:List Nat}(h1:nw E n a)(c:nw E2 n b)(hm:∀ e,e∈E↔e∈E2):a=b:=by
 refine nU fun i=>?_
 by_cases hi:i<n
 . rw[gz (by rw[h1.ok.len];exact hi),gz (by rw[c.ok.len];exact hi)]
   exact congrArg some (Nat.le_antisymm (c.le h1 (fun e h=>(hm e).2 h) hi) (h1.le c (fun e h=>(hm e).1 h) hi))
 . rw[mw (by rw[h1.ok.len];omega),mw (by rw[c.ok.len];omega)]
theorem aaI{es:List Ge}{n:Nat}(o:List Nat):gU es n (jG es n o)=gU es n o:=by
 have h:∀ r:List Nat,gU es n (jG es n r.reverse)=gU es n r.reverse:=by
  intro r
  induction r with
  | nil=>rfl
  | cons i r a=>rw[List.reverse_cons,Cw,JA,Fi,a]
 simpa using h o.reverse
theorem YW{es:List Ge}{n:Nat}(a b:List Nat):∃ g,jG es n (a++b)=jG es n a++g/\∀ x∈g,x∈b:=by
 have h:∀ r:List Nat,∃ g,jG es n (a++r.reverse)=jG es n a++g/\∀ x∈g,x∈r:=by
  intro r
  induction r with
  | nil=>exact⟨[],s_,fun x c=>c⟩
  | cons i r f =>
   obtain⟨g,d,e⟩:=f
   rw[List.reverse_cons,<-nu,Cw,d]
   split
   . refine⟨g++[i],by rw[nu],fun x c=>?_⟩
     rcases zr.1 c with q|q
     . exact mT _ (e x q)
     . rw[lR]at q;subst q;exact ze ..
   . exact⟨g,rfl,fun x c=>mT _ (e x c)⟩
 obtain⟨g,d,e⟩:=h b.reverse
 rw[List.reverse_reverse]at d
 exact⟨g,d,fun x c=>List.mem_reverse.1 (e x c)⟩
theorem Qk{es:List Ge}{T:Int}:∀ {o:List Nat},o.Pairwise (qS es)->o.filter (fun i=>decide ((fJ es i).w<=T))++o.filter (fun i => !decide ((fJ es i).w<=T))=o
 | [],_=>rfl
 | a :: o,h=>by
  rw[tj]at h
  by_cases ha:(fJ es a).w<=T
  . rw[By (by simpa using ha),Bx (by simpa using ha),oD,Qk h.2]
  . have hb:∀ x∈o,¬ (fJ es x).w<=T:=fun x b=>by have:=h.1 x b;unfold qS at this;omega
    rw[Bx (by simpa using ha),By (by simpa using ha)]
    rw[LU.2 (fun x b=>by simpa using hb x b),tv]
    exact congrArg (a :: ·) (uk.2 fun x b=>by simpa using hb x b)
section
variable {es:List Ge} {n:Nat} {f:List Nat} {T:Int}
theorem gP.cut(h:gP es n f)(T:Int):∃ m,m<=f.length/\(∀ j,j<m->(fJ es (fJ f j)).w<=T)/\(∀ j,m<=j->j<f.length->T<(fJ es (fJ f j)).w)/\gU es n (f.take m)=kY (es.filter fun e=>decide (e.w<=T)) n:=by
 obtain⟨l,⟨o,d,rfl⟩⟩:=h
 have s:=Qk (T:=T) d.Gc
 obtain⟨g,b,r⟩:=YW (es:=es) (n:=n) (o.filter fun i=>decide ((fJ es i).w<=T)) (o.filter fun i => !decide ((fJ es i).w<=T))
 rw[s]at b
 refine⟨(jG es n (o.filter fun i=>decide ((fJ es i).w<=T))).length,by rw[b,zw];omega,fun j c=>?_,fun j c p=>?_,?_⟩
 . rw[b,ij (show (_++g)[j]? = _ by rw[zO c];exact gz c)]
   have k:=(Cy (es:=es) (n:=n) (o.filter fun i=>decide ((fJ es i).w<=T))).subset (zd (gz c))
   simpa using(kD.1 k).2
 . rw[b]at p ⊢
   have q:j-(jG es n (o.filter fun i=>decide ((fJ es i).w<=T))).length<g.length:=by rw[zw]at p;omega
   rw[ij (show (_++g)[j]? = _ by rw[G5 c];exact gz q)]
   have k:=(kD.1 (r _ (zd (gz q)))).2
   have y:¬ (fJ es (fJ g (j-(jG es n (o.filter fun i=>decide ((fJ es i).w<=T))).length))).w<=T:=by simpa using k
   omega
 . rw[b,List.take_left,aaI,CG]
   refine(uO fun e a=>?_).uniq (uO fun e a=>?_) fun e=>?_
   . obtain⟨i,hi,rfl⟩:=zz.1 a
     have:=l _ (zd (gz (d.lt (kD.1 hi).1)))
     exact⟨this.1,this.2.1⟩
   . have:=l _ (kD.1 a).1
     exact⟨this.1,this.2.1⟩
   . constructor
     . intro a
       obtain⟨i,hi,rfl⟩:=zz.1 a
       obtain⟨v,x⟩:=kD.1 hi
       exact kD.2 ⟨zd (gz (d.lt v)),x⟩
     . intro a
       obtain⟨t,u⟩:=kD.1 a
       obtain⟨i,hi⟩:=G0 t
       have e1:=ij hi
       refine zz.2 ⟨i,kD.2 ⟨d.perm.mem_iff.2 (k9.2 (zk.1 hi).1),?_⟩,e1⟩
       rw[e1];exact u
def rq(es:List Ge)(n:Nat)(f:List Nat)(i y:Nat):Nat:=fJ (gM es n f i).d (fJ (gU es n (f.take i)) y)
theorem gP.yC(h:gP es n f){i:Nat}(hi:i<=f.length):nV n (gU es n (f.take i)):=by
 rw[CG]
 refine(uO fun e a=>?_).ok
 obtain⟨k,b,rfl⟩:=zz.1 a
 have:=h.g _ (zd (gz (h.f.lt (List.take_subset _ _ b))))
 exact⟨this.1,this.2.1⟩
theorem gP.afs(h:gP es n f){i y:Nat}(hi:i<f.length)(a:y<n):rq es n f (i+1) y=n+i/\(rq es n f i y=nL es n f i\/rq es n f i y=nR es n f i)\/rq es n f (i+1) y=rq es n f i y:=by
 obtain⟨s1,s2,s3,g,j,k,b⟩:=h.st hi
 have c:=(h.yC (i:=i) o_).len
 have hd:=(zG (es:=es) (n:=n) (f:=f) i).2.2.2.2.2
 have e:=(h.yC (i:=i) o_).low y a
 have e1:(gM es n f (i+1)).d=fO (gM es n f i).d (nA es n f i) (fun _=>n+i):=rfl
 unfold rq
 rw[e1,b,nJ o_,xo o_,qC o_]
 by_cases h1:fJ (gU es n (f.take i)) y=nB es n f i
 . rw[if_pos h1,jh o_,if_pos rfl,h1]
   exact .inl ⟨rfl,.inr rfl⟩
 . rw[if_neg h1,jh o_]
   by_cases h2:nA es n f i=fJ (gU es n (f.take i)) y
   . rw[if_pos h2,<-h2]
     exact .inl ⟨rfl,.inl rfl⟩
   . rw[if_neg h2]
     exact .inr rfl
theorem gP.NX(h:gP es n f){y:Nat}(b:y<n):∀ i,i<=f.length->(∀ j,j<i->(fJ es (fJ f j)).w<=T)->jc (fV es n f).p (fV es n f).h T y=jc (fV es n f).p (fV es n f).h T (rq es n f i y)
 | 0,_,_=>by
  have:rq es n f 0 y=y:=by
   show fJ (List.range n) (fJ (List.range n) y)=y
   rw[lG b,lG b]
  rw[this]
 | i+1,hi,hw=>by
  rw[h.NX b i o_ fun j t=>hw j o_]
  rcases h.afs (show i<f.length by omega) b with ⟨c,a⟩|c
  . obtain⟨b1,b2,b3,k,l,o,q,r,s,m⟩:=h.inner (show i<f.length by omega)
    have u:=(lK (es:=es) (n:=n) (f:=f)).2.2.1
    have d:=ij b3
    rw[c]
    rcases a with a|a
    . have e:=ij k
      rw[a,xR h.mO o_ o_ (by rw[e];show fJ (fV es n f).h ((n+i:Nat):Int).toNat<=T;rw[show ((n+i:Nat):Int).toNat=n+i by omega,d];exact hw i o_),e,show ((n+i:Nat):Int).toNat=n+i by omega]
    . have g:=ij l
      rw[a,xR h.mO o_ o_ (by rw[g];show fJ (fV es n f).h ((n+i:Nat):Int).toNat<=T;rw[show ((n+i:Nat):Int).toNat=n+i by omega,d];exact hw i o_),g,show ((n+i:Nat):Int).toNat=n+i by omega]
  . rw[c]
theorem gP.top(h:gP es n f){y m:Nat}(c:y<n)(hm:m<=f.length)(h1:∀ j,j<m->(fJ es (fJ f j)).w<=T)(o:∀ j,m<=j->j<f.length->T<(fJ es (fJ f j)).w):jc (fV es n f).p (fV es n f).h T y=rq es n f m y:=by
 rw[h.NX c m hm h1]
 have ok:=h.yC hm
 have x:=ok.low y c
 have v:=h.vK m hm
 have t:=v.d (fJ (gU es n (f.take m)) y) o_ (ok.kZ y c)
 refine Ci fun g=>?_
 obtain⟨us,s⟩:=h.Gt m hm
 have r:rq es n f m y<n+f.length:=by have:=s.nd (fJ (gU es n (f.take m)) y) o_;unfold rq;omega
 rcases h.par r with q|⟨j,e,q,a⟩
 . rw[ij q]at g
   omega
 . rw[ij q,show ((n+j:Nat):Int).toNat=n+j by omega,ij (h.inner e).2.2.1]at g
   by_cases hjm:j<m
   . obtain⟨b1,b2,b3,u,k,l⟩:=v.b j hjm
     have i:fJ (gM es n f m).p (rq es n f m y) = -1:=t.1
     rcases a with a|a
     . rw[a,k]at i;omega
     . rw[a,l]at i;omega
   . have:=o j o_ e
     omega
theorem gP.Jz(h:gP es n f){y m:Nat}(a:y<n)(hm:m<=f.length)(h1:∀ j,j<m->(fJ es (fJ f j)).w<=T)(b:∀ j,m<=j->j<f.length->T<(fJ es (fJ f j)).w):gQ es n f (jc (fV es n f).p (fV es n f).h T y)=fJ (gU es n (f.take m)) y:=by
 have ok:=h.yC hm
 have c:=ok.low y a
 rw[h.top a hm h1 b]
 exact((h.vK m hm).d (fJ (gU es n (f.take m)) y) o_ (ok.kZ y a)).2
theorem gP.Ql(h:gP es n f):o5 es n f T=kY (es.filter fun e=>decide (e.w<=T)) n:=by
 obtain⟨m,hm,a,b,c⟩:=h.cut T
 rw[<-c]
 have ok:=h.yC hm
 refine nU fun y=>?_
 by_cases hy:y<n
 . rw[gz (xs:=gU es n (f.take m)) (by rw[ok.len];exact hy),<-h.Jz hy hm a b]
   unfold o5
   rw[z7,p6 hy]
   rfl
 . rw[mw (by rw[aaB];omega),mw (by rw[ok.len];omega)]
theorem Qm{y:Nat}(a:y<n):fJ (o5 es n f T) y=gQ es n f (jc (fV es n f).p (fV es n f).h T y) :=
 ij (by unfold o5;rw[z7,p6 a];rfl)
end
theorem ZA{E:List Ge}{n k:Nat}(h:k<E.length):kY (E.take (k+1)) n=js (kY (E.take k) n) (fJ (kY (E.take k) n) (fJ E k).u) (fJ (kY (E.take k) n) (fJ E k).v):=by
 unfold kY
 rw[qz,gz h,Hh]
 rfl
theorem Ic{ys:List Int}(hs:ys.Pairwise fun a b=>a<b){i j:Nat}(hi:i<ys.length)(c:j<ys.length)(h:fJ ys i=fJ ys j):i=j:=by
 have hp:=uq.1 hs
 rw[ij (zm hi),ij (zm c)]at h
 rcases Hj i j with q|q|q
 . have:=hp i j hi c q;omega
 . exact q
 . have:=hp j i c hi q;omega
end Go.Sx
namespace Go.Sx
open Go
def Ee(es:List Ge)(u v:Nat):Prop:=∃ e∈es,(u=e.u/\v=e.v)\/(u=e.v/\v=e.u)
theorem Ee.symm{es:List Ge}{u v:Nat}:Ee es u v->Ee es v u:=fun⟨e,c,h⟩=>⟨e,c,h.elim (fun⟨a,b⟩=>.inr ⟨b,a⟩) fun⟨a,b⟩=>.inl ⟨b,a⟩⟩
theorem JJ{P:Nat->Prop}:∀ n,P n->∃ m,P m/\∀ k,P k->m<=k:=by
 intro n
 induction n using Nat.strongRecOn with
 | _ n a =>
  grind
noncomputable def yH(A:Nat->Nat->Prop)(i:Nat):Nat:=Classical.choose (JJ (P:=Cn A i) i (.refl i))
theorem CM(A:Nat->Nat->Prop)(i:Nat):Cn A i (yH A i):=(Classical.choose_spec (JJ (P:=Cn A i) i (.refl i))).1
theorem Fm{A:Nat->Nat->Prop}{i k:Nat}(h:Cn A i k):yH A i<=k:=(Classical.choose_spec (JJ (P:=Cn A i) i (.refl i))).2 k h
theorem QG{A:Nat->Nat->Prop}(hs:∀ i j,A i j->A j i){i j:Nat}(h:Cn A i j):yH A i=yH A j :=
 Nat.le_antisymm (Fm (h.trans (CM A j))) (Fm ((h.symm hs).trans (CM A i)))
theorem I8{es:List Ge}{n:Nat}(h:∀ e∈es,e.u<n/\e.v<n){i j:Nat}(hi:i<n)(d:j<n):fJ (kY es n) i=fJ (kY es n) j↔Cn (Ee es) i j:=by
 have F:=uO h
 have sy:∀ i j,Ee es i j->Ee es j i:=fun i j=>Ee.symm
 constructor
 . intro e
   have nd:∀ k,k<n->fJ ((List.range n).map (yH (Ee es))) k=yH (Ee es) k:=fun k c=>ij (by rw[z7,p6 c];rfl)
   have ok:nV n ((List.range n).map (yH (Ee es))):=by
    refine⟨s_,fun k c=>?_,fun k c=>?_⟩
    . rw[nd k c];exact Fm (.refl k)
    . have f:=Fm (A:=Ee es) (.refl k)
      rw[nd k c,nd _ o_]
      exact(QG sy (CM (Ee es) k)).symm
   have:=F.qw _ ok (fun e b=>by
    rw[nd _ (h e b).1,nd _ (h e b).2]
    exact QG sy (.one ⟨e,b,.inl ⟨rfl,rfl⟩⟩)) i j hi d e
   rw[nd i hi,nd j d]at this
   exact(CM (Ee es) i).trans (by rw[this];exact(CM (Ee es) j).symm sy)
 . intro t
   clear hi
   induction t with
   | refl=>rfl
   | step a _ g =>
    obtain⟨e,b,f⟩:=a
    rw[<-g d]
    rcases f with ⟨rfl,rfl⟩|⟨rfl,rfl⟩
    . exact F.yV e b
    . exact(F.yV e b).symm
theorem Cn.map{A B:Nat->Nat->Prop}{φ:Nat->Nat}(h:∀ i j,A i j->B (φ i) (φ j)){i j:Nat}(t:Cn A i j):Cn B (φ i) (φ j):=by
 induction t with
 | refl=>exact .refl _
 | step a _ b=>exact .step (h _ _ a) b
noncomputable def vI(t:TW)(id:Int):Nat:=by
 classical
 exact if h:∃ z,t.At z id then Classical.choose h else 0
theorem DO{t:TW}(a:t.ok){z:Nat}{id:Int}(h:t.At z id):vI t id=z:=by
 unfold vI
 have b:∃ z,t.At z id:=⟨z,h⟩
 grind [TW.At.uniq]
section
variable {fN fL:Nat} {u:fU} {g:GW} {K:List Int} {L:List Lv} {es:List Ge}
theorem nD.conn(h:nD u g)(f:u.ok fN fL)(o:u.pK K)(E:u.mB L)(w:oQ K L es L.length){a b:Nat}{x y:Int}(A:u.t.At a x)(hb:u.t.At b y) :
 Cn (DQ (gF g.m)) a b↔Cn (Ee es) (gK K x) (gK K y):=by
 have C:∀ {id:Int},u.t.mem id->id∈K:=fun hm=>(o.mem _).2 hm
 have pl:∀ {e:Nat} {id:Int},e<K.length->fJ K e=id->u.t.mem id->e=gK K id:=fun r l hm=>by
  have d:=r9 o.j5 (C hm)
  exact Ic o.j5 r d.1 (l.trans d.2.symm)
 have tI:∀ {x:Lv},u.has x->∃ e∈es,e.u=gK K x.u/\e.v=gK K x.v:=fun {x} s=>by
  obtain⟨q,n,e⟩:=vC ((E.mem x).2 s)
  have e1:fJ L q=x:=ij (by rw[zm n,e])
  have hp:=w.fst q n
  rw[e1]at hp
  have hm:=f.yI s
  exact⟨fJ es q,zd (gz (by rw[w.len];exact n)),pl hp.ul hp.u hm.1,pl hp.vl hp.v hm.2⟩
 constructor
 . intro t
   have:=t.map (B:=Ee es) (φ:=fun z=>gK K (fJ u.t.ids z)) fun i j ⟨k,e,r,D⟩=>by
    obtain⟨P,O,_,l,d,_⟩:=h.live r
    obtain⟨e', F, e1,c⟩:=tI O
    rcases D with ⟨rfl,rfl⟩|⟨rfl,rfl⟩
    . exact⟨e', F, .inl ⟨by show gK K (fJ u.t.ids e.a)=_;rw[l.2,e1],by show gK K (fJ u.t.ids e.b)=_;rw[d.2,c]⟩⟩
    . exact⟨e', F, .inr ⟨by show gK K (fJ u.t.ids e.b)=_;rw[d.2,c],by show gK K (fJ u.t.ids e.a)=_;rw[l.2,e1]⟩⟩
   rw[A.2,hb.2]at this
   exact this
 . intro t
   have:=t.map (B:=DQ (gF g.m)) (φ:=fun p=>vI u.t (fJ K p)) fun i j ⟨e,r,D⟩=>by
    obtain⟨q,n,M⟩:=vC r
    have e1:fJ es q=e:=ij (by rw[zm n,M])
    have H:q<L.length:=by rw[<-w.len];exact n
    have hp:=w.fst q H
    rw[e1]at hp
    have s:u.has (fJ L q):=(E.mem _).1 (zd (gz H))
    obtain⟨k,N,_,_,_⟩:=f.xZ s
    obtain⟨c,G,_,l,d⟩:=h.tI f s N
    have I:vI u.t (fJ K e.u)=c.a:=DO f.tok (by rw[hp.u];exact l)
    have J:vI u.t (fJ K e.v)=c.b:=DO f.tok (by rw[hp.v];exact d)
    rcases D with ⟨rfl,rfl⟩|⟨rfl,rfl⟩
    . exact⟨k,c,G,.inl ⟨I,J⟩⟩
    . exact⟨k,c,G,.inr ⟨J,I⟩⟩
   rw[(r9 o.j5 (C ⟨a,A.1,A.2⟩)).2,(r9 o.j5 (C ⟨b,hb.1,hb.2⟩)).2,DO f.tok A,DO f.tok hb]at this
   exact this
end
end Go.Sx
namespace Go.Sx
open Go
theorem fU.ok.copy{fN fL:Nat}{s:fU}(h:s.ok fN fL){d:AW}(e:∃ g,d.A={ s.A with ps:=g })(k:d.A.ok){t2:TW}(q:t2.ok)(o:∀ x,t2.mem x↔s.t.mem x)(p:t2.A.n=s.t.A.n){im2:IM}(hk:(im2.map Prod.fst).Nodup)
 (f:∀ a,(gV im2 a=none↔gV s.im a=none)/\(fT im2 a).2=(fT s.im a).2) (jb tb ab mb:Nat) (lv:Value) :
 fU.ok fN fL ⟨jb,tb,ab,mb,lv,s.last,d,t2,s.live,im2⟩/\∀ x,fU.has ⟨jb,tb,ab,mb,lv,s.last,d,t2,s.live,im2⟩ x↔s.has x:=by
 obtain⟨g,e⟩:=e
 have c:∀ j,d.A.gW j↔s.A.gW j:=fun j=>by rw[e];exact Iff.rfl
 have m:d.A.n=s.A.n:=by rw[e]
 have hb:d.A.begun=s.A.begun:=by rw[e]
 refine⟨⟨m.trans h.n,p.trans h.tn,h.en,h.vn,k,q,h.ll.trans hb.symm,fun i hi=>h.slot i ((c i).1 hi),h.Fl,fun i hi=>h.ne i ((c i).1 hi),fun id=>?_,hk,fun id i=>?_,fun id=>?_,fun id=>?_,
  fun i hi=>h.seq i ((c i).1 hi),fun i j hi l=>h.Ga i j ((c i).1 hi) ((c j).1 l),h.sV⟩,fun x=>?_⟩
 . show t2.mem id↔∃ i,d.A.gW i/\_
   rw[o,h.mem]
   exact⟨fun⟨i,a,b⟩=>⟨i,(c i).2 a,b⟩,fun⟨i,a,b⟩=>⟨i,(c i).1 a,b⟩⟩
 . show i∈(fT im2 id).2↔d.A.gW i/\_
   rw[(f id).2,c]
   exact h.inc id i
 . show ((fT im2 id).2).Nodup
   rw[(f id).2]
   exact h.nd id
 . show gV im2 id=none↔(fT im2 id).2=[]
   rw[(f id).1,(f id).2]
   exact h.empty id
 . exact⟨fun⟨i,a,b⟩=>⟨i,(c i).1 a,b⟩,fun⟨i,a,b⟩=>⟨i,(c i).2 a,b⟩⟩
end Go.Sx
