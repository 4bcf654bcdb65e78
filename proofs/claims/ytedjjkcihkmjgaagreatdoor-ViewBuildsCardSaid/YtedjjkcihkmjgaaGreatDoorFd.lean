/- Plain lemmas. No conditions. -/
import Derived.Test.YtedjjkcihkmjgaaGreatDoorFc
import Derived.ProofKit
import Derived.Deep.Slices
set_option linter.unusedVariables false
set_option linter.unusedSectionVars false
set_option linter.unusedSimpArgs false
namespace Go.Sx
open Go
structure oL where
 f:Nat
 d:Nat
 b:List (Nat×Value):=[]
 X:List fJ:=[]
 Γ:Type:=Nat
 val:Γ->Value
 R:Γ->List fJ
abbrev kY := Σ m:oL,m.Γ
def kY.sl(e:kY):Nat×Value:=(e.1.d,e.1.val e.2)
def kY.R(e:kY):List fJ:=e.1.R e.2
def tJ:List oL->(List (Nat×Value)->List fJ->Prop)->List (Nat×Value)->List fJ->Prop
 | [],K,s,R=>K s R
 | m :: l,K,s,R=>∀ g:m.Γ,tJ l K ((m.d,m.val g) :: s) (m.R g++R)
theorem Qz{K:List (Nat×Value)->List fJ->Prop}:∀ (E:List kY) (s:List (Nat×Value)) (R:List fJ),tJ (E.map (·.1)) K s R->K ((E.map kY.sl).reverse++s) (E.reverse.flatMap kY.R++R)
 | [],s,R,h=>h
 | e :: E,s,R,h=>by
  have:=Qz E _ _ (h e.2)
  simpa[kY.sl,kY.R]using this
theorem abh{α β:Type _}{f:α->β}{l1 j:List β}(h:l1.Perm j):∀ l:List α,l.map f=l1->∃ E:List α,E.Perm l/\E.map f=j:=by
 induction h with
 | nil=>intro l e;exact⟨l,.refl _,e⟩
 | cons x _ n =>
  intro l e
  obtain⟨y,l', rfl,rfl,c⟩:=Nv.1 e
  obtain⟨E,d,g⟩:=n l' c
  exact⟨y :: E,d.cons y,by rw[mh,g]⟩
 | swap x y q =>
  intro l e
  obtain⟨a,l', rfl,rfl,c⟩:=Nv.1 e
  obtain⟨b,i, rfl,rfl,rfl⟩:=Nv.1 c
  exact⟨b :: a :: i, List.Perm.swap a b i, rfl⟩
 | trans _ _ o p =>
  intro l e
  obtain⟨E,d,g⟩:=o l e
  obtain⟨F,k,m⟩:=p E g
  exact⟨F,k.trans d,m⟩
theorem aby{l1 a:List (Nat×Value)}(h:l1.Perm a):(l1.map (·.1)).Nodup->∀ s t,look (l1++s) t=look (a++s) t:=by
 induction h with
 | nil=>intro _ s t;rfl
 | cons p _ c =>
  grind [uV]
 | swap p q l =>
  grind [uV]
 | trans b _ d e =>
  grind
variable{s:List (Nat×Value)}{e:Nat}{u:Value}
theorem BY{l:List (Nat×Value)}{t:Nat}:look (l++s) t=if t∈l.map (·.1)then look l t else look s t:=by
 induction l with
 | nil=>rfl
 | cons p l a =>
  grind [uV]
theorem abx{l:List (Nat×Value)}{p:Nat×Value}(a:(l.map (·.1)).Nodup)(h:p∈l):look l p.1=p.2:=by
 induction l with
 | nil=>cases h
 | cons q l b =>
  grind [uV]
variable{r:Option Nat}{P:Program}{l:List Oper}{ops:Array Oper}{Q:Exit->Act->World->Prop}{n:Nat}{ds:List Deferred}{s0:List (Nat×Value)}{bs:List (World×List Nat)}{L0:List fJ}{w:World}{y:Oper}{a:Act}{K:Act->World->Prop}
def cx (e : Nat) (u : Value) : Oper := ⟨some e, .move (.const u), 0, "", #[], none⟩
theorem P7:Y0 P ops (cx e u) u a:=.inl ⟨rfl,rfl,fun w=>rfl⟩
def tT(ops:Array Oper)(e:Nat)(y:Oper):Bool := !(y.looksAt ops).contains e && !(y.dst==some e)
theorem adS(b:tT ops e y=true)(hs:rW y.op=true)(hd:ru y.op=true)(hc:cat y.op=2\/cat y.op=3)(f:cat y.op=2->NP Q)(h:kQ r P Q y K a w) :
 kQ r P Q y (fun a' w' => ∃ a0,a' = a0.put (some e) u/\K a0 w') (a.put (some e) u) w:=by
 simp only[tT,nZ,CJ,ED,decide_eq_false_iff_not,beq_eq_false_iff_ne]at b
 have c:Ap ops (cx e u) y:=⟨fun d hd=>by cases hd;exact b.1,fun d hd=>by cases hd;exact b.2,fun d _=>by simp[cx,Oper.looksAt,Op.operands],rfl,hs,rfl,hd⟩
 exact c.back f hc P7 (h.mono fun a' w' g=>iG.mk (.inl P7) ⟨a', rfl,g⟩)
def qO(l:List (Nat×Value))(a:Act):Act:=l.foldr (fun p a=>a.put (some p.1) p.2) a
theorem Td{s:List (Nat×Value)}:∀ l,qO l (Fr n s ds)=Fr n (l++s) ds
 | []=>rfl
 | p :: l=>by
  show (qO l (Fr n s ds)).put (some p.1) p.2=_
  rw[Td l,vu]
  rfl
theorem Te(hs:rW y.op=true)(hd:ru y.op=true)(hc:cat y.op=2\/cat y.op=3)(b:cat y.op=2->NP Q):∀ (l:List (Nat×Value)) (K:Act->World->Prop),(∀ p∈l,tT ops p.1 y=true)->kQ r P Q y K a w->kQ r P Q y (fun a' w' => ∃ a0,a' = qO l a0/\K a0 w') (qO l a) w
 | [],K,_,h=>h.mono fun a w h=>⟨a,rfl,h⟩
 | p :: l,K,hl,h=>(adS (hl p za) hs hd hc b (Te hs hd hc b l K (fun q c=>hl q (zx _ c)) h)).mono fun a w ⟨a0,e,a1,e1,h⟩=>⟨a1,by rw[e,e1];rfl,h⟩
theorem Tf{c:List Nat}:∀ (l:List (Nat×Value)),(∀ p∈l,∀ k∈c,∀ o,ops[k]? = some o->tT ops p.1 o=true/\rW o.op=true)->jR P ops c a w->jR P ops c (qO l a) w
 | [],_,h=>h
 | p :: l,hl,h=>by
  refine(jR.put (x:=cx p.1 p.2) (v:=p.2) fun k f o g=>?_).2 (Tf l (fun q i=>hl q (zx _ i)) h)
  have e:=hl p za k f o g
  have b:=e.1
  simp only[tT,nZ,CJ,ED,decide_eq_false_iff_not,beq_eq_false_iff_ne]at b
  exact⟨fun d hd=>by cases hd;exact b.1,fun d hd=>by cases hd;exact b.2,e.2⟩
def Jh(ops:Array Oper)(D c:List Nat)(m:oL)(y:Oper):Bool:=y.dst==some m.d&&rW y.op&&ru y.op && !Nat.ble (cat y.op) 1 &&
 D.all fun e=>e==m.d||m.b.any (fun p=>p.1==e)||tT ops e y&&c.all fun k=>match ops[k]? with|some o=>tT ops e o&&rW o.op|none=>true
structure EP (G:World->Prop) (r:Option Nat) (P:Program) (ops:Array Oper) (Q:Exit->Act->World->Prop) (n:Nat) (ds:List Deferred) (s0:List (Nat×Value)) (bs:List (World×List Nat)) (L0:List fJ) (pre:List (List Nat)) (C:Nat->List Nat) (kz:List oL) (m:oL):Prop where
 o:∃ y,ops[m.f]? = some y/\Jh ops (kz.map (·.d)) (C m.f) m y=true/\gA ops n (m.b++s0) y.guard=true
 run:∀ (Z:List fJ) (w:World),St bs (m.X++(L0++Z)) w->G w->mc r P ops Q (m.f,C m.f) (fun a' w' => ∃ g,a' = Fr n ((m.d,m.val g) :: (m.b++s0)) ds/\St bs (m.R g++(L0++Z)) w' /\ G w') (Fr n (m.b++s0) ds) w
 dep:∀ p∈m.b,∃ m' ∈ kz,m'.d=p.1/\(∀ g,m'.val g=p.2)/\(pre.getD m.f []).contains m'.f=true
theorem abw{l:List (Nat×Value)}{t:Nat}(h:t∈l.map (·.1)):∃ p∈l,p.1=t/\look l t=p.2:=by
 induction l with
 | nil=>cases h
 | cons q l a =>
  grind [uV]
theorem abv{q:Nat->Bool}{l:List (Nat×Value)}{t:Nat}(h:q t=true):look (l.filter (fun p=>q p.1)++s) t=look (l++s) t:=by
 induction l with
 | nil=>rfl
 | cons p l a =>
  grind [uV]
theorem aht{C:Nat->List Nat}{pre:List (List Nat)}{I1:List (Nat×List Nat)}(kz:List oL)(U:(kz.map (·.d)).Nodup)(am:(kz.map (·.f)).Nodup)(hN:NP Q){G:World->Prop}(hO:∀ m∈kz,EP G r P ops Q n ds s0 bs L0 pre C kz m)(ai:tJ kz (fun s R=>∀ w,St bs R w->G w->vk r P ops Q I1 (Fr n s ds) w) s0 L0) :
 ∀ (rem:List oL) (done:List kY) (w:World),(done.map (·.1)++rem).Perm kz->St bs (done.flatMap kY.R++(rem.flatMap (·.X)++L0)) w->G w->WA r P ops Q C pre I1 rem.length (rem.map (·.f)) (Fr n (done.map kY.sl++s0) ds) w:=by
 intro rem
 induction hk:rem.length generalizing rem with
 | zero =>
  intro done w hp V S
  obtain rfl:=wo hk
  rw[sC]at hp
  obtain⟨E,hE,rfl⟩:=abh hp done rfl
  have c:=Qz E s0 L0 ai w (St.perm V (by simpa using((((Ik E).trans hE).symm).flatMap_right kY.R).append_right L0)) S
  unfold WA
  have hs:(done.map kY.sl).Perm (E.map kY.sl).reverse:=(hE.symm.map _).trans (Ik _).symm
  rw[EV ds (aby hs ?_ s0)]
  . exact c
  . have v:((done.map kY.sl).map (·.1))=(done.map (·.1)).map (·.d):=by rw[yF,yF];rfl
    rw[v]
    exact(hp.map (·.d)).nodup_iff.2 U
 | succ k H =>
  intro done w hp V S
  unfold WA
  intro f ⟨hf,hmin⟩
  obtain⟨m,hm,rfl⟩:=zq.1 hf
  obtain⟨j,u,hA⟩:=AU hm
  subst hA
  have ak:m∈kz:=hp.subset (yC _ hm)
  obtain⟨⟨y,hy,hB,ar⟩,aq,af⟩:=hO m ak
  have av:((done.map kY.sl).map (·.1)).Nodup:=by
   have v:((done.map kY.sl).map (·.1))=(done.map (·.1)).map (·.d):=by rw[yF,yF];rfl
   have c:=(hp.map (·.d)).nodup_iff.2 U
   rw[ni]at c
   rw[v]
   exact(zo.1 c).1
  have aw:m.d∉(done.map kY.sl).map (·.1):=fun h=>by
   have c:=(hp.map (·.d)).nodup_iff.2 U
   rw[ni]at c
   obtain⟨q,A,e⟩:=zq.1 h
   obtain⟨e', ag, rfl⟩:=zq.1 A
   exact(zo.1 c).2.2 m.d (zq.2 ⟨e'.1,zq.2 ⟨e', ag, rfl⟩,e⟩) m.d (zq.2 ⟨m,hm,rfl⟩) rfl
  have ad:((j++m :: u).map (·.f)).Nodup:=by
   have c:=(hp.map (·.f)).nodup_iff.2 am
   rw[ni]at c
   exact(zo.1 c).2.1
  have ah:((j++m :: u).map (·.f)).filter (fun g => !(g==m.f))=(j++u).map (·.f):=by
   rw[ni,mh]at ad ⊢
   have c:=zo.1 ad
   have v:=zu.1 c.2.1
   rw[qy,CL]
   simp only[BEq.rfl,Bool.not_true,Ig,if_false,ni]
   rw[vq.2 (fun x B=>by
    have:=c.2.2 x B m.f za
    simpa using this),vq.2 (fun x B=>by
    have:x≠m.f:=fun e=>v.1 (e▸B)
    simpa using this)]
  -- the slots,those that it looks at apart
  obtain⟨lo,K⟩:∃ lo,(done.map kY.sl).filter (fun p => !(m.b.map (·.1)).contains p.1)=lo:=⟨_,rfl⟩
  have ab:Fr n (done.map kY.sl++s0) ds=qO lo (Fr n (m.b++s0) ds):=by
   rw[Td]
   refine EV ds fun t=>?_
   by_cases ht:t∈m.b.map (·.1)
   . obtain⟨p,L,F,ao⟩:=abw ht
     obtain⟨W, aj, e1,M,I⟩:=af p L
     have hd:W ∈ done.map (·.1):=(zj.1 (hp.symm.subset aj)).resolve_right fun h=>by
      rw[hmin W.f (zq.2 ⟨W, h,rfl⟩)]at I
      cases I
     obtain⟨e,D,rfl⟩:=zq.1 hd
     have z:(p.1,p.2)∈done.map kY.sl:=zq.2 ⟨e,D,by rw[<-e1,<-M e.2];rfl⟩
     rw[BY,if_pos (zq.2 ⟨_,z,F⟩),<-F,abx av z]
     rw[BY,if_neg fun h=>?_,BY,if_pos (by rw[F];exact ht),F,ao]
     rw[<-K]at h
     obtain⟨q,A,N⟩:=zq.1 h
     have Z:=(z7.1 A).2
     rw[N,F,CJ,ED]at Z
     exact of_decide_eq_false Z ht
   . rw[<-K,abv (q:=fun i => !(m.b.map (·.1)).contains i) (by simpa using ht),BY,BY (l:=done.map kY.sl)]
     split
     . rfl
     . rw[BY,if_neg ht]
  simp only[Jh,nZ]at hB
  obtain⟨⟨⟨⟨aa,an⟩,al⟩,J⟩,ae⟩:=hB
  have aa:y.dst=some m.d:=by simpa using aa
  have hc:cat y.op=2\/cat y.op=3:=by
   rcases FO y.op with e|e|e|e
   . rw[e]at J;cases J
   . rw[e]at J;cases J
   . exact .inl e
   . exact .inr e
  have T:∀ p∈lo,tT ops p.1 y=true/\∀ k∈C m.f,∀ o,ops[k]? = some o->tT ops p.1 o=true/\rW o.op=true:=fun p L=>by
   rw[<-K]at L
   have c:=z7.1 L
   have hD:p.1∈kz.map (·.d):=by
    obtain⟨e,D,rfl⟩:=zq.1 c.1
    exact zq.2 ⟨e.1,hp.subset (sj _ (zq.2 ⟨e,D,rfl⟩)),rfl⟩
   have v:=zr.1 ae p.1 hD
   rcases CF.1 v with O|O
   . grind
   . grind
  have ap:(done.flatMap kY.R++((j++m :: u).flatMap (·.X)++L0)).Perm (m.X++(L0++(done.flatMap kY.R++(j++u).flatMap (·.X)))):=by
   simp only[List.flatMap_append,zz,z6]
   refine List.Perm.trans ?_ ((List.Perm.refl m.X).append (qx (l₁:=done.flatMap kY.R++(j.flatMap (·.X)++u.flatMap (·.X))) (l₂:=L0)))
   simp only[z6]
   refine List.Perm.trans ?_ (List.perm_append_comm_assoc _ _ _)
   exact(List.Perm.refl _).append (List.perm_append_comm_assoc _ _ _)
  have c:=aq _ w (St.perm V ap) S
  have ac:wn ops y (Fr n (m.b++s0) ds)=true:=by unfold wn;rw[Cr,ar]
  unfold mc at c
  simp only[hy]at c
  unfold iG at c
  rw[if_pos ac]at c
  have v:=Te an al hc (fun _=>hN) lo _ (fun p hp=>(T p hp).1) c
  rw[ah,ab]
  unfold mc
  simp only[hy]
  unfold iG
  have au:wn ops y (qO lo (Fr n (m.b++s0) ds))=true:=by
   have:∀ (l:List (Nat×Value)) (a:Act),(∀ p∈l,tT ops p.1 y=true)->wn ops y (qO l a)=wn ops y a:=fun l a=>by
    induction l with
    | nil=>intro _;rfl
    | cons p l H =>
     intro z
     have B:=z p za
     simp only[tT,nZ,CJ,ED,decide_eq_false_iff_not,beq_eq_false_iff_ne]at B
     rw[<-H fun q A=>z q (zx _ A)]
     show wn ops y ((qO l a).put (some p.1) p.2)=_
     unfold wn
     rw[wanted_put y _ (some p.1) p.2 fun d hd=>by cases hd;exact B.1]
   rw[this lo _ fun p hp=>(T p hp).1,ac]
  rw[if_pos au]
  refine v.mono fun a' w' ⟨a0,Y,O,g,e1,h4,h5⟩=>?_
  subst e1
  refine⟨by rw[Y];exact Tf lo (fun p hp=>(T p hp).2) O,?_⟩
  have M:a' = Fr n (((⟨m,g⟩:kY) :: done).map kY.sl++s0) ds:=by
   have I:Fr n ((m.d,m.val g) :: (m.b++s0)) ds=(Fr n (m.b++s0) ds).put (some m.d) (m.val g):=(vu n _ ds _ _).symm
   have e4:Fr n (((⟨m,g⟩:kY) :: done).map kY.sl++s0) ds=(qO lo (Fr n (m.b++s0) ds)).put (some m.d) (m.val g):=by rw[<-ab,vu];rfl
   have:∀ (l:List (Nat×Value)) (a:Act),m.d∉l.map (·.1)->qO l (a.put (some m.d) (m.val g))=(qO l a).put (some m.d) (m.val g):=fun l a=>by
    induction l with
    | nil=>intro _;rfl
    | cons p l H =>
     intro z
     simp only[mh,ze,not_or]at z
     show (qO l (a.put (some m.d) (m.val g))).put (some p.1) p.2=((qO l a).put (some p.1) p.2).put (some m.d) (m.val g)
     rw[H z.2]
     exact Act.put_comm (qO l a) (m.val g) p.2 fun d hd D=>z.1 (Option.some.inj (hd.trans D.symm))
   rw[Y,I,this lo _ fun h=>?_,e4]
   rw[<-K]at h
   obtain⟨q,A,N⟩:=zq.1 h
   exact aw (zq.2 ⟨q,(z7.1 A).1,N⟩)
  rw[M]
  refine H (j++u) (by simp at hk ⊢;omega) (⟨m,g⟩ :: done) w' ?_ ?_ h5
  . refine List.Perm.trans ?_ hp
    show (m :: (done.map (·.1)++(j++u))).Perm _
    rw[<-z6,<-z6]
    exact sA.symm
  . refine St.perm h4 ?_
    rw[zz,z6]
    refine(List.Perm.refl _).append ?_
    have:=qx (l₁:=L0) (l₂:=done.flatMap kY.R++(j++u).flatMap (·.X))
    rwa [z6]at this
def Ee:List oL->List fJ->List fJ
 | [],L=>L
 | m :: l,L=>m.X++Ee l L
theorem UL{L:List fJ}:∀ l:List oL,Ee l L=l.flatMap (·.X)++L
 | []=>rfl
 | m :: l=>by rw[Ee,UL l,zz,z6]
def CV(p:oL->Prop):List oL->Prop
 | []=>True
 | [m]=>p m
 | m :: x :: l=>p m/\CV p (x :: l)
theorem CV.at{p:oL->Prop}:∀ {l:List oL},CV p l->∀ m∈l,p m
 | [],_,m,hm=>absurd hm pn
 | [x],h,m,hm=>by rw[z8.1 hm];exact h
 | x :: y :: l,h,m,hm=>(ze.1 hm).elim (fun e=>by rw[e];exact h.1) (h.2.at m)
theorem tJ.mono{K K' : List (Nat×Value)->List fJ->Prop}(h:∀ s R,K s R->K' s R):∀ (l:List oL) (s:List (Nat×Value)) (R:List fJ),tJ l K s R->tJ l K' s R
 | [],s,R,hk=>h s R hk
 | m :: l,s,R,hk=>fun g=>tJ.mono h l _ _ (hk g)
def zT:List Nat->Bool
 | []=>true
 | a :: l => !l.contains a&&zT l
theorem Lj:∀ {l:List Nat},zT l=true->l.Nodup
 | [],_=>yE
 | a :: l,h=>by
  simp only[zT,nZ,CJ,ED,decide_eq_false_iff_not]at h
  exact zu.2 ⟨h.1,Lj h.2⟩
variable{C:Nat->List Nat}{pre:List (List Nat)}{kz:List oL}{m:oL}{l1 l':List Oper}{G:World->Prop}{last A D:List Nat}
theorem mT(h:∀ (Z:List fJ) (w:World),St bs (m.X++(L0++Z)) w->G w->WL r P l.toArray (Exit.then (fun a w' => jR P l.toArray (C m.f) a w' /\ ∃ g,a=Fr n ((m.d,m.val g) :: (m.b++s0)) ds/\St bs (m.R g++(L0++Z)) w' /\ G w') Q) (pick l [m.f]) (Fr n (m.b++s0) ds) w)
 (i:∃ y,l.toArray[m.f]? = some y/\Jh l.toArray (kz.map (·.d)) (C m.f) m y=true/\gA l.toArray n (m.b++s0) y.guard=true:=by exact⟨_,rfl,by kernel_rfl,rfl⟩) (hd:∀ p∈m.b,∃ c ∈ kz,c.d=p.1/\(∀ g,c.val g=p.2)/\(pre.getD m.f []).contains c.f=true:=by intro p hp;cases hp) :
 EP G r P l.toArray Q n ds s0 bs L0 pre C kz m:=⟨i,fun Z w hs e=>stI (h Z w hs e) rfl,hd⟩
theorem waG(kz:List oL)(b:St bs (Ee kz L0) w)(e:G w)(i:CV (EP G r P l.toArray Q n ds s0 bs L0 (oZ l []) C kz) kz)(K:tJ kz (fun s R=>∀ w,St bs R w->G w->WL r P l.toArray Q l' (Fr n s ds) w) s0 L0)
 (g:NP Q:=by infer_instance) (k:pick l last=l' := by rfl) (c:kz.map (·.f)=A:=by rfl) (a:(zT (kz.map (·.d))&&zT A)=true:=by exact rfl):WA r P l.toArray Q C (oZ l []) (nC [] last) A.length A (Fr n s0 ds) w:=by
 subst c
 rw[nZ]at a
 have:=aht (I1:=nC [] last) kz (Lj a.1) (Lj a.2) g i.at (tJ.mono (fun s R h w hs j=>by
  have:=U2 (C:=C) (pre:=oZ l []) (A:=[]) (h w hs j) k
  exact this) kz s0 L0 K) kz [] w (List.Perm.refl _) (by rw[UL]at b;exact b) e
 simpa using this
theorem aem{id:Nat}{bs:List (World×List Nat)}{L:List fJ}(hm:P.follows .mixedOrders=true)(b A:List Nat)(C:List (Nat×List Nat))(last:List Nat)(e:St bs L w)(K:St bs L w.drew->WL r P l.toArray (Exit.then (fun a w=>jR P l.toArray [] a w/\WA r P l.toArray Q (zO C) (oZ l []) (nC [] last) A.length A a w) Q) (pick l b) (Fr n s ds) w.drew)
 (c:∃ np,(np=false\/NP Q)/\DR np l (nC [] b) A (zO C) (nC [] last)=true:=by first|exact⟨true,.inr inferInstance,by kernel_rfl⟩|exact⟨false,.inl rfl,by kernel_rfl⟩):WP r P (.region id l.toArray true) Q (Fr n s ds) w :=
 c.elim fun _ ⟨d,c⟩=>LQ (nC [] b) A (zO C) (nC [] last) hm c d (Hg b _ _ (K (e.grow (gE.drew [] w))).out)
theorem xW(kz:List oL)(i:St bs (Ee kz L0) w)(c:CV (EP (fun _=>True) r P l.toArray Q n ds s0 bs L0 (oZ l []) C kz) kz)(K:tJ kz (fun s R=>∀ w,St bs R w->WL r P l.toArray Q l' (Fr n s ds) w) s0 L0)
 (b:NP Q:=by infer_instance) (e:pick l last=l' := by rfl) (a:kz.map (·.f)=A:=by rfl) (g:(zT (kz.map (·.d))&&zT A)=true:=by exact rfl):WA r P l.toArray Q C (oZ l []) (nC [] last) A.length A (Fr n s0 ds) w :=
 waG kz i trivial c (tJ.mono (fun s R h w hs _=>h w hs) kz s0 L0 K) b e a g
theorem RA{x:Operand}{t e ty:TypeId}{v:Value}{xs:List Value}{L:List fJ}{dd:Option Nat}{sz m:Nat}{pos:String}{af:Array Edge}{g:Option (Nat×Bool)}(i:Nat)(a:ev n s x=v)(ht:P.underlying t=some (.slice e))(d:St bs L w)(b:L[i]? = some (row v e sz m xs)) :
 (execOp (ev n s) ⟨dd,.call ⟨.builtin .len,#[x],#[t]⟩,ty,pos,af,g⟩).run P w = .ok (.value (.int .i64 m)) w:=by
 have c:w.ownsRow 0 e sz v m xs:=d.own _ (zg b)
 rcases c.2 with ⟨rfl,rfl⟩|⟨h, f,cur,rfl,_⟩
 . exact Gy a ht
 . exact Gy a ht
theorem aeK{α:Type}[Inhabited α]{cf:α->List Value}{w:World}{e:TypeId}{xs:List α}{sz:Nat}{v:Value}(a:(cL cf v e sz xs).holds w)(c:∀ x:α,(cf x).length=sz):gV sz cf (fun _=>True) w v xs:=by
 have a:w.ownsRow 0 e sz v xs.length (xs.flatMap cf):=a
 rcases a.2 with ⟨rfl,l⟩|⟨b, d,cur,rfl,_,m,f,h,_⟩
 . grind [Sl.nil]
 . refine⟨_,d,rfl,f,h,fun j y i=>⟨b, 0,cf y,rfl,trivial,c y,rfl,fun q u k=>?_⟩⟩
   have:=a.cells (g:=b) rfl (j*sz+q) u (vL c xs j q y u i k)
   rw[Addr.add_lit]at this
   simpa[lW]using this
section
variable{H:Type}{enc:TypeId×Value->H}{sp:Nat->Bool}{hd:Bool}{t e:TypeId}{fuel:Nat}{v:Value}{cs:List Value}{x:DataW H×List MemPlace}{k:IntKind}
theorem afD{a:Addr}(h:w.cell? a=some u):a.spot=none:=by
 unfold World.cell? at h
 split at h
 . split at h
   . cases h
   . rename_i hs
     cases hq:a.spot with
     | none=>rfl
     | some q=>rw[hq]at hs;simp at hs
 . cases h
theorem Sl.Ss{α:Type}[Inhabited α]{sz:Nat}{E:World->α->List Value->Prop}(ht:P.underlying t=some (.slice e))(hc:P.cellsOf e=sz)(hp:0<sz)
 (C:∀ n cs y,DataW.trod enc P w 0 sp hd n e cs=some y->∃ x:α,E w x cs) (h:DataW.trod enc P w 0 sp hd fuel t cs=some x):∃ v xs,cs=[v]/\Sl sz E (fun _=>True) w v xs:=by
 rcases Go.Deep.open_slice ht h with ⟨B,_⟩|⟨a,len,A,m,n,D,Pl,rfl,_,H,hm,J,_,z⟩
 . exact⟨_,[],B,Sl.nil _ _ _ _⟩
 . rw[hc]at z
   have M:len<=m:=by rw[J];split<;>omega
   obtain⟨X,k⟩:=Go.Deep.choose_lt (α:=α) (n:=len) (p:=fun i x=>∃ cs', w.cells? 0 (a.add (i*sz)) sz=some cs' /\ E w x cs') (fun i hi=>by
    obtain⟨cs', c,d⟩:=z i o_
    obtain⟨y,f⟩:=C _ _ _ d
    exact⟨y,cs', c,f⟩)
   refine⟨_,(List.range len).map X,rfl,some a,A,s_,by simp;exact H,hm,fun i y hi=>?_⟩
   have q:i<len:=by have:=(zp.1 hi).1;simpa using this
   have f:y=X i:=by
    rw[lU,pg q]at hi
    simpa using hi.symm
   subst f
   obtain⟨cs', c,d⟩:=k i q
   obtain⟨_,I,F⟩:=World.cells?_some c
   have r:a.spot=none:=by
    obtain⟨cs0,K,_⟩:=k 0 o_
    obtain⟨_,N,L⟩:=World.cells?_some K
    have g:=L 0 hp
    have:cs0[0]? = some cs0[0]:=zy o_
    rw[this]at g
    have:=afD g
    simpa[Addr.add]using this
   obtain⟨b,o,s⟩:=a
   simp only at r
   subst r
   refine⟨b,o,cs', rfl,trivial,I,d,fun j u l=>?_⟩
   have G : j<sz:=by have:=(zp.1 l).1;omega
   have:=F j G
   rw[l]at this
   rw[Addr.add_lit,Addr.add_lit]at this
   exact this
theorem ij.acW{n:Int}(h:(Lit.int k n).wf=true):ij k n:=by
 simp only[Lit.wf,nZ,decide_eq_true_eq]at h
 exact h
theorem xg(c:P.underlying e=some (.int k))(h:DataW.trod enc P w 0 sp hd fuel e cs=some x):∃ n,cs=[.int k n]/\ij k n:=by
 obtain⟨m,a,_,b⟩:=DataW.trod_int c h
 exact⟨m,a,ij.acW b⟩
theorem Qw{a:Array Field}(ht:P.underlying t=some (.struct a))(h:DataW.trod enc P w 0 sp hd fuel t cs=some x):cs.length=P.cellsOf t/\∀ f∈a.toList,∃ n y,DataW.trod enc P w 0 sp hd n f.type ((cs.drop f.offset).take (P.cellsOf f.type))=some y:=by
 cases fuel with
 | zero=>simp[DataW.trod]at h
 | succ n =>
  unfold DataW.trod at h
  rw[ht]at h
  simp only at h
  split at h
  . rename_i c
    refine⟨c,fun f b=>?_⟩
    obtain⟨i,hi⟩:=List.getElem?_of_mem b
    cases hm:(a.toList.mapM fun f=>DataW.trod enc P w 0 sp hd n f.type ((cs.drop f.offset).take (P.cellsOf f.type)))with
    | none=>rw[hm]at h;simp at h
    | some ys =>
     have:=mapM_some_get hm i f hi
     have d:=mapM_some_length hm
     have e:i<ys.length:=by rw[d];exact(zp.1 hi).1
     rw[zy e]at this
     exact⟨n,_,this⟩
  . simp at h
end
end Go.Sx
