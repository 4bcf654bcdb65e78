/- Plain lemmas: rules for walking through code, one for each operation, over any program; an evaluator of closed calls with its soundness; and plain mathematics. No conditions. -/
import Derived.Test.YtedjjkcihkmjgaaGreatDoorFc
import Derived.Lib.TrailingZeros
import Derived.Test.YtedjjkcihkmjgaaGreatDoorFa
import Derived.Sort.Grow
import Derived.Deep.Draws
import Derived.Test.YtedjjkcihkmjgaaGreatDoorFb
import Derived.Shelf.GgSortFunc.InsertionK
import Derived.Shelf.SlSortCmp.Whole1
import Derived.ProofKit
import Derived.Deep.Slices
set_option linter.unusedVariables false
set_option linter.unusedSectionVars false
set_option linter.unusedSimpArgs false
namespace Go.Sx
open Go
def Ee(es:List Ge)(u v:Nat):Prop:=∃ e∈es,(u=e.u/\v=e.v)\/(u=e.v/\v=e.u)
variable{n i x k:Nat}{lb:List Nat}{W:List Int}{s:List (Nat×Value)}{cs:List Value}{L:List (Int×Nat)}{bs:List (World×List Nat)}{A:Nat->Nat->Prop}{u:Value}{es:List Ge}{L0:List fT}{Q:Exit->Act->World->Prop}{y V:Int}{w:World}{p:Prop}
theorem Ee.symm{u v:Nat}:Ee es u v->Ee es v u:=fun⟨e,c,h⟩=>⟨e,c,h.elim (fun⟨a,b⟩=>.inr ⟨b,a⟩) fun⟨a,b⟩=>.inl ⟨b,a⟩⟩
theorem JP{P:Nat->Prop}:∀ n,P n->∃ m,P m/\∀ k,P k->m<=k:=by
 intro n
 induction n using Nat.strongRecOn with
 | _ n a =>
  grind
noncomputable def yI(A:Nat->Nat->Prop)(i:Nat):Nat:=Classical.choose (JP (P:=Cn A i) i (.refl i))
theorem CP(A:Nat->Nat->Prop)(i:Nat):Cn A i (yI A i):=(Classical.choose_spec (JP (P:=Cn A i) i (.refl i))).1
theorem FF(h:Cn A i k):yI A i<=k:=(Classical.choose_spec (JP (P:=Cn A i) i (.refl i))).2 k h
theorem PX(hs:∀ i j,A i j->A j i){j:Nat}(h:Cn A i j):yI A i=yI A j :=
 Nat.le_antisymm (FF (h.trans (CP A j))) (FF ((h.symm hs).trans (CP A i)))
theorem Jk(h:∀ e∈es,e.u<n/\e.v<n){j:Nat}(hi:i<n)(d:j<n):fJ (kH es n) i=fJ (kH es n) j↔Cn (Ee es) i j:=by
 have F:=wh h
 have sy:∀ i j,Ee es i j->Ee es j i:=fun i j=>Ee.symm
 constructor
 . intro e
   have nd:∀ k,k<n->fJ ((List.range n).map (yI (Ee es))) k=yI (Ee es) k:=fun k c=>iS (by rw[oK,rF c];rfl)
   have ok:mS n ((List.range n).map (yI (Ee es))):=by
    refine⟨s_,fun k c=>?_,fun k c=>?_⟩
    . rw[nd k c];exact FF (.refl k)
    . have f:=FF (A:=Ee es) (.refl k)
      rw[nd k c,nd _ o_]
      exact(PX sy (CP (Ee es) k)).symm
   have:=F.sG _ ok (fun e b=>by
    rw[nd _ (h e b).1,nd _ (h e b).2]
    exact PX sy (.one ⟨e,b,.inl ⟨rfl,rfl⟩⟩)) i j hi d e
   rw[nd i hi,nd j d]at this
   exact(CP (Ee es) i).trans (by rw[this];exact(CP (Ee es) j).symm sy)
 . intro t
   clear hi
   induction t with
   | refl=>rfl
   | step a _ g =>
    obtain⟨e,b,f⟩:=a
    rw[<-g d]
    rcases f with ⟨rfl,rfl⟩|⟨rfl,rfl⟩
    . exact F.Gi e b
    . exact(F.Gi e b).symm
theorem Cn.map{B:Nat->Nat->Prop}{φ:Nat->Nat}(h:∀ i j,A i j->B (φ i) (φ j)){j:Nat}(t:Cn A i j):Cn B (φ i) (φ j):=by
 induction t with
 | refl=>exact .refl _
 | step a _ b=>exact .step (h _ _ a) b
noncomputable def vN(t:TW)(id:Int):Nat:=by
 classical
 exact if h:∃ z,t.At z id then Classical.choose h else 0
theorem D7{t:TW}(ht:t.ok){id:Int}(h:t.At n id):vN t id=n:=by
 unfold vN
 have a:∃ n,t.At n id:=⟨n,h⟩
 grind [TW.At.uniq]
section
variable {fN fM:Nat} {u:fW} {g:GW} {K:List Int} {L:List Lv} {es:List Ge}
theorem nM.conn(h:nM u g)(f:u.ok fN fM)(o:u.k9 K)(E:u.kn L)(w:kA K L es L.length){a b:Nat}{x:Int}(A:u.t.At a x)(hb:u.t.At b y) :
 Cn (Ec (gE g.m)) a b↔Cn (Ee es) (gP K x) (gP K y):=by
 have C:∀ {id:Int},u.t.mem id->id∈K:=fun hm=>(o.mem _).2 hm
 have pl:∀ {e:Nat} {id:Int},e<K.length->fJ K e=id->u.t.mem id->e=gP K id:=fun r l hm=>by
  have d:=sB o.kF (C hm)
  exact EU o.kF r d.1 (l.trans d.2.symm)
 have ua:∀ {x:Lv},u.has x->∃ e∈es,e.u=gP K x.u/\e.v=gP K x.v:=fun {x} s=>by
  obtain⟨q,n,e⟩:=vH ((E.mem x).2 s)
  have e1:fJ L q=x:=iS (by rw[z8 n,e])
  have hp:=w.fst q n
  rw[e1]at hp
  have hm:=f.yK s
  exact⟨fJ es q,ze (gz (by rw[w.len];exact n)),pl hp.ul hp.u hm.1,pl hp.vl hp.v hm.2⟩
 constructor
 . intro t
   have:=t.map (B:=Ee es) (φ:=fun z=>gP K (fJ u.t.ids z)) fun i j ⟨k,e,r,D⟩=>by
    obtain⟨P,O,_,l,d,_⟩:=h.live r
    obtain⟨e', F, e1,c⟩:=ua O
    rcases D with ⟨rfl,rfl⟩|⟨rfl,rfl⟩
    . exact⟨e', F, .inl ⟨by show gP K (fJ u.t.ids e.a)=_;rw[l.2,e1],by show gP K (fJ u.t.ids e.b)=_;rw[d.2,c]⟩⟩
    . exact⟨e', F, .inr ⟨by show gP K (fJ u.t.ids e.b)=_;rw[d.2,c],by show gP K (fJ u.t.ids e.a)=_;rw[l.2,e1]⟩⟩
   rw[A.2,hb.2]at this
   exact this
 . intro t
   have:=t.map (B:=Ec (gE g.m)) (φ:=fun p=>vN u.t (fJ K p)) fun i j ⟨e,r,D⟩=>by
    obtain⟨q,n,M⟩:=vH r
    have e1:fJ es q=e:=iS (by rw[z8 n,M])
    have H:q<L.length:=by rw[<-w.len];exact n
    have hp:=w.fst q H
    rw[e1]at hp
    have s:u.has (fJ L q):=(E.mem _).1 (ze (gz H))
    obtain⟨k,N,_,_,_⟩:=f.wj s
    obtain⟨c,G,_,l,d⟩:=h.ua f s N
    have I:vN u.t (fJ K e.u)=c.a:=D7 f.tok (by rw[hp.u];exact l)
    have J:vN u.t (fJ K e.v)=c.b:=D7 f.tok (by rw[hp.v];exact d)
    rcases D with ⟨rfl,rfl⟩|⟨rfl,rfl⟩
    . exact⟨k,c,G,.inl ⟨I,J⟩⟩
    . exact⟨k,c,G,.inr ⟨J,I⟩⟩
   rw[(sB o.kF (C ⟨a,A.1,A.2⟩)).2,(sB o.kF (C ⟨b,hb.1,hb.2⟩)).2,D7 f.tok A,D7 f.tok hb]at this
   exact this
end
def rts(lab:List Nat)(i:Nat):List Nat:=(List.range i).filter fun x=>decide (fJ lab x=x)
theorem KP{lab:List Nat}:(rts lab i).length<=i:=mF (zW _ _) (DX mQ)
theorem Xf{l:List Nat}(a:l.Nodup){p:Nat->Bool}(c:x∈l)(hp:p x=true):(l.filter fun i=>(i != x)&&p i).length+1=(l.filter p).length:=by
 have b:(l.filter fun i=>(i != x)&&p i)=(l.filter p).erase x:=by
  rw[List.Nodup.erase_eq_filter (a.sublist oI),DV]
 grind
theorem mS.mx{n y:Nat}(ex:fJ lb x=x)(a:fJ lb y=y):fJ lb (max x y)=max x y/\fJ lb (min x y)=min x y:=by
 grind
theorem KQ(h:mS n lb){y:Nat}(f:x<n)(g:y<n)(ex:fJ lb x=x)(b:fJ lb y=y)(e:x≠y):(rts (iW lb x y) n).length+1=(rts lb n).length:=by
 obtain⟨a,en⟩:=mS.mx (n:=n) ex b
 have c:rts (iW lb x y) n=(List.range n).filter fun i=>(i != max x y)&&decide (fJ lb i=i):=by
  unfold rts
  refine uJ fun i hi=>?_
  have d:=l8.1 hi
  rw[nT (by rw[h.len];exact d),Bool.eq_iff_iff]
  grind
 rw[c]
 exact Xf rI (l8.2 o_) (by simpa using a)
theorem KO{n:Nat}{E:List Ge}(b:∀ e∈E,e.u<n/\e.v<n)(c:∀ k,k<E.length->fJ (kH (E.take k) n) (fJ E k).u≠fJ (kH (E.take k) n) (fJ E k).v):∀ k,k<=E.length->(rts (kH (E.take k) n) n).length+k=n
 | 0,_=>by
  have h:rts (kH (E.take 0) n) n=List.range n:=by
   show (List.range n).filter (fun x=>decide (fJ (List.range n) x=x))=_
   exact qN.2 fun x d=>by rw[lU (l8.1 d)];simp
  rw[h,mQ];omega
 | k+1,hk=>by
  have f:=KO b c k o_
  have ok:mS n (kH (E.take k) n):=(wh fun e a=>b e (BL a)).ok
  have a:=b _ (ze (gz (show k<E.length by omega)))
  have l1:=ok.low _ a.1
  have g:=ok.low _ a.2
  rw[XA o_]
  have:=KQ ok (x:=fJ (kH (E.take k) n) (fJ E k).u) (y:=fJ (kH (E.take k) n) (fJ E k).v) o_ o_ (ok.me _ a.1) (ok.me _ a.2) (c k o_)
  omega
section
variable {es:List Ge} {n:Nat} {f:List Nat}
theorem iE.YB(h:iE es n f):gR es n f=kH es n:=by
 obtain⟨T,b⟩:=Tp es
 obtain⟨m,hm,g,c,a⟩:=h.cut T
 have e:m=f.length:=by
  rcases Nat.lt_or_eq_of_le hm with q|q
  . have i:=c m (zm _) q
    have j:=b _ (ze (gz (h.f.lt (ze (gz q)))))
    omega
  . exact q
 rw[e,vL]at a
 rw[a]
 exact congrArg (kH · n) (qN.2 fun e d=>by simpa using b e d)
theorem iE.count(h:iE es n f):(rts (kH es n) n).length+f.length=n:=by
 rw[<-h.YB,Fz]
 have d:(f.map (fJ es)).length=f.length:=zu _
 have:=KO (n:=n) (E:=f.map (fJ es)) (fun e b=>by
  obtain⟨i,hi,rfl⟩:=zq.1 b
  have:=h.g _ (ze (gz (h.f.lt hi)))
  exact⟨this.1,this.2.1⟩) (fun k c=>by
  have a:k<f.length:=by omega
  have:=h.f.mG a
  rw[<-List.map_take,<-Fz,show fJ (f.map (fJ es)) k=fJ es (fJ f k) from iS (by rw[oK,gz a];rfl)]
  exact this) f.length o_
 grind
end
theorem mS.ext{a b:List Nat}(h1:mS n a)(c:mS n b)(h:∀ i j,i<n->j<n->(fJ a i=fJ a j↔fJ b i=fJ b j)):a=b:=by
 refine oc fun i=>?_
 by_cases hi:i<n
 . rw[gz (by rw[h1.len];exact hi),gz (by rw[c.len];exact hi)]
   have e:=h1.low i hi
   have p2:=c.low i hi
   have e1:=(h (fJ a i) i o_ hi).1 (h1.me i hi)
   have d:=(h (fJ b i) i o_ hi).2 (c.me i hi)
   have f:=c.low (fJ a i) o_
   have g:=h1.low (fJ b i) o_
   exact congrArg some o_
 . rw[rH (by rw[h1.len];omega),rH (by rw[c.len];omega)]
theorem Q0{K:List Int}(hs:K.Pairwise fun a b=>a<b)(hi:i<K.length):gP K (fJ K i)=i:=by
 have h:=sB hs (ze (gz hi))
 exact EU hs h.1 hi h.2
theorem iC.trees{fN fM:Nat}{g:GW}{u:fW}{key:Nat->Int}{K:List Int}{L:List Lv}{f:List Nat}{v2 e2:Nat}(J:iC fN fM (gE g.m) A key)(ab:(g.m.map Prod.fst).Nodup)(ag:∀ p∈g.m,∃ k:Nat,p.1=(k:Int))(F:nM u g)(T:u.ok v2 e2)(d:u.k9 K)(Z:u.kn L)(hP:kA K L es L.length)(P:iE es K.length f):tI g.m=f.length:=by
 obtain⟨φ,hφ⟩:∃ φ:Nat->Nat,∀ z,φ z=gP K (fJ u.t.ids z):=⟨fun z=>gP K (fJ u.t.ids z),fun _=>rfl⟩
 obtain⟨Tl,M⟩:∃ Tl,(g.m.filter fun p=>p.2.tree)=Tl:=⟨_,rfl⟩
 obtain⟨E,C⟩:∃ E,(Tl.map fun p=>(⟨φ p.2.a,φ p.2.b,0⟩:Ge))=E:=⟨_,rfl⟩
 have I:∀ p,p∈Tl↔p∈g.m/\p.2.tree=true:=fun p=>by rw[<-M];exact zy
 have mem:∀ p∈g.m,∃ k:Nat,p.1=k/\gE g.m k=some p.2:=fun p hp=>by
  obtain⟨k,G⟩:=ag p hp
  exact⟨k,G,by show ig g.m (k:Int)=_;rw[<-G];exact J8 ab hp⟩
 have w:∀ {z:Nat} {id:Int},u.t.At z id->φ z=gP K id/\φ z<K.length/\vN u.t (fJ K (φ z))=z:=fun {z id} h=>by
  have n:=sB d.kF ((d.mem id).2 ⟨z,h.1,h.2⟩)
  have o:φ z=gP K id:=by rw[hφ,h.2]
  rw[o]
  exact⟨rfl,n.1,by rw[n.2];exact D7 T.tok h⟩
 have X:∀ p∈g.m,(φ p.2.a<K.length/\vN u.t (fJ K (φ p.2.a))=p.2.a)/\(φ p.2.b<K.length/\vN u.t (fJ K (φ p.2.b))=p.2.b):=fun p hp=>by
  obtain⟨k,_,c⟩:=mem p hp
  obtain⟨x,_,_,N,hb,_⟩:=F.live c
  exact⟨(w N).2,(w hb).2⟩
 have y:∀ e∈E,e.u<K.length/\e.v<K.length:=fun e c=>by
  grind
 have am:E.length=Tl.length:=by rw[<-C];exact zu _
 have at_:∀ j,j<Tl.length->fJ E j=⟨φ (fJ Tl j).2.a,φ (fJ Tl j).2.b,0⟩:=fun j s=>iS (by rw[<-C,oK,gz s];rfl)
 have ak:(Tl.map Prod.fst).Nodup:=by rw[<-M];exact ab.sublist (oI.map _)
 have N:∀ k,k<E.length->fJ (kH (E.take k) K.length) (fJ E k).u≠fJ (kH (E.take k) K.length) (fJ E k).v:=fun k G e=>by
  have aa:k<Tl.length:=by omega
  obtain⟨H,ah⟩:=(I _).1 (ze (gz aa))
  obtain⟨kk,al,D⟩:=mem _ H
  have b:=y _ (ze (gz G))
  have hc:=(Jk (fun e c=>y e (BL c)) b.1 b.2).1 e
  have O:=hc.map (B:=Eo (gE g.m) kk) (φ:=fun q=>vN u.t (fJ K q)) fun i j ⟨e,c,Q⟩=>by
   obtain⟨r,R⟩:=Hr c
   have aj:=(zt.1 R).1
   rw[k8]at aj
   rw[Hz o_]at R
   have S:r<Tl.length:=by omega
   have e1:=iS R
   rw[at_ r S]at e1
   obtain⟨ac,ai⟩:=(I _).1 (ze (gz S))
   obtain⟨rr,an,af⟩:=mem _ ac
   have l:=X _ ac
   refine⟨rr,(fJ Tl r).2,fun e9=>?_,af,ai,?_⟩
   . have h7:(Tl.map Prod.fst)[r]? = (Tl.map Prod.fst)[k]? := by
      grind [gz,fJ]
     have:=(List.getElem?_inj (by rw[zu];exact S) ak).1 h7
     omega
   . subst e1
     rcases Q with ⟨rfl,rfl⟩|⟨rfl,rfl⟩
     . exact .inl ⟨l.1.2,l.2.2⟩
     . exact .inr ⟨l.2.2,l.1.2⟩
  rw[at_ k aa]at O
  have l:=X _ H
  simp only[l.1.2,l.2.2]at O
  exact J.u6 kk _ D ah O
 have cnt:=KO y N E.length (zm _)
 rw[vL]at cnt
 have hg:∀ e∈es,e.u<K.length/\e.v<K.length:=fun e c=>⟨(P.g e c).1,(P.g e c).2.1⟩
 have same:kH E K.length=kH es K.length:=mS.ext (wh y).ok (wh hg).ok fun i j hi s=>by
  rw[Jk y hi s,Jk hg hi s]
  constructor
  . intro t
    refine t.bind fun i j ⟨e,c,Q⟩=>?_
    rw[<-C]at c
    obtain⟨p,hp,rfl⟩:=zq.1 c
    have H:=((I p).1 hp).1
    obtain⟨k,_,D⟩:=mem p H
    obtain⟨x,_,_,n,o,_⟩:=F.live D
    have U:=(F.conn T d Z hP n o).1 (.one ⟨k,p.2,D,.inl ⟨rfl,rfl⟩⟩)
    rw[<-(w n).1,<-(w o).1]at U
    rcases Q with ⟨rfl,rfl⟩|⟨rfl,rfl⟩
    . exact U
    . exact U.symm fun i j=>Ee.symm
  . intro t
    obtain⟨zi,ad⟩:=(d.mem _).1 (ze (gz hi))
    obtain⟨zj,ae⟩:=(d.mem _).1 (ze (gz s))
    have V:=Q0 d.kF hi
    have W:=Q0 d.kF s
    have t2:=J.conn.2 ((F.conn T d Z hP ad ae).2 (by rw[V,W];exact t))
    have t3:∀ i j,Cn A i j->Cn (fun a b=>Ee E (φ a) (φ b)) (rp fM (gE g.m) i) (rp fM (gE g.m) j):=fun i j t=>by
     induction t with
     | refl=>exact .refl _
     | step a _ ih =>
      refine(J.RU a fun k e n o _=>?_).trans ih
      have Y:(⟨φ e.a,φ e.b,0⟩:Ge)∈E:=by
       rw[<-C]
       exact zq.2 ⟨((k:Int),e),(I _).2 ⟨J7 n,o⟩,rfl⟩
      exact⟨⟨_,Y,.inl ⟨rfl,rfl⟩⟩,⟨_,Y,.inr ⟨rfl,rfl⟩⟩⟩
    have t4:=t3 _ _ t2
    rw[mN,mN]at t4
    have t5:=t4.map (B:=Ee E) (φ:=φ) fun i j h=>h
    rw[(w ad).1,(w ae).1,V,W]at t5
    exact t5
 rw[same]at cnt
 have h9:=P.count
 show (g.m.filter fun p=>p.2.tree).length=f.length
 rw[M]
 omega
def qW(lb:List Nat)(n:Nat):List Int:=(rts lb n).map fun r=>(lb.count r:Int)
structure nJ (n:Nat) (lb:List Nat) (W:List Int) (L:List (Int×Nat)):Prop where
 ok:mS n lb
 wl:W.length=n
 wt:∀ r,r<n->fJ lb r=r->fJ W r=(lb.count r:Int)
 bo:jd L
 lx:(lex L).Perm (qW lb n)
theorem Gj{r:Nat}:r∈rts lb n↔r<n/\fJ lb r=r:=by
 grind [rts]
theorem KR:(rts lb n).Nodup:=rI.sublist oI
theorem E6{y r:Nat}(h:x<y):(iW lb x y).count r=if r=x then lb.count x+lb.count y else if r=y then 0 else lb.count r:=by
 induction lb with
 | nil=>simp[iW]
 | cons z lb a =>
  grind [iW]
section
variable {n:Nat} {lb:List Nat} {W:List Int} {L:List (Int×Nat)}
theorem nJ.sz(h:nJ n lb W L):mL L<=n:=by
 rw[<-JS,h.lx.length_eq,qW,zu]
 exact KP
theorem nJ.el(h:nJ n lb W L):∀ p∈L,0<=p.1/\p.1<=(n:Int)/\p.2<=n:=fun p hp=>by
 have a:p.1∈qW lb n:=h.lx.subset ((vk h.bo).2 ⟨p,hp,rfl⟩)
 obtain⟨r,_,e⟩:=zq.1 a
 have d:lb.count r<=n:=h.ok.len▸BJ
 have f:p.2<=mL L:=by
  have b:∀ {L:List (Int×Nat)},p∈L->p.2<=mL L:=fun {L} c=>by
   induction L with
   | nil=>cases c
   | cons q L i =>
    grind [q8]
  exact b hp
 have g:=h.sz
 omega
theorem nJ.wo(h:nJ n lb W L){r:Nat}(a:r<n)(e:fJ lb r=r):fJ W r∈lex L:=by
 rw[h.wt r a e]
 exact h.lx.symm.subset (zq.2 ⟨r,Gj.2 ⟨a,e⟩,rfl⟩)
theorem Of(h:mS n lb){y:Nat}(k:y<n)(ex:fJ lb x=x)(f:fJ lb y=y)(d:x<y) :
 ∃ R,(qW lb n).Perm ((lb.count x:Int) :: (lb.count y:Int) :: R)/\(qW (iW lb x y) n).Perm (((lb.count x:Int)+(lb.count y:Int)) :: R):=by
 have j:=h.len
 have hm:∀ r,r<n->fJ (iW lb x y) r=if fJ lb r=y then x else fJ lb r:=fun r c=>by
  grind [nT]
 let M:=(rts lb n).filter fun r=>decide (r≠x/\r≠y)
 have g:∀ r,r∈M↔(r<n/\fJ lb r=r)/\r≠x/\r≠y:=fun r=>by rw[zy,Gj,decide_eq_true_iff]
 have i:M.Nodup:=KR.sublist oI
 have e:(rts lb n).Perm (x :: y :: M):=by
  grind [KR,Gj]
 have p2:(rts (iW lb x y) n).Perm (x :: M):=by
  grind [KR,Gj]
 refine⟨M.map fun r=>(lb.count r:Int),e.map _,?_⟩
 have a:=p2.map fun r=>((iW lb x y).count r:Int)
 rw[l9,E6 d,if_pos rfl]at a
 have b:M.map (fun r=>((iW lb x y).count r:Int))=M.map fun r=>(lb.count r:Int):=DU fun r c=>by
  grind [E6]
 rw[b,Int.natCast_add]at a
 exact a
theorem nJ.sub(h:nJ n lb W L){y:Nat}(c:y<n)(ex:fJ lb x=x)(a:fJ lb y=y)(f:x<y):fJ W y∈lex (jO (· - 1) (fJ W x) L):=by
 obtain⟨R,d,_⟩:=Of h.ok c ex a f
 have e:=FD h.bo (h.wo (show x<n by omega) ex)
 have b:=(e.symm.trans (h.lx.trans d))
 rw[<-h.wt x o_ ex,<-h.wt y c a]at b
 exact(List.Perm.cons_inv b).symm.subset zd
theorem nJ.join(h:nJ n lb W L){y:Nat}(c:y<n)(ex:fJ lb x=x)(a:fJ lb y=y)(b:x<y) :
 nJ n (iW lb x y) (fO W x fun _=>fJ W x+fJ W y) (jO (· + 1) (fJ W x+fJ W y) (jO (· - 1) (fJ W y) (jO (· - 1) (fJ W x) L))):=by
 have g:x<n:=by omega
 have v:=h.ok.len
 have q:mS n (iW lb x y):=by have o:=h.ok.next g c;rwa [ex,a]at o
 obtain⟨R,m,i⟩:=Of h.ok c ex a b
 refine⟨q,gB.trans h.wl,fun r d e=>?_,qC (qC (qC h.bo)),?_⟩
 . have k:fJ (iW lb x y) r=if fJ lb r=y then x else fJ lb r:=by rw[nT o_,DN (Nat.le_of_lt b),vM (Nat.le_of_lt b)]
   rw[k]at e
   by_cases hrx:r=x
   . subst hrx
     rw[jS (by rw[h.wl];exact d),E6 b,if_pos rfl,h.wt r d ex,h.wt y c a,Int.natCast_add]
   . split at e
     . omega
     . next hne =>
       have p:r≠y:=fun l=>by subst l;exact hne a
       rw[kD (Ne.symm hrx),E6 b,if_neg hrx,if_neg p,h.wt r d e]
 . have b1:=qC (f:=(· - 1)) (x:=fJ W x) h.bo
   have s:=FD h.bo (h.wo g ex)
   have t:=FD b1 (h.sub c ex a b)
   have u:=JR (L:=jO (· - 1) (fJ W y) (jO (· - 1) (fJ W x) L)) (x:=fJ W x+fJ W y)
   have j:=h.lx.trans m
   rw[<-h.wt x g ex,<-h.wt y c a]at j i
   exact u.trans (((List.Perm.cons_inv (List.Perm.cons_inv ((t.cons _).symm.trans (s.symm.trans j)))).cons _).trans i.symm)
end
structure kB where
 a:Int
 c:Nat
 s:Nat
instance:Inhabited kB:=⟨⟨0,0,0⟩⟩
def kB.cells(x:kB):List Value:=[.int .i64 x.a,.int .i64 (x.c:Int),.int .i64 (x.s:Int)]
def A9(l:List Int):Int:=l.foldl max 0
def gG(n:Nat)(lb:List Nat):kB:=⟨A9 (qW lb n),(rts lb n).length,tA (qW lb n)⟩
theorem aas(l:List Int):0<=A9 l/\(∀ x∈l,x<=A9 l)/\(A9 l=0\/A9 l∈l):=by
 have key:∀ (l:List Int) (a:Int),a<=l.foldl max a/\(∀ x∈l,x<=l.foldl max a)/\(l.foldl max a=a\/l.foldl max a∈l):=by
  intro l
  induction l with
  | nil =>
   grind
  | cons y l b =>
   grind
 exact key l 0
theorem nJ.mx(h:nJ n lb W L):sn L=A9 (qW lb n):=by
 obtain⟨f,c,a⟩:=aas (qW lb n)
 by_cases h0:L=[]
 . subst h0
   have b:qW lb n=[]:=List.Perm.eq_nil h.lx.symm
   rw[b]
   rfl
 . obtain⟨b,d⟩:=YY h.bo h0
   have g:=c _ (h.lx.subset b)
   rcases a with a|a
   . obtain⟨p,hp,e⟩:=(vk h.bo).1 b
     have:=(h.el p hp).1
     omega
   . have:=d _ (h.lx.symm.subset a)
     omega
theorem nJ.sq(h:nJ n lb W L):mK L=tA (qW lb n):=(PW L).trans (X8 h.lx)
structure qQ (n k:Nat) (W:List Int) (L:List (Int×Nat)):Prop where
 wl:W.length=n
 w1:∀ i,i<k->fJ W i=1
 bo:jd L
 lx:(lex L).Perm (List.replicate k 1)
theorem qQ.start:qQ n 0 (List.replicate n 0) []:=⟨qL,fun i h=>absurd h (BW i),⟨List.Pairwise.nil,fun _ h=>by cases h⟩,List.Perm.refl _⟩
theorem qQ.next(h:qQ n k W L)(hk:k<n):qQ n (k+1) (fO W k fun _=>1) (jO (· + 1) 1 L) :=
 ⟨gB.trans h.wl,fun i hi=>by
  by_cases e:i=k
  . subst e;exact jS (by rw[h.wl];exact hk)
  . rw[kD (fun q=>e q.symm)];exact h.w1 i o_,qC h.bo,JR.trans (h.lx.cons 1)⟩
theorem qQ.sz(h:qQ n k W L):mL L=k:=by rw[<-JS,h.lx.length_eq,qL]
theorem qQ.fin(h:qQ n n W L):nJ n (List.range n) W L:=by
 have d:rts (List.range n) n=List.range n:=qN.2 fun i hi=>decide_eq_true (lU (l8.1 hi))
 have c:∀ i,i<n->(List.range n).count i=1:=fun i hi=>List.Nodup.count rI |>.trans (if_pos (l8.2 hi))
 refine⟨mS.range,h.wl,fun r a _=>by rw[h.w1 r a,c r a];rfl,h.bo,h.lx.trans ?_⟩
 have e:qW (List.range n) n=List.replicate n 1:=by
  unfold qW
  rw[d]
  refine List.eq_replicate_iff.2 ⟨s_,fun b hb=>?_⟩
  grind
 rw[e]
section
variable {s:fW} {fN fM:Nat} {K:List Int} {L:List Lv}
theorem fW.k9.IB(h:s.k9 K)(i:s.ok fN fM)(c:s.t.A.ok):K.length=s.t.A.used:=by
 have f:K.length<=s.t.tw.length:=um K _ (h.kF.imp fun {a b} j e=>by omega) fun x d=>(TW.CG c x).2 ((h.mem x).1 d)
 have g:s.t.tw.length<=K.length:=um _ K (TW.Jr i.tok c) fun x d=>(h.mem x).2 ((TW.CG c x).1 d)
 rw[TW.Jq c]at f g
 omega
theorem fW.kn.IB(d:s.kn L)(h:s.ok fN fM):L.length=s.A.used:=by
 have k:((s.A.list s.A.begun).map fun i:Nat=>(i:Int)).Nodup:=FY ((s.A.A7 _).imp fun {a b} m e=>by omega) fun x _ y _ e=>by omega
 have f:=um (L.map Lv.slot) _ (d.slots h) fun j c=>by
  obtain⟨x,l,rfl⟩:=zq.1 c
  obtain⟨i,e,hi,_,_⟩:=h.wj ((d.mem x).1 l)
  exact zq.2 ⟨i,(h.kV.ox i).2 hi,e.symm⟩
 have g:=um _ (L.map Lv.slot) k fun j c=>by
  obtain⟨i,hi,rfl⟩:=zq.1 c
  have hi:=(h.kV.ox i).1 hi
  exact zq.2 ⟨_,(d.mem _).2 ⟨i,hi,rfl⟩,h.slot i hi⟩
 rw[zu,zu,h.kV.yE]at f g
 omega
end
theorem Pt{o:List Nat}(d:o.Perm (List.range es.length))(c:lQ n es):gR es n o=kH es n:=by
 have b:∀ e∈es,e.u<n/\e.v<n:=fun e a=>⟨(c e a).1,(c e a).2.1⟩
 have hm:∀ e,e∈o.map (fJ es)↔e∈es:=fun e=>by
  rw[zq]
  constructor
  . rintro⟨i,hi,rfl⟩
    exact ze (gz (l8.1 (d.mem_iff.1 hi)))
  . intro a
    obtain⟨i,hi⟩:=Hr a
    exact⟨i,d.mem_iff.2 (l8.2 (zt.1 hi).1),iS hi⟩
 rw[Fz]
 exact(wh fun e a=>b e ((hm e).1 a)).uniq (wh b) hm
theorem VZ{F R:Int}(h1:0<=V/\V<=4096)(a:0<=y/\y<=V)(b:0<=F/\F<=4096)(h:R+F=y):IntKind.i64.wrap (IntKind.i64.wrap (V-F)-(V-y))=R:=by
 rw[IntKind.wrap_i64,IntKind.wrap_i64]
 omega
theorem aa1{zs:List Nat}{mm:List (Int×Nat)}(c:zs.Nodup)(hk:k<zs.length)(h:∀ j,k<=j->j<zs.length->fS mm ((fJ zs j:Nat):Int)=0):∀ j,k+1<=j->j<zs.length->fS (gr mm ((fJ zs k:Nat):Int) x) ((fJ zs j:Nat):Int)=0:=fun j d a=>by
 unfold fS
 rw[vm,if_neg fun e=>?_]
 . exact h j o_ a
 . have b:fJ zs k=fJ zs j:=by omega
   have:=(List.getElem?_inj hk c).1 ((gz hk).trans ((congrArg some b).trans (gz a).symm))
   omega
section
variable {P:Program} {t:TypeId} {w:World}
theorem acY{d e f:Field}{k:IntKind}{a b c:Int}(ht:P.underlying t = some (.struct #[d, e, f]))(hs:P.stoodInHeld t = false)(n1:d.name ≠ "_")(l:e.name ≠ "_")(m:f.name ≠ "_")(n:d.offset=0)(o:e.offset=1)(p:f.offset=2)(i:P.underlying d.type=some (.int k))(u2:P.underlying e.type=some (.int k))(j:P.underlying f.type=some (.int k)) :
 (Op.equal t (.agg #[.int k a,.int k b,.int k c]) (.agg #[.int k a,.int k b,.int k c])).run P w = .ok true w:=by
 have q:=tH (w:=w) i #[.int k a,.int k b,.int k c] 0 _ rfl
 have p2:=tH (w:=w) u2 #[.int k a,.int k b,.int k c] 1 _ rfl
 have r:=tH (w:=w) j #[.int k a,.int k b,.int k c] 2 _ rfl
 have e1:=Bp (P:=P) (w:=w) 9998 i a a
 have g:=Bp (P:=P) (w:=w) 9998 u2 b b
 have h:=Bp (P:=P) (w:=w) 9998 j c c
 simp only[Nat.reduceAdd]at e1 g h
 show (Op.equalIn (9999+1) t _ _).run P w=_
 unfold Op.equalIn
 simp[run_underlying ht,hs,n1,l,m,n,o,p,q,p2,r,e1,g,h]
end
theorem St.U1{α:Type}[Inhabited α]{cf:α->List Value}{bs:List (World×List Nat)}{L:List fT}{w:World}{e:TypeId}{xs:List α}{sz b i n:Nat}(h:St bs L w)(hi:L[i]? = some (blk b e (xs.flatMap cf)))(a:∀ x:α,(cf x).length=sz)(c:xs.length=n)(hm:n<=maxLen) :
 St bs (L.set i (fL cf (.slice (some ⟨b,0,none⟩) n n) e sz xs)) w:=by
 subst c
 exact h.Iu (cf:=cf) (ys:=xs) (ex:=[]) (cap:=xs.length) (by rw[rJ];exact hi) a (zm _) hm (by rw[rJ,qY a])
theorem Di{α:Type}[Inhabited α]{cf:α->List Value}{w:World}{e:TypeId}{xs:List α}{sz:Nat}{v:Value}(a:(fL cf v e sz xs).holds w)(c:∀ x:α,(cf x).length=sz):gY sz cf (fun _=>True) w v xs:=by
 have a:w.ownsRow 0 e sz v xs.length (xs.flatMap cf):=a
 rcases a.2 with ⟨rfl,l⟩|⟨b, d,cur,rfl,_,m,f,h,_⟩
 . grind [Sl.nil]
 . refine⟨_,d,rfl,f,h,fun j y i=>⟨b, 0,cf y,rfl,trivial,c y,rfl,fun q u k=>?_⟩⟩
   have:=a.cells (g:=b) rfl (j*sz+q) u (vg c xs j q y u i k)
   rw[Addr.add_lit]at this
   simpa[lJ]using this
theorem Ur{y:Nat}(h:0<y):(2*y) &&& (2*y-1)=2*(y &&& (y-1)):=by
 apply Nat.eq_of_testBit_eq
 intro i
 rw[Nat.testBit_and]
 cases i with
 | zero=>simp[Nat.testBit_zero]
 | succ i=>rw[D0,D0,D0,show 2*y / 2=y by omega,show (2*y-1) / 2=y-1 by omega,show 2*(y &&& (y-1)) / 2=y &&& (y-1) by omega,Nat.testBit_and]
theorem Us{m:Nat}:(2*m+1) &&& (2*m+1-1)=2*m:=by
 rw[Nat.add_sub_cancel]
 apply Nat.eq_of_testBit_eq
 intro i
 rw[Nat.testBit_and]
 cases i with
 | zero=>simp[Nat.testBit_zero]
 | succ i=>rw[D0,D0,show (2*m+1) / 2=m by omega,show 2*m / 2=m by omega,Bool.and_self]
theorem Ut(k m:Nat):(2 ^ k*(2*m+1)) &&& (2 ^ k*(2*m+1)-1)=2 ^ k*(2*m+1)-2 ^ k:=by
 induction k with
 | zero=>rw[Nat.pow_zero,Nat.one_mul,Us];omega
 | succ k b =>
  have a:0<2 ^ k*(2*m+1):=Nat.mul_pos (Nat.pow_pos d_) o_
  have e:2 ^ (k+1)*(2*m+1)=2*(2 ^ k*(2*m+1)):=by rw[DZ,Nat.mul_comm (2 ^ k) 2,Nat.mul_assoc]
  rw[e,Ur a,b,DZ]
  omega
theorem IW(c:x≠0)(h:x<2 ^ 64):x &&& (x-1)=x-2 ^ Lib.ctz 64 x/\2 ^ Lib.ctz 64 x<=x:=by
 obtain⟨m,hm,d⟩:=Lib.ctzFrom_spec 64 x o_ h
 have e:Lib.ctz 64 x=Lib.ctzFrom 64 x:=by simp[Lib.ctz,c]
 rw[e]
 have a:=Ut (Lib.ctzFrom 64 x) m
 rw[<-hm]at a
 refine⟨a,?_⟩
 have b:2 ^ Lib.ctzFrom 64 x*1<=2 ^ Lib.ctzFrom 64 x*(2*m+1):=BR _ o_
 rw[<-hm,qO]at b
 exact b
theorem Wa(a:x≠0)(h:x<8192):Lib.ctz 64 x<13:=by
 have c:=(IW a (oJ h d_)).2
 apply Nat.lt_of_not_le
 intro b
 have d:2 ^ 13<=2 ^ Lib.ctz 64 x:=Nat.pow_le_pow_right d_ b
 have e:(2:Nat) ^ 13=8192:=by decide
 omega
structure B4 (ps:List Int) (v0 d0 d v:Nat):Prop where
 le:d<=d0
 at_:v=gM ps (d0-d) v0
theorem B4.next{ps:List Int}{b a d v:Nat}(hp:ko ps)(hv:b<ps.length)(hd:a<=gj ps b)(i:a<8192)(h:B4 ps b a d v)(e:d≠0) :
 v<ps.length/\fJ (jy ps (Lib.ctz 64 d)) v=((gM ps (2 ^ Lib.ctz 64 d) v:Nat):Int)/\B4 ps b a (d &&& (d-1)) (gM ps (2 ^ Lib.ctz 64 d) v):=by
 have g:=h.le
 obtain⟨c,l⟩:=IW e (Nat.lt_of_le_of_lt g (oJ i d_))
 obtain⟨a1,a2,_⟩:=qI hp hv (k:=a-d) o_
 rw[<-h.at_]at a1 a2
 have f:=JF hp a1 (j:=Lib.ctz 64 d)
 generalize 2 ^ Lib.ctz 64 d=E at *
 refine⟨a1,f o_,by rw[c];omega,?_⟩
 rw[c,show a-(d-E)=(a-d)+E by omega,uB,<-h.at_]
theorem fW.IK{fN fM:Nat}{s:fW}(h:s.ok fN fM)(l:s.t.A.ok){u v:Int}(g:u≠v){L:List Lv}{K:List Int}(z:L.length<fM)(n:∀ x,s.has x->x∈L)(m:∀ x,s.has x->x.u∈K/\x.v∈K)(q:u∈K)(hv:v∈K)(hk:K.length<=fN):s.gN fN fM u v=0:=by
 have k:((s.A.list s.A.begun).map fun i:Nat=>(i:Int)).length<=(L.map Lv.slot).length:=um _ _ (by
  rw[List.Nodup,HE]
  exact(s.A.A7 _).imp fun {a b} B e=>by omega) fun j p=>by
  obtain⟨i,hi,rfl⟩:=zq.1 p
  have f:=(h.kV.ox i).1 hi
  exact zq.2 ⟨_,n _ ⟨i,f,rfl⟩,h.slot i f⟩
 rw[zu,zu,h.kV.yE]at k
 obtain⟨c,k1,C,w⟩:=TW.IC h.tok l g
 have y:c.length<=K.length:=um c K k1 fun x r=>by
  rcases(w x).1 r with hm|rfl|rfl
  . obtain⟨i,hi,o⟩:=(h.mem x).1 hm
    have d:=m _ ⟨i,hi,rfl⟩
    rcases o with e|e
    . rw[<-e];exact d.1
    . rw[<-e];exact d.2
  . exact q
  . exact hv
 exact fW.AJ g o_ o_
structure WW.Ins (c:WC) (s s2:WW) (x:Lv):Prop where
 has:∃ i:Nat,∀ y,s2.u.has y↔(s.u.has y/\x.t<y.exp)\/y=⟨(i:Int),s.u.last+1,x.u,x.v,x.wt,x.t,x.t+c.win⟩
 last:s2.u.last=s.u.last+1
 now:s2.now=x.t
 added:s2.added=s.added+1
structure WW.T2 (c:WC) (s s2:WW) (x:Lv) (e:Int):Prop where
 step:WW.Step s s2 x
 ins:e=0->WW.Ins c s s2 x
 room:s.u.gN c.fN c.fM x.u x.v=0->e=0
abbrev cW:WC:=⟨10,4,4,4⟩
abbrev wE(i:Nat)(q u v w t:Int):Lv:=⟨(i:Int),q,u,v,w,t,t+10⟩
section
variable {s s1 s2 s3:WW}
theorem afV(b:∀ y,¬ s.u.has y)(c:s.u.last=0)(h:WW.Ins cW s s1 ⟨0,0,1,2,5,0,0⟩):(∃ i,∀ y,s1.u.has y↔y=wE i 1 1 2 5 0)/\s1.u.last=1:=by
 obtain⟨⟨i,hi⟩,a,_,_⟩:=h
 rw[c]at a hi
 exact⟨⟨i,fun y=>(hi y).trans ⟨fun h=>h.elim (fun h=>absurd h.1 (b y)) id,.inr⟩⟩,a⟩
theorem afW(c:∀ y,s1.u.has y↔y=wE i 1 1 2 5 0)(d:s1.u.last=1)(h:WW.Ins cW s1 s2 ⟨0,0,2,3,7,4,0⟩):(∃ j,∀ y,s2.u.has y↔y=wE i 1 1 2 5 0\/y=wE j 2 2 3 7 4)/\s2.u.last=2:=by
 obtain⟨⟨j,b⟩,a,_,_⟩:=h
 rw[d]at a b
 refine⟨⟨j,fun y=>(b y).trans (or_congr_left ?_)⟩,a⟩
 rw[c]
 exact⟨fun h=>h.1,fun h=>⟨h,by rw[h];show (4:Int)<0+10;decide⟩⟩
theorem afX{j:Nat}(b:∀ y,s2.u.has y↔y=wE i 1 1 2 5 0\/y=wE j 2 2 3 7 4)(c:s2.u.last=2)(h:WW.Ins cW s2 s3 ⟨0,0,1,3,9,6,0⟩) :
 ∃ k,∀ y,s3.u.has y↔(y=wE i 1 1 2 5 0\/y=wE j 2 2 3 7 4)\/y=wE k 3 1 3 9 6:=by
 obtain⟨⟨k,a⟩,_,_,_⟩:=h
 rw[c]at a
 refine⟨k,fun y=>(a y).trans (or_congr_left ?_)⟩
 rw[b]
 refine⟨fun h=>h.1,fun h=>⟨h,?_⟩⟩
 rcases h with rfl|rfl
 . exact(by decide:(6:Int)<0+10)
 . exact(by decide:(6:Int)<4+10)
def mJ:List Ge:=[⟨0,1,5⟩,⟨1,2,7⟩,⟨0,2,9⟩]
theorem afZ{fN fM:Nat}(U:s3.u.ok fN fM){j:Nat}(h:∀ y,s3.u.has y↔(y=wE i 1 1 2 5 0\/y=wE j 2 2 3 7 4)\/y=wE k 3 1 3 9 6){K:List Int}{L:List Lv}(R:s3.u.k9 K)(S:s3.u.kn L)(s:kA K L es L.length):K=[1,2,3]/\L.length=3/\es=mJ:=by
 have e1:L=[wE i 1 1 2 5 0,wE j 2 2 3 7 4,wE k 3 1 3 9 6]:=S.uniq ⟨fun x=>by rw[h];simp[or_assoc],s_⟩
 have P:K=[1,2,3]:=R.uniq ⟨s_,fun x=>by
  rw[U.mem]
  constructor
  . intro l
    simp only[zg,nr,or_false]at l
    rcases l with rfl|rfl|rfl
    . obtain⟨n,c,e⟩:=(h (wE i 1 1 2 5 0)).2 (.inl (.inl rfl));exact⟨n,c,by rw[e];exact .inl rfl⟩
    . obtain⟨n,c,e⟩:=(h (wE i 1 1 2 5 0)).2 (.inl (.inl rfl));exact⟨n,c,by rw[e];exact .inr rfl⟩
    . obtain⟨n,c,e⟩:=(h (wE j 2 2 3 7 4)).2 (.inl (.inr rfl));exact⟨n,c,by rw[e];exact .inr rfl⟩
  . rintro⟨n,c,m⟩
    rcases(h _).1 ⟨n,c,rfl⟩with (e|e)|e<;>rw[e]at m<;>rcases m with rfl|rfl<;>simp⟩
 subst e1 P
 refine⟨rfl,rfl,?_⟩
 have T:=s.len
 have f:∀ n:Nat,n<3->Mm [1,2,3] (fJ [wE i 1 1 2 5 0,wE j 2 2 3 7 4,wE k 3 1 3 9 6] n) (fJ es n):=fun n c=>s.fst n c
 have g:∀ a:Nat,a<3->∀ x:Int,fJ ([1,2,3]:List Int) a=x->(a:Int)+1=x:=fun a m x l=>by
  match a,m with
  | 0,_=>exact l
  | 1,_=>exact l
  | 2,_=>exact l
 match es,T,f with
 | [a,b,d],_,f =>
  have fa:=f 0 d_
  have fb:=f 1 d_
  have Q:=f 2 d_
  obtain⟨a1,a2,a3,t,v⟩:=fa
  obtain⟨b1,b2,b3,A,B⟩:=fb
  obtain⟨F,G,H,I,J⟩:=Q
  have w:=g _ a1 _ a3;have z:=g _ a2 _ t
  have C:=g _ b1 _ b3;have D:=g _ b2 _ A
  have M:=g _ F _ H;have N:=g _ G _ I
  obtain⟨o,p,aw⟩:=a
  obtain⟨q,bv,E⟩:=b
  obtain⟨r,dv,O⟩:=d
  change (o:Int)+1=1 at w;change (p:Int)+1=2 at z;change aw=5 at v
  change (q:Int)+1=2 at C;change (bv:Int)+1=3 at D;change E=7 at B
  change (r:Int)+1=1 at M;change (dv:Int)+1=3 at N;change O=9 at J
  have:o=0:=by omega
  have:p=1:=by omega
  have:q=1:=by omega
  have:bv=2:=by omega
  have:r=0:=by omega
  have:dv=2:=by omega
  subst_vars
  rfl
end
theorem afY:oM mJ 3 [0,1]:=⟨[0,1,2],⟨List.Perm.refl _,d_⟩,d_⟩
theorem TH:(gd mJ 3 [0,1]).p=[3,3,4,4,-1]/\(gd mJ 3 [0,1]).h=[0,0,0,5,7]/\(gd mJ 3 [0,1]).s=[1,1,1,2,3]:=by decide
theorem L3{f:List Nat}(h:iE es n f)(a:es=mJ)(b:n=3):f=[0,1]:=by
 subst a b
 exact h.f.uniq afY
section
variable {f:List Nat} (h:iE mJ 3 f)
include h
theorem TJ:gW mJ 3 f (jP (gd mJ 3 f).p (gd mJ 3 f).h 7 2)=0/\fJ (gd mJ 3 f).s (jP (gd mJ 3 f).p (gd mJ 3 f).h 7 2)=3:=by
 have hp:=h.vp
 obtain rfl:=L3 h rfl rfl
 obtain⟨e1,a,b⟩:=TH
 rw[e1]at hp
 rw[e1,a,b,IQ hp d_ d_ d_]
 show gW mJ 3 [0,1] (jP _ _ 7 4)=0/\fJ _ (jP _ _ 7 4)=3
 rw[IP d_]
 decide
theorem af1{z:Nat}{B:Bool}(hc:sQ (gd mJ 3 f).p 0 2 z B):B=true/\fJ (gd mJ 3 f).h z=7:=by
 have hp:=h.vp
 obtain rfl:=L3 h rfl rfl
 obtain⟨e1,l,o⟩:=TH
 rw[e1]at hp hc
 rw[l]
 have d:gj [3,3,4,4,-1] 4=0:=E7 d_
 have k:gj [3,3,4,4,-1] 3=1:=by rw[AN hp (j:=3) (i:=4) d_ d_,d]
 have b:gj [3,3,4,4,-1] 0=2:=by rw[AN hp (j:=0) (i:=3) d_ d_,k]
 have c:gj [3,3,4,4,-1] 2=1:=by rw[AN hp (j:=2) (i:=4) d_ d_,d]
 rcases hc with ⟨rfl,s,t,e,g,m,a,_⟩|⟨_,_,n⟩
 . rw[b]at e
   rw[c]at g
   refine⟨rfl,?_⟩
   subst m
   match s,e,t,g,a with
   | 0,_,0,_,a=>exact absurd a d_
   | 0,_,1,_,a=>exact absurd a d_
   | 1,_,0,_,a=>exact absurd a d_
   | 1,_,1,_,a=>exact absurd a d_
   | 2,_,0,_,a=>exact absurd a d_
   | 2,_,1,_,_=>decide
 . exact absurd d_ (n 2 1 (by rw[b];exact zm _) (by rw[c];exact zm _))
theorem af0:f=[0,1]/\(oB mJ 3 f f.length).map (fun m=>(m.a,m.b,m.h))=[(0,1,5),(0,2,7)]:=by
 obtain rfl:=L3 h rfl rfl
 exact⟨rfl,d_⟩
end
def Gw(w w' : World):Prop:=∃ q os,w' = Go.Sort.grow (w.drewN q) os
theorem Gw.drew(w:World):Gw w w.drew:=⟨1,#[],by rw[Go.Sort.grow_empty];rfl⟩
theorem Gw.alloc{w':World}(h:Gw w w')(o:Obj):Gw w (w'.alloc o):=by
 obtain⟨q,os,rfl⟩:=h
 exact⟨q,os ++ #[o],by rw[Go.Sort.alloc_eq_grow,Go.Sort.grow_grow]⟩
section
variable {r:Option Nat} {P:Program} {ops:Array Oper} {Q:Exit->Act->World->Prop} {rest:List Oper} {n d:Nat} {ds:List Deferred} {s:List (Nat×Value)} {bs:List (World×List Nat)} {L:List fT} {w w0:World} {t e ty:TypeId} {pos:String} {af:Array Edge} {g:Option (Nat×Bool)} {sz by_:Nat} {z:Value}
theorem U6{len:Nat}{ps:List (Nat×Operand)}{vs:List Value}(f:Gw w0 w)(i:gI ops n s g=true)(hp:ps.map (fun q=>(q.1,ev n s q.2))=idx 0 vs)(ht:P.underlying t=some (.slice e))(hi:TI P e sz by_ z)(j:vs.length=len)(hv:∀ v∈vs,v.cells.size=sz)(hcs:vs.flatMap (·.cells.toList)=cs)(c:Nat.ble (len*sz) 16777216=true)(a:Nat.ble len 16777216=true)(k:St bs L w)(K:∀ b w', St bs (row (.slice (some ⟨b,0,none⟩) len len) e sz len cs :: L) w' -> Gw w0 w' -> WL r P ops Q rest (Fr n ((d,.slice (some ⟨b,0,none⟩) len len) :: s) ds) w') :
 WL r P ops Q (⟨some d,.buildSlice t len ps.toArray,ty,pos,af,g⟩ :: rest) (Fr n s ds) w:=by
 subst j hcs
 have h:(vs.flatMap (·.cells.toList)).length=vs.length*sz:=by
  clear hp c a K
  induction vs with
  | nil=>simp
  | cons v vs m=>simp only[kR,zo,zh,uI,hv v s_,m (fun u l=>hv u (by simp[l])),tK];omega
 refine pv i rfl (NQ hp ht hi ?_ (qv c)) (K _ _ (Ql k e sz _ _ h (by have:=qv a;simp only[maxLen];omega)) (f.alloc _))
 rw[OK sz vs 0 _ hv s_]
 simp
end
def yR(b:Bool)(rc:Loop):Loop:=if b then { rc with state:=.done,pending:=some .ret } else rc
section
variable {P:Program} {ops:Array Oper} {Q:Exit->Act->World->Prop} {rest:List Oper} {n:Nat} {s:List (Nat×Value)} {ds:List Deferred} {w:World}
variable {x:Operand} {l:Nat} {bs:List (World×List Nat)} {L LL:List fT} {i:Nat} {rc:Loop}
theorem Oq{R:Ending->World->Prop}{a:Act}(i:Nat)(b:St bs L w)(hi:L[i]? = some (iw l { rc with state:=.busy }))(c:L.set i (iw l (yR true rc))=LL)(K:∀ w', St bs LL w' -> R (.returned (.bool false)) w'):roundPost P l R .ret a w:=by
 refine⟨_,_,run_endRound (some .ret) (b.yH hi),K _ ?_⟩
 subst c
 exact b.Dc hi _
theorem rfx{f:FuncId}{fi ca:List Value}{ps:List Nat}{a c:Code}{α:Type}(j:α->List fT)(C:α->Prop)(stop:α->Bool)(A:St bs L w)(B:ev n s x = .func (.func f) fi.toArray ca.toArray)(t:xA P f)(h1:∀ fn dd l o rc,rc=(⟨.ready,none,fn,(Fr n s ds).tmps,ps.toArray,a,c,dd⟩:Loop)->St bs (iw l rc :: j6 dd (some []) :: L) o ->
  CR P f (fi++[Value.func (.yield l) #[] #[]]++ca).toArray o (fun _ p=>∃ z,C z/\St bs (iw l (yR (stop z) rc) :: j6 dd (some []) :: j z) p))(q:∀ z dd g,C z->stop z=false->St bs (j6 dd (some []) :: j z) g->Q .normal (Fr n s (⟨.collected dd,#[]⟩ :: ds)) g)(r:∀ z dd g,C z->stop z=true->St bs (j6 dd (some []) :: j z) g->Q .ret (Fr n s (⟨.collected dd,#[]⟩ :: ds)) g):WP none P (.rangeFunc x ps.toArray a c) Q (Fr n s ds) w:=by
 refine wpIn_rangeFunc fun fn _=>?_
 have u:St bs (j6 w.heap.size (some []) :: L) (w.alloc (.deferred (some []))) :=
  A.rU (gx.alloc [] w _) (fun b hb=>by simp[j6]at hb;omega) (by simp[j6]) (fun b hb=>by simp[j6]at hb;simp;omega) (World.alloc_heap_new w _)
 have y:St bs (iw (w.heap.size+1) ⟨.ready,none,fn,(Fr n s ds).tmps,ps.toArray,a,c,w.heap.size⟩ :: j6 w.heap.size (some []) :: L) ((w.alloc (.deferred (some []))).alloc (.loop ⟨.ready,none,fn,(Fr n s ds).tmps,ps.toArray,a,c,w.heap.size⟩)) :=
  u.rU (gx.alloc [] _ _) (fun b hb=>by simp[iw]at hb;simp;omega) (by simp[iw]) (fun b hb=>by simp[iw]at hb;simp;omega) (by have:=World.alloc_heap_new (w.alloc (.deferred (some []))) (.loop ⟨.ready,none,fn,(Fr n s ds).tmps,ps.toArray,a,c,w.heap.size⟩);simpa[iw]using this)
 refine⟨w.heap.size+1,_,_,⟨.fn (.func f) ca.toArray,(fi++[Value.func (.yield (w.heap.size+1)) #[] #[]]).toArray⟩,((w.alloc (.deferred (some []))).alloc (.loop ⟨.ready,none,fn,(Fr n s ds).tmps,ps.toArray,a,c,w.heap.size⟩)),f,(fi++[Value.func (.yield (w.heap.size+1)) #[] #[]]++ca).toArray,((w.alloc (.deferred (some []))).alloc (.loop ⟨.ready,none,fn,(Fr n s ds).tmps,ps.toArray,a,c,w.heap.size⟩)),run_enterLoop_outer fn _ _ _ _,?_,fun _ _=>trivial,?_,fun h=>by simp[FW]at h,?_⟩
 . rw[sV]
   simp only[resolve,rangeCall,Deferred.ofValue,B]
   simp[ev]
 . have:=t ((fi++[Value.func (.yield (w.heap.size+1)) #[] #[]]++ca).toArray) ((w.alloc (.deferred (some []))).alloc (.loop ⟨.ready,none,fn,(Fr n s ds).tmps,ps.toArray,a,c,w.heap.size⟩))
   simp only[invoke]
   simpa using this
 . refine Cu.2 (Calls.mono (h1 fn w.heap.size (w.heap.size+1) _ _ rfl y) ?_)
   rintro e p ⟨v,rfl,z,k,d⟩
   have m:=fun D => (d.Dc (i:=0) rfl D).sub (List.sublist_cons_self _ _)
   cases hz:stop z with
   | false =>
    rw[hz]at d
    refine⟨none,_,run_endLoop (d.yH (i:=0) rfl) (by simp[yR]),?_⟩
    exact q z w.heap.size _ k hz (m _)
   | true =>
    rw[hz]at d
    refine⟨some .ret,_,run_endLoop (d.yH (i:=0) rfl) (by simp[yR]),?_⟩
    exact wpIn_ret (r z w.heap.size _ k hz (m _))
end
section
variable {α:Type} {sz:Nat} {cf:α->List Value} {w w' : World} {v u:Value} {xs:List α} {bs:List (World×List Nat)} {L:List fT} {R:fT}
theorem St.rr{e:TypeId}(h:St bs L w)(i:Nat)(hi:L[i]? = some (fL cf v e sz xs))(a:∀ x:α,(cf x).length=sz:=by exact fun _=>rfl):gY sz cf (fun b=>v.ownBlock=some b) w v xs:=St.yW h hi a
theorem St.oR(h:St bs L w)(i:Nat)(hi:L[i]? = some R):Own R w:=St.QC h hi
theorem St.bc{b o:Nat}{T:TypeId}(h:St bs L w)(i:Nat)(hi:L[i]? = some (blk b T cs))(hv:cs[o]? = some v):w.cell? ⟨b,o,none⟩=some v:=St.tq h hi hv
theorem rO(h:p:=by first|rfl|omega):p:=h
theorem je(h:p:=by rw[kP o_];omega):p:=h
end
section
variable {α:Type} [Inhabited α] {cf:α->List Value} {k:Nat}
theorem OP(a:∀ x:α,(cf x).length=k)(hk:0<k)(d:Array α):(Go.Sort.flatK cf k d).toList=d.toList.flatMap cf:=by
 apply oc
 intro t
 by_cases ht:t<d.size*k
 . have c:t / k<d.size:=(Mh hk).2 ht
   have b:t%k<k:=Ae _ hk
   have h:d.toList[t / k]? = some d[t / k]:=by simp[c]
   have i:(cf d[t / k])[t%k]? = some ((cf d[t / k])[t%k]'(by rw[a];exact b)):=z8 (by rw[a];exact b)
   have e:=vg a d.toList (t / k) (t%k) _ _ h i
   have j:t / k*k+t%k=t:=BU t k
   rw[j]at e
   rw[e]
   have f:=Go.Sort.get_flatK cf k d t ht
   have g:t<(Go.Sort.flatK cf k d).size:=by simpa using ht
   rw[zV,uF g]
   rw[getElem!_pos _ t g]at f
   rw[f,getElem!_pos d _ c,getElem!_pos _ _ (by rw[a];exact b)]
 . rw[rH (by simp;omega),rH (by rw[qY a];simp;omega)]
variable {P:Program} {w:World} {v:Value} {xs:List α} {e:TypeId} {f:FuncId} {fv:Value} {lt:α->α->Bool}
theorem XJ{b:Nat}{cur:Array Value}(h:∀ x:α,(cf x).length=k)(hk:0<k)(d:w.heap[b]? = some (.cells cur e (0,0)))(f:cur.toList.take (xs.length*k)=xs.flatMap cf):Go.Sort.HoldsK cf k w b 0 xs.toArray:=by
 intro j a
 have g : j<xs.length*k:=by simpa using a
 have c:(cur.toList.take (xs.length*k))[j]? = (Go.Sort.flatK cf k xs.toArray).toList[j]? := by rw[f,OP h hk]
 rw[Hz g, zV,zV,uF a]at c
 refine⟨?_,?_⟩
 . simp only[World.cell?,d]
   rw[getElem!_pos _ j a]
   simpa using c
 . simp[World.frozen?,d]
theorem adF(u:∀ x:α,(cf x).length=k)(hk:0<k)(z:Own (fL cf v e k xs) w)(I:xs.length<4611686018427387904)(C:Calls P f #[.slice none 0 0,fv] w fun e w' => e = .returned (.tuple #[])/\w' = w)(F:∀ blk m (d:Array α),Go.Sort.HoldsK cf k w blk 0 d->blk<w.heap.size->d.size<4611686018427387904->Calls P f #[.slice (some ⟨blk,0,none⟩) d.size m,fv] w fun e w' =>
  e = .returned (.tuple #[])/\∃ c n os,Go.Sort.PermIn 0 d.size d c /\ Go.Sort.SortedIn lt 0 d.size c /\ w' = Go.Proofs.sortWorldK cf k w blk 0 n c os) :
 CR P f #[v,fv] w (fun r w' => r = .tuple #[]/\∃ ys:List α,ys.Perm xs/\ys.Pairwise (fun a b=>lt b a=false)/\fV (fL cf v e k xs) w w' (fL cf v e k ys)):=by
 have M:w.ownsRow 0 e k v xs.length (xs.flatMap cf):=z.holds
 rcases M.2 with ⟨rfl,o⟩|⟨g, m,cur,rfl,hb,s,o,D,y,E⟩
 . obtain rfl:xs=[]:=zU.1 o
   refine Calls.mono C ?_
   rintro en w' ⟨rfl,rfl⟩
   exact⟨_,rfl,rfl,[],List.Perm.refl _,List.Pairwise.nil,fV.refl z⟩
 . have A:g < w.heap.size:=(rG.1 s).1
   have hs:=F g m xs.toArray (XJ u hk s E) A (by simpa using I)
   rw[List.size_toArray]at hs
   refine Calls.mono hs ?_
   rintro en w' ⟨rfl,c, n,os,hp,Q,rfl⟩
   have h:c.size=xs.length:=by simpa using hp.1
   have N:c.toList.Perm xs:=by
    have p:=hp.2.2
    have e1:c.extract 0 xs.length=c := by rw[<-h];exact Array.extract_size
    have B:xs.toArray.extract 0 xs.length=xs.toArray:=by rw[show xs.length=xs.toArray.size by simp];exact Array.extract_size
    rwa [e1,B]at p
   have K:(Go.Proofs.sortWorldK cf k w g 0 n c os).heap[g]? = some (.cells (Go.Sort.putCells id 0 (Go.Sort.flatK cf k c) cur) e (0,0)):=by
    simp only[Go.Proofs.sortWorldK,Go.Sort.grow,Go.Sort.putRowK,Go.Sort.putRow,Go.Sort.mapBlock,Go.Sort.ahead]
    rw[L8 (by simpa using A),DP,if_pos rfl,s]
    rfl
   have L:∀ b,b<w.heap.size->b≠g -> (Go.Proofs.sortWorldK cf k w g 0 n c os).heap[b]? = w.heap[b]? := by
    intro b hb J
    simp only[Go.Proofs.sortWorldK,Go.Sort.grow,Go.Sort.putRowK,Go.Sort.putRow,Go.Sort.mapBlock,Go.Sort.ahead]
    rw[L8 (by simpa using hb),DP,if_neg (fun e=>J e.symm)]
   have R:w.heap.size<=(Go.Proofs.sortWorldK cf k w g 0 n c os).heap.size:=by simp[Go.Proofs.sortWorldK,Go.Sort.grow,Go.Sort.putRowK,Go.Sort.putRow,Go.Sort.mapBlock,Go.Sort.ahead]
   have O:(Go.Sort.putCells id 0 (Go.Sort.flatK cf k c) cur).size=cur.size:=by simp[Go.Sort.putCells]
   have S:(Go.Sort.putCells id 0 (Go.Sort.flatK cf k c) cur).toList.take (c.toList.length*k)=c.toList.flatMap cf:=by
    rw[<-OP u hk]
    have U:(Go.Sort.flatK cf k c).size=xs.length*k:=by simp[h]
    have V:xs.length*k<=cur.size:=by rw[y];exact DS _ o
    apply oc
    intro j
    rw[vJ,uI,h]
    split
    . rename_i l
      have H:j<cur.size:=by omega
      have t:j<(Go.Sort.flatK cf k c).size:=by omega
      simp only[Go.Sort.putCells,zV,zdt,mE,true_and,tO,Nat.sub_zero]
      rw[uF H,uF t]
      simp only[Ac]
      rw[if_pos t,getElem!_pos _ j t]
      rfl
    . rename_i l
      rw[rH (by simp;rw[h];omega)]
   refine⟨_,rfl,rfl,c.toList,N,?_,⟨?_,⟨rfl,rfl,rfl,R,fun b hb T=>L b hb (fun e=>T (by simp[row,Value.ownBlock,e]))⟩,fun b q => .inl (by simpa[row,Value.ownBlock]using q),by simp[row,Value.ownBlock],fun b q => ?_⟩⟩
   . rw[vE]
     intro i j hi l G
     have p:=Q i j (mE _) G (by simp at l ⊢;omega)
     simp only[uI]at hi l
     rw[getElem!_pos _ i hi,getElem!_pos _ j l]at p
     simpa using p
   . refine⟨by rw[qY u],.inr ⟨g, m,_,by simp[h],hb,K,by simp[h];exact o,D,by rw[O];exact y,S⟩⟩
   . simp[row,Value.ownBlock]at q
     subst q
     omega
end
section
variable {P:Program} {w:World} {v:Value} {e:TypeId} {f:FuncId} {fv:Value} {m:Nat}
def qX(x:Fin m):Value:=.int .i64 ((x.val:Nat):Int)
theorem Xh(hm:0<m):((List.finRange m).map fun x=>x.val)=List.range m:=by
 apply oc
 grind
theorem Je(xs:List Nat):xs.flatMap fU=xs.map fun x=>Value.int .i64 ((x:Nat):Int):=by
 induction xs with
 | nil=>rfl
 | cons x xs a=>rw[kR,a];rfl
theorem RP{α:Type}[Inhabited α]{enc:α->Value}{blk k b:Nat}{d:Array α}{os:Array Obj}(hb:b<w.heap.size)(a:b≠blk):(Go.Proofs.sortWorld enc w blk 0 k d os).heap[b]? = w.heap[b]? := by
 simp only[Go.Proofs.sortWorld,Go.Sort.grow,Go.Sort.putRow,Go.Sort.mapBlock,Go.Sort.ahead]
 grind
theorem adD(hm:0<m)(lt:Nat->Nat->Bool)(H:Own (fL fU v e 1 (List.range m)) w)(L:m<4611686018427387904)(I:∀ (E:Inhabited (Fin m)) blk k (d:Array (Fin m)),(fL fU v e 1 (List.range m)).gJ=[blk]->Go.Sort.Holds qX w blk 0 d->blk<w.heap.size->d.size<4611686018427387904->Calls P f #[.slice (some ⟨blk,0,none⟩) d.size k,fv] w fun e w' =>
  e = .returned (.tuple #[])/\∃ c n os,Go.Sort.PermIn 0 d.size d c /\ Go.Sort.SortedIn (fun x y:Fin m=>lt x.val y.val) 0 d.size c /\ w' = Go.Proofs.sortWorld qX w blk 0 n c os) :
 CR P f #[v,fv] w (fun r w' => r = .tuple #[]/\∃ ys:List Nat,ys.Perm (List.range m)/\ys.Pairwise (fun a b=>lt b a=false)/\fV (fL fU v e 1 (List.range m)) w w' (fL fU v e 1 ys)):=by
 have O:w.ownsRow 0 e 1 v (List.range m).length ((List.range m).flatMap fU):=H.holds
 rcases O.2 with ⟨rfl,h⟩|⟨g, k,cur,rfl,hb,p,h,F,s,B⟩
 . rw[mQ]at h;omega
 . have C:g < w.heap.size:=(rG.1 p).1
   let E:Inhabited (Fin m):=⟨⟨0,hm⟩⟩
   have u:(List.finRange m).toArray.size=m:=by simp
   rw[mQ,qO]at B
   rw[mQ]at h
   rw[qO]at s
   have G:Go.Sort.Holds qX w g 0 (List.finRange m).toArray:=by
    intro j q
    have D : j<m:=by simpa using q
    have t:(cur.toList.take m)[j]? = ((List.range m).flatMap fU)[j]? := by rw[B]
    rw[Hz D, Je,oK,rF D, zV]at t
    refine⟨?_,?_⟩
    . simp only[World.cell?,p,tO]
      grind [qX]
    . simp[World.frozen?,p]
   have hs:=I E g k (List.finRange m).toArray (by simp[fL,row,Value.ownBlock]) G C (by rw[u];exact L)
   rw[u]at hs
   rw[mQ]
   refine Calls.mono hs ?_
   rintro en w' ⟨rfl,c, n,os,hp,S,rfl⟩
   have o:c.size=m:=by rw[hp.1];exact u
   have Q:(c.toList.map fun x=>x.val).Perm (List.range m):=by
    have t:=hp.2.2
    have e1:c.extract 0 m=c := (congrArg (fun z=>c.extract 0 z) o.symm).trans Array.extract_size
    grind [Xh]
   have M:(Go.Proofs.sortWorld qX w g 0 n c os).heap[g]? = some (.cells (Go.Sort.putCells qX 0 c cur) e (0,0)):=by
    simp only[Go.Proofs.sortWorld,Go.Sort.grow,Go.Sort.putRow,Go.Sort.mapBlock,Go.Sort.ahead]
    rw[L8 (by simpa using C),DP,if_pos rfl,p]
    rfl
   have N:∀ b,b<w.heap.size->b≠g -> (Go.Proofs.sortWorld qX w g 0 n c os).heap[b]? = w.heap[b]? := by
    intro b hb X
    simp only[Go.Proofs.sortWorld,Go.Sort.grow,Go.Sort.putRow,Go.Sort.mapBlock,Go.Sort.ahead]
    grind
   have T:w.heap.size<=(Go.Proofs.sortWorld qX w g 0 n c os).heap.size:=by simp[Go.Proofs.sortWorld,Go.Sort.grow,Go.Sort.putRow,Go.Sort.mapBlock,Go.Sort.ahead]
   have R:(Go.Sort.putCells qX 0 c cur).size=cur.size:=by simp[Go.Sort.putCells]
   have U:(Go.Sort.putCells qX 0 c cur).toList.take ((c.toList.map fun x=>x.val).length*1)=(c.toList.map fun x=>x.val).flatMap fU:=by
    rw[Je]
    have W:m<=cur.size:=by rw[s];exact h
    apply oc
    intro j
    rw[vJ]
    simp only[zu,uI,o,qO]
    split
    . rename_i q
      have K:j<cur.size:=by omega
      have A:j<c.size:=by omega
      simp only[Go.Sort.putCells,zV,zdt,mE,true_and,tO,Nat.sub_zero,oK]
      rw[uF K,uF A]
      simp only[Ac]
      rw[if_pos A,getElem!_pos _ j A]
      rfl
    . grind
   refine⟨_,rfl,rfl,c.toList.map fun x=>x.val,Q,?_,⟨?_,⟨rfl,rfl,rfl,T,fun b hb V=>N b hb (fun e=>V (by simp[row,fL,Value.ownBlock,e]))⟩,fun b l => .inl (by simpa[row,fL,Value.ownBlock]using l),by simp[row,fL,Value.ownBlock],fun b l => ?_⟩⟩
   . rw[vE]
     intro i j hi q J
     have t:=S i j (mE _) J (by simp at q ⊢;omega)
     grind
   . refine⟨by rw[Je];simp,.inr ⟨g, k,_,by simp[o],hb,M,by simp[o];exact h,F,by rw[R];simpa using s,U⟩⟩
   . simp[row,fL,Value.ownBlock]at l
     subst l
     omega
end
section
variable {bs:List (World×List Nat)} {L:List fT} {w w0:World} {R:fT}
theorem St.aaN{T:TypeId}(h:St bs (R :: blk n T cs :: L) w):n∉R.gJ:=fun hm=>by
 have a:=h.sep
 rw[nw,zr]at a
 exact a.2.2 n hm n (by rw[nw];simp[blk]) rfl
theorem St.XU{T:TypeId}(h:St bs (R :: blk n T cs :: L) w):n<w.heap.size:=h.lt n (by rw[nw,nw];simp[blk])
theorem St.ab4{α:Type}{cf:α->List Value}{sz:Nat}{ok:Nat->Prop}{v:Value}{xs:List α}(h:St bs (R :: L) w)(hb:(w0,[])∈bs)(hp:0<sz)(c:gY sz cf ok w0 v xs):gY sz cf (fun b=>b∉R.gJ) w v xs :=
 Sl.mono (St.De h hb hp (Sl.old c hp)) fun b d hm=>by
  rcases(h.base _ hb).mine b (by rw[nw];simp[hm])with a|a
  . cases a
  . have e:b<w0.heap.size:=d.2
    have f:w0.heap.size<=b:=a
    omega
end
theorem St.under{e:List (World×List Nat)}{L:List fT}{wl g:World}{X:List Nat}(i:St e L0 wl)(k:(w,[])∈e)(j:∀ b∈X,b∈iZ L0)(h:St bs L g)(hb:(wl,X)∈bs):St ((w,[]) :: bs) L g:=by
 have a:=i.base _ k
 have c:=h.base _ hb
 have f:∀ b∈X,w.heap.size<=b:=fun b hb=>(a.mine b (j b hb)).elim (fun h=>absurd h s_) id
 refine⟨fun p hp=>?_,h.own,h.sep,h.lt⟩
 rcases zg.1 hp with rfl|hp
 . refine⟨⟨c.gA.os.trans a.gA.os,c.gA.tape.trans a.gA.tape,c.gA.output.trans a.gA.output,mF a.gA.size c.gA.size,fun b d l=>?_⟩,fun b hb=>?_⟩
   . exact(c.gA.block b (oJ d a.gA.size) (fun hb=>absurd (f b hb) (Nat.not_le.2 d))).trans (a.gA.block b d l)
   . rcases c.mine b hb with h|h
     . exact .inr (f b h)
     . exact .inr (mF a.gA.size h)
 . exact h.base p hp
theorem St.Wv{L:List fT}{p:World×List Nat}(h:St (p :: bs) L w):St bs L w :=
 ⟨fun q a=>h.base q (zw _ a),h.own,h.sep,h.lt⟩
theorem St.aaW{R:fT}{L:List fT}{w0 w1:World}(h:St bs (R :: L) w1)(hb:(w0,[])∈bs){b:Nat}(a:b<w0.heap.size):b∉R.gJ:=fun hm =>
 ((h.base _ hb).mine b (by rw[nw];exact zn.2 (.inl hm))).elim (fun h=>absurd h s_) (fun h=>absurd a (Nat.not_lt.2 h))
section
variable {P:Program} {T:TT P} {bs:List (World×List Nat)} {L:List fT} {ops:Array Oper} {n d:Nat} {s:List (Nat×Value)} {ds:List Deferred} {w w0:World} {t ty:TypeId} {pos:String} {af:Array Edge} {g:Option (Nat×Bool)} {x:Operand} {v:Value}
theorem Rk.JN{α:Type}{cf:α->List Value}{xs:List α}{e':TypeId}{q sz off:Nat}{ud:TypeDesc}(h:St bs L w:=by assumption)(f:ev n s x=lg sz u k off:=by exact rfl)(a:jh T.u t=some ud:=by exact rfl)(e:kC ud=false:=by exact rfl)(hi:L[q]? = some (fL cf u e' sz xs):=by first|exact rV|exact rW|exact oq|exact ot|exact rX|exact rY|exact rZ|exact r0)(i:Inhabited α:=by infer_instance)(c:∀ x:α,(cf x).length=sz:=by exact fun _=>rfl)(hk:k<xs.length:=by first|omega|(simp only[gB];omega))(hv:(cf (fJ xs k))[off]? = some v:=by exact rfl)(b:look s d=v:=by exact rfl):qH P ops ⟨some d,.load t x,ty,pos,af,g⟩ (Fr n s ds) w:=qo (CN f (lM T.lY a) e (St.yW h hi c) (gz hk) hv) rfl b
theorem Rk.ld{b o:Nat}{a:TypeId}{ud:TypeDesc}(h:St bs L w:=by assumption)(j:ev n s x = .pointer (some ⟨b,o,none⟩):=by exact rfl)(c:jh T.u t=some ud:=by exact rfl)(f:kC ud=false:=by exact rfl)(hi:L[i]? = some (blk b a cs):=by first|exact rV|exact rW|exact oq|exact ot|exact rX|exact rY|exact rZ|exact r0)(hv:cs[o]? = some v:=by exact rfl)(e:look s d=v:=by exact rfl):qH P ops ⟨some d,.load t x,ty,pos,af,g⟩ (Fr n s ds) w:=qo (wJ j (lM T.lY c) f (h.tq hi hv)) rfl e
theorem Rk.jk{α:Type}{cf:α->List Value}{xs:List α}{ok:Nat->Prop}{c:α}{sz off:Nat}{ud:TypeDesc}(h:St bs L w:=by assumption)(f:ev n s x=lg sz u k off:=by exact rfl)(a:jh T.u t=some ud:=by exact rfl)(e:kC ud=false:=by exact rfl)(hi:gY sz cf ok w0 u xs:=by assumption)(hb:(w0,[])∈bs:=by simp)(i:0<sz:=by decide)(hk:xs[k]? = some c:=by first|assumption|exact rfl|exact gz (by first|omega|(simp only[gB];omega)))(hv:(cf c)[off]? = some v:=by exact rfl)(b:look s d=v:=by exact rfl):qH P ops ⟨some d,.load t x,ty,pos,af,g⟩ (Fr n s ds) w:=qo (CN f (lM T.lY a) e (St.De h hb i hi) hk hv) rfl b
theorem Rk.wF{b o sz by_:Nat}{k:Value}{a:TypeId}{vs:List Value}{ud:TypeDesc}(h:St bs L w:=by assumption)(j:ev n s x = .pointer (some ⟨b,o,none⟩):=by exact rfl)(c:jh T.u t=some ud:=by exact rfl)(f:kC ud=true:=by exact rfl)(ht:jh T.i t=some (sz,by_,k):=by exact rfl)(hi:L[i]? = some (blk b a cs):=by first|exact rV|exact rW|exact oq|exact ot|exact rX|exact rY|exact rZ|exact r0)(hv:sub' cs o sz=some vs:=by exact rfl)(e:look s d = .agg vs.toArray:=by exact rfl):qH P ops ⟨some d,.load t x,ty,pos,af,g⟩ (Fr n s ds) w:=qo (wG j (lM T.lY c) f (ny T.nO ht) (wZ hv) (h.It hi (zA hv))) rfl e
theorem oE(h:p:=by first|exact Rk.JN|exact Rk.ld|exact Rk.Pu|exact Rk.Pz|exact Rk.PB|exact Rk.jk|exact Rk.wF|exact Rk.PA|exact Rk.Pv|exact Rk.PC|exact Rk.Py|exact Rk.Pw):p:=h
theorem jZ{M:Act->World->Prop}{c:List Nat}(h:M (Fr n s ds) w)(hc:jD P ops c (Fr n s ds) w:=by repeat (first|exact trivial|refine kZ rfl oE ?_)):Exit.then (fun a w=>jD P ops c a w/\M a w) Q .normal (Fr n s ds) w:=⟨hc,h⟩
theorem nF{r:Option Nat}{b:List Oper}{M:Act->World->Prop}{c:List Nat}(h:M (Fr n s ds) w)(d:b=[]:=by exact rfl)(hc:jD P ops c (Fr n s ds) w:=by repeat (first|exact trivial|refine kZ rfl oE ?_)):WL r P ops (Exit.then (fun a w=>jD P ops c a w/\M a w) Q) b (Fr n s ds) w:=by
 subst d
 exact⟨hc,h⟩
end
section
variable {r:Option Nat} {P:Program} {ops:Array Oper} {Q:Exit->Act->World->Prop} {rest:List Oper} {n:Nat} {s:List (Nat×Value)} {ds:List Deferred} {w w' : World}
variable {bs:List (World×List Nat)} {L L' : List fT} {t ty:TypeId} {pos:String} {af:Array Edge} {g:Option (Nat×Bool)} {x y:Operand} {u v z:Value} {vs cs:List Value} {d sz szt by_:Nat}
theorem Cy(h:p:=by first|exact NU|exact NT|exact NV|exact NW|exact NS|exact cNilF|exact cMap|exact rfl):p:=h
theorem iQ[T:TT P]{α:Type}[Inhabited α]{cf:α->List Value}{ys:List α}{e:TypeId}{k off:Nat}(f:α->α)(i:Nat)(j:St bs L w)(K:∀ w', St bs L' w' -> WL r P ops Q rest (Fr n s ds) w')
 (m:ev n s x=lg sz v k off:=by exact rfl) (o:ev n s y=u:=by first|((conv=>lhs;whnf);done)|exact rfl) (hvs:u.cells.toList=vs:=by exact Cy) (ht:jh T.i t=some (szt,by_,z):=by exact rfl) (l:vs.length=szt:=by exact rfl) (h1:vs.all (·.oneCell')=true:=by exact rfl)
 (hi:L[i]? = some (fL cf v e sz ys):=by exact rfl) (d:∀ x:α,(cf x).length=sz:=by exact fun _=>rfl) (hk:k<ys.length:=by first|omega|(simp only[gB];omega)) (h:Nat.ble (off+vs.length) sz=true:=by exact rfl)
 (b:cf (f (fJ ys k))=setAt (cf (fJ ys k)) off vs:=by exact rfl) (a:L.set i (fL cf v e sz (fO ys k f))=L' := by first|(dsimp only[List.set];exact rfl)|exact rfl) (c:gI ops n s g=true:=by exact rfl) :
 WL r P ops Q (⟨none,.store t x y,ty,pos,af,g⟩ :: rest) (Fr n s ds) w:=adN i c m o hvs (ny T.nO ht) l h1 j hi d hk h b a K
theorem j8[T:TT P]{α:Type}[Inhabited α]{cf:α->List Value}{ys:List α}{a:TypeId}{b k off:Nat}(f:α->α)(i:Nat)(l:St bs L w)(K:∀ w', St bs L' w' -> gx [b] w w' -> WL r P ops Q rest (Fr n s ds) w')
 (o:ev n s x = .pointer (some ⟨b,k*sz+off,none⟩):=by exact rfl) (p:ev n s y=u:=by first|((conv=>lhs;whnf);done)|exact rfl) (hvs:u.cells.toList=vs:=by exact Cy) (ht:jh T.i t=some (szt,by_,z):=by exact rfl) (m:vs.length=szt:=by exact rfl) (h1:vs.all (·.oneCell')=true:=by exact rfl)
 (hi:L[i]? = some (blk b a (ys.flatMap cf)):=by exact rfl) (c:∀ x:α,(cf x).length=sz:=by exact fun _=>rfl) (hk:k<ys.length:=by first|omega|(simp only[gB];omega)) (d:Nat.ble (off+vs.length) sz=true:=by exact rfl)
 (h:cf (f (fJ ys k))=setAt (cf (fJ ys k)) off vs:=by exact rfl) (e:L.set i (blk b a ((fO ys k f).flatMap cf))=L' := by first|(dsimp only[List.set];exact rfl)|exact rfl) (j:gI ops n s g=true:=by exact rfl) :
 WL r P ops Q (⟨none,.store t x y,ty,pos,af,g⟩ :: rest) (Fr n s ds) w:=Gz i j o p hvs (ny T.nO ht) m h1 l hi (KA c hk (qv d)) (Gc c hk h (qv d)) e K
theorem jt[T:TT P]{cs' : List Value}{a:TypeId}{b o:Nat}(i:Nat)(f:St bs L w)(K:∀ w', St bs L' w' -> WL r P ops Q rest (Fr n s ds) w')
 (j:ev n s x = .pointer (some ⟨b,o,none⟩):=by exact rfl) (k:ev n s y=u:=by first|((conv=>lhs;whnf);done)|exact rfl) (hvs:u.cells.toList=vs:=by exact Cy) (ht:jh T.i t=some (szt,by_,z):=by exact rfl) (h:vs.length=szt:=by exact rfl) (h1:vs.all (·.oneCell')=true:=by exact rfl)
 (hi:L[i]? = some (blk b a cs):=by exact rfl) (d:Nat.ble (o+vs.length) cs.length=true:=by exact rfl) (hcs:setAt cs o vs=cs' := by dsimp only[setAt,List.take,List.drop,List.length,List.append,HAppend.hAppend,Append.append]<;>exact rfl)
 (c:L.set i (blk b a cs')=L' := by first|(dsimp only[List.set];exact rfl)|exact rfl) (e:gI ops n s g=true:=by exact rfl) :
 WL r P ops Q (⟨none,.store t x y,ty,pos,af,g⟩ :: rest) (Fr n s ds) w:=Gy i e j k hvs (ny T.nO ht) h h1 f hi d hcs c K
theorem ir(c:St bs L w)(K:∀ b w', w.heap.size<=b->gx [] w w' -> St bs (blk b t cs :: L) w' -> WL r P ops Q rest (Fr n ((d,.pointer (some ⟨b,0,none⟩)) :: s) ds) w')
 (e:ev n s x=v:=by first|((conv=>lhs;whnf);done)|exact rfl) (hcs:v.cells.toList=cs:=by exact Cy) (a:gI ops n s g=true:=by exact rfl):WL r P ops Q (⟨some d,.box t x,ty,pos,af,g⟩ :: rest) (Fr n s ds) w:=bx a e hcs c K
theorem iR[T:TT P](c:St bs L w)(K:∀ b w', w.heap.size<=b->gx [] w w' -> St bs (blk b t cs :: L) w' -> WL r P ops Q rest (Fr n ((d,.pointer (some ⟨b,0,none⟩)) :: s) ds) w')
 (ht:jh T.i t=some (sz,by_,z):=by exact rfl) (hcs:z.cells.toList=cs:=by exact Cy) (a:gI ops n s g=true:=by exact rfl):WL r P ops Q (⟨some d,.alloc t,ty,pos,af,g⟩ :: rest) (Fr n s ds) w:=al a (ny T.nO ht) hcs c K
end
structure oe where
 f:Nat
 d:Nat
 b:List (Nat×Value):=[]
 X:List fT:=[]
 Γ:Type:=Nat
 val:Γ->Value
 R:Γ->List fT
abbrev kK := Σ m:oe,m.Γ
def kK.sl(e:kK):Nat×Value:=(e.1.d,e.1.val e.2)
def kK.R(e:kK):List fT:=e.1.R e.2
def sU:List oe->(List (Nat×Value)->List fT->Prop)->List (Nat×Value)->List fT->Prop
 | [],K,s,R=>K s R
 | m :: l,K,s,R=>∀ g:m.Γ,sU l K ((m.d,m.val g) :: s) (m.R g++R)
theorem OM{K:List (Nat×Value)->List fT->Prop}:∀ (E:List kK) (s:List (Nat×Value)) (R:List fT),sU (E.map (·.1)) K s R->K ((E.map kK.sl).reverse++s) (E.reverse.flatMap kK.R++R)
 | [],s,R,h=>h
 | e :: E,s,R,h=>by
  have:=OM E _ _ (h e.2)
  simpa[kK.sl,kK.R]using this
theorem YM{α β:Type _}{f:α->β}{l1 j:List β}(h:l1.Perm j):∀ l:List α,l.map f=l1->∃ E:List α,E.Perm l/\E.map f=j:=by
 induction h with
 | nil=>intro l e;exact⟨l,.refl _,e⟩
 | cons x _ n =>
  intro l e
  obtain⟨y,l', rfl,rfl,c⟩:=L7.1 e
  obtain⟨E,d,g⟩:=n l' c
  exact⟨y :: E,d.cons y,by rw[l9,g]⟩
 | swap x y q =>
  intro l e
  obtain⟨a,l', rfl,rfl,c⟩:=L7.1 e
  obtain⟨b,i, rfl,rfl,rfl⟩:=L7.1 c
  exact⟨b :: a :: i, List.Perm.swap a b i, rfl⟩
 | trans _ _ o p =>
  intro l e
  obtain⟨E,d,g⟩:=o l e
  obtain⟨F,k,m⟩:=p E g
  exact⟨F,k.trans d,m⟩
theorem Y6{l1 a:List (Nat×Value)}(h:l1.Perm a):(l1.map (·.1)).Nodup->∀ s t,look (l1++s) t=look (a++s) t:=by
 induction h with
 | nil=>intro _ s t;rfl
 | cons p _ c =>
  grind [ug]
 | swap p q l =>
  grind [ug]
 | trans b _ d e =>
  grind
theorem A8{l:List (Nat×Value)}{t:Nat}:look (l++s) t=if t∈l.map (·.1)then look l t else look s t:=by
 induction l with
 | nil=>rfl
 | cons p l a =>
  grind [ug]
theorem Y5{l:List (Nat×Value)}{p:Nat×Value}(a:(l.map (·.1)).Nodup)(h:p∈l):look l p.1=p.2:=by
 induction l with
 | nil=>cases h
 | cons q l b =>
  grind [ug]
section
variable {r:Option Nat} {P:Program} {l:List Oper} {ops:Array Oper} {Q:Exit->Act->World->Prop} {n:Nat} {ds:List Deferred} {s0:List (Nat×Value)} {bs:List (World×List Nat)} {L0:List fT} {w:World} {y:Oper} {a:Act} {K:Act->World->Prop}
def cx (e : Nat) (u : Value) : Oper := ⟨some e, .move (.const u), 0, "", #[], none⟩
theorem Oh{e:Nat}:Y0 P ops (cx e u) u a:=.inl ⟨rfl,rfl,fun w=>rfl⟩
def tf(ops:Array Oper)(e:Nat)(y:Oper):Bool := !(y.looksAt ops).contains e && !(y.dst==some e)
theorem abQ{e:Nat}(b:tf ops e y=true)(hs:rj y.op=true)(hd:qE y.op=true)(hc:cat y.op=2\/cat y.op=3)(f:cat y.op=2->NP Q)(h:ku r P Q y K a w) :
 ku r P Q y (fun a' w' => ∃ a0,a' = a0.put (some e) u/\K a0 w') (a.put (some e) u) w:=by
 simp only[tf,nq,Aa,DQ,decide_eq_false_iff_not,beq_eq_false_iff_ne]at b
 have c:Ap ops (cx e u) y:=⟨fun d hd=>by cases hd;exact b.1,fun d hd=>by cases hd;exact b.2,fun d _=>by simp[cx,Oper.looksAt,Op.operands],rfl,hs,rfl,hd⟩
 exact c.back f hc Oh (h.mono fun a' w' g=>iA.mk (.inl Oh) ⟨a', rfl,g⟩)
def qn(l:List (Nat×Value))(a:Act):Act:=l.foldr (fun p a=>a.put (some p.1) p.2) a
theorem Q9{s:List (Nat×Value)}:∀ l,qn l (Fr n s ds)=Fr n (l++s) ds
 | []=>rfl
 | p :: l=>by
  show (qn l (Fr n s ds)).put (some p.1) p.2=_
  rw[Q9 l,uN]
  rfl
theorem Ra(hs:rj y.op=true)(hd:qE y.op=true)(hc:cat y.op=2\/cat y.op=3)(b:cat y.op=2->NP Q):∀ (l:List (Nat×Value)) (K:Act->World->Prop),(∀ p∈l,tf ops p.1 y=true)->ku r P Q y K a w->ku r P Q y (fun a' w' => ∃ a0,a' = qn l a0/\K a0 w') (qn l a) w
 | [],K,_,h=>h.mono fun a w h=>⟨a,rfl,h⟩
 | p :: l,K,hl,h=>(abQ (hl p zd) hs hd hc b (Ra hs hd hc b l K (fun q c=>hl q (zw _ c)) h)).mono fun a w ⟨a0,e,a1,e1,h⟩=>⟨a1,by rw[e,e1];rfl,h⟩
theorem Rb{c:List Nat}:∀ (l:List (Nat×Value)),(∀ p∈l,∀ k∈c,∀ o,ops[k]? = some o->tf ops p.1 o=true/\rj o.op=true)->jD P ops c a w->jD P ops c (qn l a) w
 | [],_,h=>h
 | p :: l,hl,h=>by
  refine(jD.put (x:=cx p.1 p.2) (v:=p.2) fun k f o g=>?_).2 (Rb l (fun q i=>hl q (zw _ i)) h)
  have e:=hl p zd k f o g
  have b:=e.1
  simp only[tf,nq,Aa,DQ,decide_eq_false_iff_not,beq_eq_false_iff_ne]at b
  exact⟨fun d hd=>by cases hd;exact b.1,fun d hd=>by cases hd;exact b.2,e.2⟩
def Io(ops:Array Oper)(D c:List Nat)(m:oe)(y:Oper):Bool:=y.dst==some m.d&&rj y.op&&qE y.op && !Nat.ble (cat y.op) 1 &&
 D.all fun e=>e==m.d||m.b.any (fun p=>p.1==e)||tf ops e y&&c.all fun k=>match ops[k]? with|some o=>tf ops e o&&rj o.op|none=>true
structure D8 (G:World->Prop) (r:Option Nat) (P:Program) (ops:Array Oper) (Q:Exit->Act->World->Prop) (n:Nat) (ds:List Deferred) (s0:List (Nat×Value)) (bs:List (World×List Nat)) (L0:List fT) (pre:List (List Nat)) (C:Nat->List Nat) (j4:List oe) (m:oe):Prop where
 o:∃ y,ops[m.f]? = some y/\Io ops (j4.map (·.d)) (C m.f) m y=true/\gI ops n (m.b++s0) y.guard=true
 run:∀ (Z:List fT) (w:World),St bs (m.X++(L0++Z)) w->G w->lP r P ops Q (m.f,C m.f) (fun a' w' => ∃ g,a' = Fr n ((m.d,m.val g) :: (m.b++s0)) ds/\St bs (m.R g++(L0++Z)) w' /\ G w') (Fr n (m.b++s0) ds) w
 dep:∀ p∈m.b,∃ m' ∈ j4,m'.d=p.1/\(∀ g,m'.val g=p.2)/\(pre.getD m.f []).contains m'.f=true
theorem Y4{l:List (Nat×Value)}{t:Nat}(h:t∈l.map (·.1)):∃ p∈l,p.1=t/\look l t=p.2:=by
 induction l with
 | nil=>cases h
 | cons q l a =>
  grind [ug]
theorem Y3{q:Nat->Bool}{l:List (Nat×Value)}{t:Nat}(h:q t=true):look (l.filter (fun p=>q p.1)++s) t=look (l++s) t:=by
 induction l with
 | nil=>rfl
 | cons p l a =>
  grind [ug]
theorem afu{C:Nat->List Nat}{pre:List (List Nat)}{I1:List (Nat×List Nat)}(j4:List oe)(T:(j4.map (·.d)).Nodup)(am:(j4.map (·.f)).Nodup)(hN:NP Q){G:World->Prop}(hO:∀ m∈j4,D8 G r P ops Q n ds s0 bs L0 pre C j4 m)(ai:sU j4 (fun s R=>∀ w,St bs R w->G w->uC r P ops Q I1 (Fr n s ds) w) s0 L0) :
 ∀ (rem:List oe) (done:List kK) (w:World),(done.map (·.1)++rem).Perm j4->St bs (done.flatMap kK.R++(rem.flatMap (·.X)++L0)) w->G w->WA r P ops Q C pre I1 rem.length (rem.map (·.f)) (Fr n (done.map kK.sl++s0) ds) w:=by
 intro rem
 induction hk:rem.length generalizing rem with
 | zero =>
  intro done w hp U O
  obtain rfl:=vD hk
  rw[rJ]at hp
  obtain⟨E,hE,rfl⟩:=YM hp done rfl
  have c:=OM E s0 L0 ai w (St.perm U (by simpa using((((HF E).trans hE).symm).flatMap_right kK.R).append_right L0)) O
  unfold WA
  have hs:(done.map kK.sl).Perm (E.map kK.sl).reverse:=(hE.symm.map _).trans (HF _).symm
  rw[Eg ds (Y6 hs ?_ s0)]
  . exact c
  . have u:((done.map kK.sl).map (·.1))=(done.map (·.1)).map (·.d):=by rw[xw,xw];rfl
    rw[u]
    exact(hp.map (·.d)).nodup_iff.2 T
 | succ k F =>
  intro done w hp U O
  unfold WA
  intro f ⟨hf,hmin⟩
  obtain⟨m,hm,rfl⟩:=zq.1 hf
  obtain⟨j,A2,hA⟩:=vI hm
  subst hA
  have ak:m∈j4:=hp.subset (vG _ hm)
  obtain⟨⟨y,hy,Z,ar⟩,aq,af⟩:=hO m ak
  have av:((done.map kK.sl).map (·.1)).Nodup:=by
   have u:((done.map kK.sl).map (·.1))=(done.map (·.1)).map (·.d):=by rw[xw,xw];rfl
   have c:=(hp.map (·.d)).nodup_iff.2 T
   rw[nt]at c
   rw[u]
   exact(zr.1 c).1
  have aw:m.d∉(done.map kK.sl).map (·.1):=fun h=>by
   have c:=(hp.map (·.d)).nodup_iff.2 T
   rw[nt]at c
   obtain⟨q,z,e⟩:=zq.1 h
   obtain⟨e', ag, rfl⟩:=zq.1 z
   exact(zr.1 c).2.2 m.d (zq.2 ⟨e'.1,zq.2 ⟨e', ag, rfl⟩,e⟩) m.d (zq.2 ⟨m,hm,rfl⟩) rfl
  have ad:((j++m :: A2).map (·.f)).Nodup:=by
   have c:=(hp.map (·.f)).nodup_iff.2 am
   rw[nt]at c
   exact(zr.1 c).2.1
  have ah:((j++m :: A2).map (·.f)).filter (fun g => !(g==m.f))=(j++A2).map (·.f):=by
   rw[nt,l9]at ad ⊢
   have c:=zr.1 ad
   have u:=zz.1 c.2.1
   rw[zT,tL]
   simp only[BEq.rfl,Bool.not_true,HB,if_false,nt]
   rw[qN.2 (fun x A=>by
    have:=c.2.2 x A m.f zd
    simpa using this),qN.2 (fun x A=>by
    have:x≠m.f:=fun e=>u.1 (e▸A)
    simpa using this)]
  -- the slots,those that it looks at apart
  obtain⟨lo,J⟩:∃ lo,(done.map kK.sl).filter (fun p => !(m.b.map (·.1)).contains p.1)=lo:=⟨_,rfl⟩
  have ab:Fr n (done.map kK.sl++s0) ds=qn lo (Fr n (m.b++s0) ds):=by
   rw[Q9]
   refine Eg ds fun t=>?_
   by_cases ht:t∈m.b.map (·.1)
   . obtain⟨p,K,D,ao⟩:=Y4 ht
     obtain⟨V, aj, e1,L,H⟩:=af p K
     have hd:V ∈ done.map (·.1):=(zn.1 (hp.symm.subset aj)).resolve_right fun h=>by
      rw[hmin V.f (zq.2 ⟨V, h,rfl⟩)]at H
      cases H
     obtain⟨e,B,rfl⟩:=zq.1 hd
     have v:(p.1,p.2)∈done.map kK.sl:=zq.2 ⟨e,B,by rw[<-e1,<-L e.2];rfl⟩
     rw[A8,if_pos (zq.2 ⟨_,v,D⟩),<-D,Y5 av v]
     rw[A8,if_neg fun h=>?_,A8,if_pos (by rw[D];exact ht),D,ao]
     rw[<-J]at h
     obtain⟨q,z,M⟩:=zq.1 h
     have Y:=(zy.1 z).2
     rw[M,D,Aa,DQ]at Y
     exact of_decide_eq_false Y ht
   . rw[<-J,Y3 (q:=fun i => !(m.b.map (·.1)).contains i) (by simpa using ht),A8,A8 (l:=done.map kK.sl)]
     split
     . rfl
     . rw[A8,if_neg ht]
  simp only[Io,nq]at Z
  obtain⟨⟨⟨⟨aa,an⟩,al⟩,I⟩,ae⟩:=Z
  have aa:y.dst=some m.d:=by simpa using aa
  have hc:cat y.op=2\/cat y.op=3:=by
   rcases E3 y.op with e|e|e|e
   . rw[e]at I;cases I
   . rw[e]at I;cases I
   . exact .inl e
   . exact .inr e
  have S:∀ p∈lo,tf ops p.1 y=true/\∀ k∈C m.f,∀ o,ops[k]? = some o->tf ops p.1 o=true/\rj o.op=true:=fun p K=>by
   rw[<-J]at K
   have c:=zy.1 K
   have hD:p.1∈j4.map (·.d):=by
    obtain⟨e,B,rfl⟩:=zq.1 c.1
    exact zq.2 ⟨e.1,hp.subset (sN _ (zq.2 ⟨e,B,rfl⟩)),rfl⟩
   have u:=z6.1 ae p.1 hD
   rcases BQ.1 u with N|N
   . grind
   . grind
  have ap:(done.flatMap kK.R++((j++m :: A2).flatMap (·.X)++L0)).Perm (m.X++(L0++(done.flatMap kK.R++(j++A2).flatMap (·.X)))):=by
   simp only[List.flatMap_append,kR,z7]
   refine List.Perm.trans ?_ ((List.Perm.refl m.X).append (qM (l₁:=done.flatMap kK.R++(j.flatMap (·.X)++A2.flatMap (·.X))) (l₂:=L0)))
   simp only[z7]
   refine List.Perm.trans ?_ (List.perm_append_comm_assoc _ _ _)
   exact(List.Perm.refl _).append (List.perm_append_comm_assoc _ _ _)
  have c:=aq _ w (St.perm U ap) O
  have ac:wn ops y (Fr n (m.b++s0) ds)=true:=by unfold wn;rw[By,ar]
  unfold lP at c
  simp only[hy]at c
  unfold iA at c
  rw[if_pos ac]at c
  have u:=Ra an al hc (fun _=>hN) lo _ (fun p hp=>(S p hp).1) c
  rw[ah,ab]
  unfold lP
  simp only[hy]
  unfold iA
  have au:wn ops y (qn lo (Fr n (m.b++s0) ds))=true:=by
   have:∀ (l:List (Nat×Value)) (a:Act),(∀ p∈l,tf ops p.1 y=true)->wn ops y (qn l a)=wn ops y a:=fun l a=>by
    induction l with
    | nil=>intro _;rfl
    | cons p l F =>
     intro v
     have A:=v p zd
     simp only[tf,nq,Aa,DQ,decide_eq_false_iff_not,beq_eq_false_iff_ne]at A
     rw[<-F fun q z=>v q (zw _ z)]
     show wn ops y ((qn l a).put (some p.1) p.2)=_
     unfold wn
     rw[wanted_put y _ (some p.1) p.2 fun d hd=>by cases hd;exact A.1]
   rw[this lo _ fun p hp=>(S p hp).1,ac]
  rw[if_pos au]
  refine u.mono fun a' w' ⟨a0,W,N,g,e1,h4,h5⟩=>?_
  subst e1
  refine⟨by rw[W];exact Rb lo (fun p hp=>(S p hp).2) N,?_⟩
  have L:a' = Fr n (((⟨m,g⟩:kK) :: done).map kK.sl++s0) ds:=by
   have H:Fr n ((m.d,m.val g) :: (m.b++s0)) ds=(Fr n (m.b++s0) ds).put (some m.d) (m.val g):=(uN n _ ds _ _).symm
   have e4:Fr n (((⟨m,g⟩:kK) :: done).map kK.sl++s0) ds=(qn lo (Fr n (m.b++s0) ds)).put (some m.d) (m.val g):=by rw[<-ab,uN];rfl
   have:∀ (l:List (Nat×Value)) (a:Act),m.d∉l.map (·.1)->qn l (a.put (some m.d) (m.val g))=(qn l a).put (some m.d) (m.val g):=fun l a=>by
    induction l with
    | nil=>intro _;rfl
    | cons p l F =>
     intro v
     simp only[l9,zg,not_or]at v
     show (qn l (a.put (some m.d) (m.val g))).put (some p.1) p.2=((qn l a).put (some p.1) p.2).put (some m.d) (m.val g)
     rw[F v.2]
     exact Act.put_comm (qn l a) (m.val g) p.2 fun d hd B=>v.1 (Option.some.inj (hd.trans B.symm))
   rw[W,H,this lo _ fun h=>?_,e4]
   rw[<-J]at h
   obtain⟨q,z,M⟩:=zq.1 h
   exact aw (zq.2 ⟨q,(zy.1 z).1,M⟩)
  rw[L]
  refine F (j++A2) (by simp at hk ⊢;omega) (⟨m,g⟩ :: done) w' ?_ ?_ h5
  . refine List.Perm.trans ?_ hp
    show (m :: (done.map (·.1)++(j++A2))).Perm _
    rw[<-z7,<-z7]
    exact sO.symm
  . refine St.perm h4 ?_
    rw[kR,z7]
    refine(List.Perm.refl _).append ?_
    have:=qM (l₁:=L0) (l₂:=done.flatMap kK.R++(j++A2).flatMap (·.X))
    rwa [z7]at this
def Dz:List oe->List fT->List fT
 | [],L=>L
 | m :: l,L=>m.X++Dz l L
theorem S8{L:List fT}:∀ l:List oe,Dz l L=l.flatMap (·.X)++L
 | []=>rfl
 | m :: l=>by rw[Dz,S8 l,kR,z7]
def B0(p:oe->Prop):List oe->Prop
 | []=>True
 | [m]=>p m
 | m :: x :: l=>p m/\B0 p (x :: l)
theorem B0.at{p:oe->Prop}:∀ {l:List oe},B0 p l->∀ m∈l,p m
 | [],_,m,hm=>absurd hm nr
 | [x],h,m,hm=>by rw[k7.1 hm];exact h
 | x :: y :: l,h,m,hm=>(zg.1 hm).elim (fun e=>by rw[e];exact h.1) (h.2.at m)
theorem sU.mono{K K' : List (Nat×Value)->List fT->Prop}(h:∀ s R,K s R->K' s R):∀ (l:List oe) (s:List (Nat×Value)) (R:List fT),sU l K s R->sU l K' s R
 | [],s,R,hk=>h s R hk
 | m :: l,s,R,hk=>fun g=>sU.mono h l _ _ (hk g)
def yL:List Nat->Bool
 | []=>true
 | a :: l => !l.contains a&&yL l
theorem Kg:∀ {l:List Nat},yL l=true->l.Nodup
 | [],_=>xu
 | a :: l,h=>by
  simp only[yL,nq,Aa,DQ,decide_eq_false_iff_not]at h
  exact zz.2 ⟨h.1,Kg h.2⟩
variable {C:Nat->List Nat} {pre:List (List Nat)} {j4:List oe} {m:oe} {l1 l' : List Oper} {G:World->Prop} {last A D:List Nat}
theorem nv(h:∀ (Z:List fT) (w:World),St bs (m.X++(L0++Z)) w->G w->WL r P l.toArray (Exit.then (fun a w' => jD P l.toArray (C m.f) a w' /\ ∃ g,a=Fr n ((m.d,m.val g) :: (m.b++s0)) ds/\St bs (m.R g++(L0++Z)) w' /\ G w') Q) (pick l [m.f]) (Fr n (m.b++s0) ds) w)
 (i:∃ y,l.toArray[m.f]? = some y/\Io l.toArray (j4.map (·.d)) (C m.f) m y=true/\gI l.toArray n (m.b++s0) y.guard=true:=by exact⟨_,rfl,by kernel_rfl,rfl⟩) (hd:∀ p∈m.b,∃ c ∈ j4,c.d=p.1/\(∀ g,c.val g=p.2)/\(pre.getD m.f []).contains c.f=true:=by intro p hp;cases hp) :
 D8 G r P l.toArray Q n ds s0 bs L0 pre C j4 m:=⟨i,fun Z w hs e=>stI (h Z w hs e) rfl,hd⟩
theorem waG(j4:List oe)(b:St bs (Dz j4 L0) w)(e:G w)(i:B0 (D8 G r P l.toArray Q n ds s0 bs L0 (oD l []) C j4) j4)(K:sU j4 (fun s R=>∀ w,St bs R w->G w->WL r P l.toArray Q l' (Fr n s ds) w) s0 L0)
 (g:NP Q:=by infer_instance) (k:pick l last=l' := by rfl) (c:j4.map (·.f)=A:=by rfl) (a:(yL (j4.map (·.d))&&yL A)=true:=by exact rfl):WA r P l.toArray Q C (oD l []) (ng [] last) A.length A (Fr n s0 ds) w:=by
 subst c
 rw[nq]at a
 have:=afu (I1:=ng [] last) j4 (Kg a.1) (Kg a.2) g i.at (sU.mono (fun s R h w hs j=>by
  have:=Tq (C:=C) (pre:=oD l []) (A:=[]) (h w hs j) k
  exact this) j4 s0 L0 K) j4 [] w (List.Perm.refl _) (by rw[S8]at b;exact b) e
 simpa using this
theorem ack{id:Nat}{bs:List (World×List Nat)}{L:List fT}(hm:P.follows .mixedOrders=true)(b A:List Nat)(C:List (Nat×List Nat))(last:List Nat)(e:St bs L w)(K:St bs L w.drew->WL r P l.toArray (Exit.then (fun a w=>jD P l.toArray [] a w/\WA r P l.toArray Q (yF C) (oD l []) (ng [] last) A.length A a w) Q) (pick l b) (Fr n s ds) w.drew)
 (c:∃ np,(np=false\/NP Q)/\C4 np l (ng [] b) A (yF C) (ng [] last)=true:=by first|exact⟨true,.inr inferInstance,by kernel_rfl⟩|exact⟨false,.inl rfl,by kernel_rfl⟩):WP r P (.region id l.toArray true) Q (Fr n s ds) w :=
 c.elim fun _ ⟨d,c⟩=>KG (ng [] b) A (yF C) (ng [] last) hm c d (Gm b _ _ (K (e.grow (gx.drew [] w))).out)
theorem zI(j4:List oe)(i:St bs (Dz j4 L0) w)(c:B0 (D8 (fun _=>True) r P l.toArray Q n ds s0 bs L0 (oD l []) C j4) j4)(K:sU j4 (fun s R=>∀ w,St bs R w->WL r P l.toArray Q l' (Fr n s ds) w) s0 L0)
 (b:NP Q:=by infer_instance) (e:pick l last=l' := by rfl) (a:j4.map (·.f)=A:=by rfl) (g:(yL (j4.map (·.d))&&yL A)=true:=by exact rfl):WA r P l.toArray Q C (oD l []) (ng [] last) A.length A (Fr n s0 ds) w :=
 waG j4 i trivial c (sU.mono (fun s R h w hs _=>h w hs) j4 s0 L0 K) b e a g
theorem PL{x:Operand}{t e ty:TypeId}{v:Value}{xs:List Value}{L:List fT}{dd:Option Nat}{sz m:Nat}{pos:String}{af:Array Edge}{g:Option (Nat×Bool)}(i:Nat)(a:ev n s x=v)(ht:P.underlying t=some (.slice e))(d:St bs L w)(b:L[i]? = some (row v e sz m xs)) :
 (execOp (ev n s) ⟨dd,.call ⟨.builtin .len,#[x],#[t]⟩,ty,pos,af,g⟩).run P w = .ok (.value (.int .i64 m)) w:=by
 have c:w.ownsRow 0 e sz v m xs:=d.own _ (ze b)
 rcases c.2 with ⟨rfl,rfl⟩|⟨h, f,cur,rfl,_⟩
 . exact FC a ht
 . exact FC a ht
end
section
variable {H:Type} {enc:TypeId×Value->H} {P:Program} {w:World} {sp:Nat->Bool} {hd:Bool} {t e:TypeId} {fuel:Nat} {v:Value} {cs:List Value} {x:DataW H×List MemPlace} {k:IntKind}
theorem adG{a:Addr}(h:w.cell? a=some u):a.spot=none:=by
 unfold World.cell? at h
 split at h
 . split at h
   . cases h
   . rename_i hs
     cases hq:a.spot with
     | none=>rfl
     | some q=>rw[hq]at hs;simp at hs
 . cases h
theorem Sl.F5{α:Type}[Inhabited α]{sz:Nat}{E:World->α->List Value->Prop}(ht:P.underlying t=some (.slice e))(hc:P.cellsOf e=sz)(hp:0<sz)
 (C:∀ n cs y,DataW.trod enc P w 0 sp hd n e cs=some y->∃ x:α,E w x cs) (h:DataW.trod enc P w 0 sp hd fuel t cs=some x):∃ v xs,cs=[v]/\Sl sz E (fun _=>True) w v xs:=by
 rcases Go.Deep.open_slice ht h with ⟨B,_⟩|⟨a,len,A,m,n,D,M,rfl,_,H,hm,J,_,z⟩
 . exact⟨_,[],B,Sl.nil _ _ _ _⟩
 . rw[hc]at z
   have N:len<=m:=by rw[J];split<;>omega
   obtain⟨X,k⟩:=Go.Deep.choose_lt (α:=α) (n:=len) (p:=fun i x=>∃ cs', w.cells? 0 (a.add (i*sz)) sz=some cs' /\ E w x cs') (fun i hi=>by
    obtain⟨cs', c,d⟩:=z i o_
    obtain⟨y,f⟩:=C _ _ _ d
    exact⟨y,cs', c,f⟩)
   refine⟨_,(List.range len).map X,rfl,some a,A,s_,by simp;exact H,hm,fun i y hi=>?_⟩
   have q:i<len:=by have:=(zt.1 hi).1;simpa using this
   have f:y=X i:=by
    rw[oK,rF q]at hi
    simpa using hi.symm
   subst f
   obtain⟨cs', c,d⟩:=k i q
   obtain⟨_,I,F⟩:=World.cells?_some c
   have r:a.spot=none:=by
    obtain⟨cs0,K,_⟩:=k 0 o_
    obtain⟨_,O,L⟩:=World.cells?_some K
    have g:=L 0 hp
    have:cs0[0]? = some cs0[0]:=z8 o_
    rw[this]at g
    have:=adG g
    simpa[Addr.add]using this
   obtain⟨b,o,s⟩:=a
   simp only at r
   subst r
   refine⟨b,o,cs', rfl,trivial,I,d,fun j u l=>?_⟩
   have G : j<sz:=by have:=(zt.1 l).1;omega
   have:=F j G
   rw[l]at this
   rw[Addr.add_lit,Addr.add_lit]at this
   exact this
theorem gU.aaV{n:Int}(h:(Lit.int k n).wf=true):gU k n:=by
 simp only[Lit.wf,nq,decide_eq_true_eq]at h
 exact h
theorem ue(c:P.underlying e=some (.int k))(h:DataW.trod enc P w 0 sp hd fuel e cs=some x):∃ n,cs=[.int k n]/\gU k n:=by
 obtain⟨m,a,_,b⟩:=DataW.trod_int c h
 exact⟨m,a,gU.aaV b⟩
theorem OI{a:Array Field}(ht:P.underlying t=some (.struct a))(h:DataW.trod enc P w 0 sp hd fuel t cs=some x):cs.length=P.cellsOf t/\∀ f∈a.toList,∃ n y,DataW.trod enc P w 0 sp hd n f.type ((cs.drop f.offset).take (P.cellsOf f.type))=some y:=by
 cases fuel with
 | zero=>simp[DataW.trod]at h
 | succ n =>
  unfold DataW.trod at h
  rw[ht]at h
  simp only at h
  split at h
  . rename_i c
    refine⟨c,fun f b=>?_⟩
    obtain⟨i,hi⟩:=Hr b
    cases hm:(a.toList.mapM fun f=>DataW.trod enc P w 0 sp hd n f.type ((cs.drop f.offset).take (P.cellsOf f.type)))with
    | none=>rw[hm]at h;simp at h
    | some ys =>
     have:=mapM_some_get hm i f hi
     have d:=mapM_some_length hm
     have e:i<ys.length:=by rw[d];exact(zt.1 hi).1
     rw[z8 e]at this
     exact⟨n,_,this⟩
  . simp at h
end
end Go.Sx
