/- Plain lemmas: rules for walking through code, one for each operation, over any program; an evaluator of closed calls with its soundness; and plain mathematics. No conditions. -/
import Derived.Test.YthpnckhjmbbalaaGreatDoorFc
import Derived.Test.YthpnckhjmbbalaaGreatDoorFb
import Derived.Lib.TrailingZeros
import Derived.Test.YthpnckhjmbbalaaGreatDoorFa
import Derived.Sort.Grow
import Derived.Deep.Draws
import Derived.Shelf.GgSortFunc.InsertionK
import Derived.Shelf.SlSortCmp.Whole1
import Derived.ProofKit
import Derived.Deep.Slices
set_option linter.unusedVariables false
set_option linter.unusedSectionVars false
set_option linter.unusedSimpArgs false
namespace Go.Sx
open Go
def gI(ps:List Int):Nat->Nat->Nat
 | 0,v=>v
 | k+1,v=>gI ps k (fJ ps v).toNat
section
variable {ps:List Int} {k j v:Nat}
theorem qx(a b:Nat):gI ps (a+b) v=gI ps b (gI ps a v):=by
 induction a generalizing v with
 | zero=>rw[lS];rfl
 | succ a c=>rw[Nat.succ_add];exact c
theorem Gy:gI ps 1 v=(fJ ps v).toNat:=rfl
theorem AA(hp:jV ps)(hv:v<ps.length):0<gj ps v↔0<=fJ ps v:=by
 constructor
 . intro h
   rcases Int.lt_or_le (fJ ps v) 0 with a|a
   . rw[EC a]at h
     omega
   . exact a
 . intro h
   rw[Az hp hv (i:=(fJ ps v).toNat) o_]
   omega
theorem IE(hp:jV ps)(hv:v<ps.length)(h:0<=fJ ps v):gj ps v=gj ps (fJ ps v).toNat+1:=Az hp hv o_
theorem ow(hp:jV ps)(hv:v<ps.length)(hk:k<=gj ps v):gI ps k v<ps.length/\gj ps (gI ps k v)=gj ps v-k/\v<=gI ps k v:=by
 induction k generalizing v with
 | zero=>exact⟨hv,rfl,zo _⟩
 | succ k d =>
  have a:=(AA hp hv).1 o_
  have e:=hp.up v hv
  have f:=IE hp hv a
  obtain⟨b,c,g⟩:=d (v:=(fJ ps v).toNat) o_ o_
  refine⟨b,?_,?_⟩
  . show gj ps (gI ps k (fJ ps v).toNat)=_
    rw[c]
    omega
  . show v<=gI ps k (fJ ps v).toNat
    omega
theorem afP(hp:jV ps)(hv:v<ps.length)(hk:k<gj ps v):fJ ps (gI ps k v)=((gI ps (k+1) v:Nat):Int):=by
 obtain⟨a,b,_⟩:=ow hp hv (Nat.le_of_lt hk)
 have c:=(AA hp a).1 o_
 rw[qx k 1,Gy]
 omega
theorem Qa(hp:jV ps)(hv:v<ps.length):(2 ^ j<=gj ps v->kn ps j v=((gI ps (2 ^ j) v:Nat):Int))/\(gj ps v<2 ^ j->kn ps j v<0):=by
 induction j generalizing v with
 | zero =>
  have a:=AA hp hv
  constructor
  . intro h
    show fJ ps v=(((fJ ps v).toNat:Nat):Int)
    have:=a.1 (by rw[Nat.pow_zero]at h;omega)
    omega
  . intro h
    show fJ ps v<0
    have b:¬ 0<gj ps v:=by rw[Nat.pow_zero]at h;omega
    rw[a]at b
    omega
 | succ j c =>
  have e:2 ^ (j+1)=2 ^ j+2 ^ j:=by rw[DM];omega
  obtain⟨f,g⟩:=c hv
  rw[e]
  constructor
  . intro h
    have a:=f o_
    obtain⟨b,d,_⟩:=ow hp hv (k:=2 ^ j) o_
    rw[Fg o_,a,nt,(c b).1 o_,<-qx]
  . intro h
    rcases xB (gj ps v) (2 ^ j)with a|a
    . have:=g a
      rw[Jr o_]
      exact this
    . have b:=f a
      obtain⟨d,i,_⟩:=ow hp hv (k:=2 ^ j) a
      rw[Fg o_,b,nt]
      exact(c d).2 o_
theorem Js(hp:jV ps)(hv:v<ps.length)(h:2 ^ j<=gj ps v):fJ (jt ps j) v=((gI ps (2 ^ j) v:Nat):Int):=by
 rw[uQ hv]
 exact(Qa hp hv).1 h
theorem P8(hp:jV ps)(hv:v<ps.length)(h:gj ps v<2 ^ j):fJ (jt ps j) v<0:=by
 rw[uQ hv]
 exact(Qa hp hv).2 h
theorem P7(hp:jV ps)(hm:∀ i,i<ps.length -> -1<=fJ ps i)(hv:v<ps.length) : -1<=kn ps j v:=by
 induction j generalizing v with
 | zero=>exact hm v hv
 | succ j a =>
  have b:=a hv
  have c:=Jq hp hv (k:=j)
  by_cases h:0<=kn ps j v
  . rw[Fg h]
    exact a o_
  . rw[Jr h]
    exact b
end
structure pI (ps:List Int) (a b D j s:Nat):Prop where
 le:s<=D
 ne:gI ps s a≠gI ps s b
 Pu:D<s+2 ^ j\/gI ps (s+2 ^ j) a=gI ps (s+2 ^ j) b
section
variable {ps:List Int} {a b D j s:Nat}
theorem pI.start(h:a≠b)(c:D<8192):pI ps a b D 13 0:=⟨oO _,h,.inl (by rw[lS];exact c)⟩
theorem pI.next(hp:jV ps)(hm:∀ i,i<ps.length -> -1<=fJ ps i)(n:a<ps.length)(hb:b<ps.length)(p:gj ps a=D)(q:gj ps b=D)(h:pI ps a b D (j+1) s) :
 (fJ (jt ps j) (gI ps s a)=fJ (jt ps j) (gI ps s b)->pI ps a b D j s) /\
 (fJ (jt ps j) (gI ps s a)≠fJ (jt ps j) (gI ps s b)->pI ps a b D j (s+2 ^ j)/\fJ (jt ps j) (gI ps s a)=((gI ps (s+2 ^ j) a:Nat):Int)/\fJ (jt ps j) (gI ps s b)=((gI ps (s+2 ^ j) b:Nat):Int)):=by
 have g:=h.le
 obtain⟨a1,a2,_⟩:=ow hp n (k:=s) o_
 obtain⟨b1,b2,_⟩:=ow hp hb (k:=s) o_
 have e:2 ^ (j+1)=2 ^ j+2 ^ j:=by rw[DM];omega
 rcases xB (D-s) (2 ^ j)with l|l
 . have r:=P8 hp a1 (j:=j) o_
   have nb:=P8 hp b1 (j:=j) o_
   have o:=P7 hp hm a1 (j:=j)
   have mb:=P7 hp hm b1 (j:=j)
   rw[<-uQ a1]at o
   rw[<-uQ b1]at mb
   exact⟨fun _=>⟨g,h.ne,.inl o_⟩,fun c=>absurd (show fJ (jt ps j) (gI ps s a)=fJ (jt ps j) (gI ps s b) by omega) c⟩
 . have ya:=Js hp a1 (j:=j) o_
   have d:=Js hp b1 (j:=j) o_
   rw[<-qx]at ya d
   refine⟨fun c=>⟨g,h.ne,.inr o_⟩,fun c=>⟨⟨o_,fun m=>c (by rw[ya,d,m]),?_⟩,ya,d⟩⟩
   have f:=h.Pu
   rw[e,<-lg]at f
   exact f
theorem pI.fin(hp:jV ps)(e:a<ps.length)(i:gj ps a=D)(h:pI ps a b D 0 s) :
 (fJ ps (gI ps s a)<0->s=D)/\(¬ fJ ps (gI ps s a)<0->s<D/\fJ ps (gI ps s a)=((gI ps (s+1) a:Nat):Int)/\gI ps (s+1) a=gI ps (s+1) b):=by
 have j:=h.le
 obtain⟨a1,a2,_⟩:=ow hp e (k:=s) o_
 have d:=AA hp a1
 refine⟨fun f=>?_,fun f=>?_⟩
 . have g:¬ 0<gj ps (gI ps s a):=by rw[d];omega
   omega
 . have g:=d.2 o_
   refine⟨o_,afP hp e o_,?_⟩
   have c:=h.Pu
   rw[Nat.pow_zero]at c
   rcases c with c|c
   . omega
   . exact c
end
theorem ID{ps:List Int}(hp:jV ps){i:Nat}(hi:i<ps.length):gj ps i+i<ps.length:=by
 induction hm:ps.length-i using Nat.strongRecOn generalizing i with
 | _ m a =>
  rcases hp.up i hi with h|⟨b,c⟩
  . rw[EC h]
    omega
  . have:=a (ps.length-(fJ ps i).toNat) o_ (i:=(fJ ps i).toNat) o_ rfl
    rw[IE hp hi o_]
    omega
def pG(ps:List Int)(a b z:Nat)(B:Bool):Prop :=
 (B=true/\∃ s t,s<=gj ps a/\t<=gj ps b/\gI ps s a=z/\gI ps t b=z/\∀ c t', c <= gj ps a->t' <= gj ps b->gI ps c a=gI ps t' b->s<=c) \/
 (B=false/\z=0/\∀ s t,s<=gj ps a->t<=gj ps b->gI ps s a≠gI ps t b)
section
variable {ps:List Int} {a b A B D s:Nat}
theorem JV(hp:jV ps)(d:a<ps.length)(hb:b<ps.length){s t:Nat}(hs:s<=gj ps a)(e:t<=gj ps b)(h:gI ps s a=gI ps t b) :
 ∃ m,m<=min (gj ps a) (gj ps b)/\s=gj ps a-min (gj ps a) (gj ps b)+m/\gI ps m (gI ps (gj ps a-min (gj ps a) (gj ps b)) a)=gI ps m (gI ps (gj ps b-min (gj ps a) (gj ps b)) b):=by
 have c:=(ow hp d hs).2.1
 have f:=(ow hp hb e).2.1
 rw[h]at c
 refine⟨min (gj ps a) (gj ps b)-(gj ps a-s),o_,o_,?_⟩
 rw[<-qx,<-qx,show gj ps a-min (gj ps a) (gj ps b)+(min (gj ps a) (gj ps b)-(gj ps a-s))=s by omega,show gj ps b-min (gj ps a) (gj ps b)+(min (gj ps a) (gj ps b)-(gj ps a-s))=t by omega,h]
theorem VP(hp:jV ps)(c:a<ps.length)(hb:b<ps.length)(h:gI ps (gj ps a-min (gj ps a) (gj ps b)) a=gI ps (gj ps b-min (gj ps a) (gj ps b)) b) :
 pG ps a b (gI ps (gj ps a-min (gj ps a) (gj ps b)) a) true :=
 .inl ⟨rfl,_,_,Nat.sub_le _ _,Nat.sub_le _ _,rfl,h.symm,fun g t' hs d e=>by
  obtain⟨m,_,f,_⟩:=JV hp c hb hs d e
  omega⟩
theorem pI.apart{j:Nat}(h:pI ps A B D j s){m:Nat}(hm:gI ps m A=gI ps m B):s<m:=by
 apply Nat.lt_of_not_le
 intro a
 apply h.ne
 rw[show s=m+(s-m) by omega,qx,qx,hm]
theorem VR(hp:jV ps)(i:a<ps.length)(hb:b<ps.length)(d:A=gI ps (gj ps a-min (gj ps a) (gj ps b)) a)(f:B=gI ps (gj ps b-min (gj ps a) (gj ps b)) b)
 (h:pI ps A B (min (gj ps a) (gj ps b)) 0 s) (h1:s<min (gj ps a) (gj ps b)) (g:gI ps (s+1) A=gI ps (s+1) B):pG ps a b (gI ps (s+1) A) true:=by
 refine .inl ⟨rfl,gj ps a-min (gj ps a) (gj ps b)+(s+1),gj ps b-min (gj ps a) (gj ps b)+(s+1),o_,o_,by rw[qx,<-d],by rw[qx,<-f,g],fun l t' hs j e=>?_⟩
 obtain⟨m,_,k,c⟩:=JV hp i hb hs j e
 rw[<-d,<-f]at c
 have:=h.apart c
 omega
theorem VQ(hp:jV ps)(g:a<ps.length)(hb:b<ps.length)(d:A=gI ps (gj ps a-min (gj ps a) (gj ps b)) a)(f:B=gI ps (gj ps b-min (gj ps a) (gj ps b)) b)
 (h:pI ps A B (min (gj ps a) (gj ps b)) 0 s) (h1:s=min (gj ps a) (gj ps b)):pG ps a b 0 false:=by
 refine .inr ⟨rfl,rfl,fun l t' hs i e=>?_⟩
 obtain⟨m,j,k,c⟩:=JV hp g hb hs i e
 rw[<-d,<-f]at c
 have:=h.apart c
 omega
end
end Go.Sx
namespace Go.Sx
open Go
section
variable {ps hs:List Int} {T:Int} {x:Nat}
theorem EB(hp:jV ps)(a:x<ps.length):∃ s,s<=gj ps x/\jc ps hs T x=gI ps s x/\∀ i,1<=i->i<=s->fJ hs (gI ps i x)<=T:=by
 induction hm:ps.length-x using Nat.strongRecOn generalizing x with
 | _ m e =>
  by_cases h:0<=fJ ps x/\fJ hs (fJ ps x).toNat<=T
  . have f:=hp.up x a
    obtain⟨s,g,b,c⟩:=e (ps.length-(fJ ps x).toNat) o_ (x:=(fJ ps x).toNat) o_ rfl
    have hd:=IE hp a h.1
    refine⟨s+1,o_,by rw[xR hp a h.1 h.2,b];rfl,fun i hi d=>?_⟩
    obtain⟨j,rfl⟩:∃ j,i=j+1:=⟨i-1,o_⟩
    show fJ hs (gI ps j (fJ ps x).toNat)<=T
    by_cases hj:j=0
    . subst hj;exact h.2
    . exact c j o_ o_
  . exact⟨0,oO _,Ci h,fun i hi d=>by omega⟩
theorem Is(hp:jV ps)(c:x<ps.length):∀ s,s<=gj ps x->(∀ i,1<=i->i<=s->fJ hs (gI ps i x)<=T)->jc ps hs T x=jc ps hs T (gI ps s x)
 | 0,_,_=>rfl
 | s+1,h,hh=>by
  rw[Is hp c s o_ fun i hi f=>hh i hi o_]
  obtain⟨a,e,_⟩:=ow hp c (show s<=gj ps x by omega)
  have d:=(AA hp a).1 o_
  have b:=hh (s+1) o_ (zo _)
  rw[qx s 1,Gy]at b ⊢
  exact xR hp a d b
end
section
variable {es:List Ge} {n:Nat} {f:List Nat} {u v z:Nat} {T:Int}
theorem gP.mono(h:gP es n f){i j:Nat}(b:i<=j)(c:j<f.length):(fJ es (fJ f i)).w<=(fJ es (fJ f j)).w:=by
 induction j with
 | zero =>
  have:i=0:=by omega
  subst this;exact xC _
 | succ j a =>
  by_cases e:i=j+1
  . subst e;exact xC _
  . exact Int.le_trans (a o_ o_) (h.2.j5 o_)
theorem gP.H9(h:gP es n f)(g:u<n){s:Nat}(hs:s<=gj (fV es n f).p u)(h1:1<=s):∃ j,j<f.length/\gI (fV es n f).p s u=n+j/\fJ (fV es n f).h (gI (fV es n f).p s u)=(fJ es (fJ f j)).w:=by
 have e:=(lK (es:=es) (n:=n) (f:=f)).2.2.1
 obtain⟨t,rfl⟩:∃ t,s=t+1:=⟨s-1,o_⟩
 obtain⟨b,d,_⟩:=ow h.mO (show u<(fV es n f).p.length by omega) (show t<=_ by omega)
 have c:=(AA h.mO b).1 o_
 rcases h.par (y:=gI (fV es n f).p t u) o_ with q|⟨j,a,q,_⟩
 . rw[ij q]at c;omega
 . refine⟨j,a,?_,?_⟩
   . rw[qx t 1,Gy,ij q];omega
   . rw[qx t 1,Gy,ij q,show ((n+j:Nat):Int).toNat=n+j by omega]
     exact ij (h.inner a).2.2.1
theorem gP.Ia(h:gP es n f)(c:u<n){s t:Nat}(a:s<=t)(b:t<=gj (fV es n f).p u)(h1:1<=s):fJ (fV es n f).h (gI (fV es n f).p s u)<=fJ (fV es n f).h (gI (fV es n f).p t u):=by
 have q:=(lK (es:=es) (n:=n) (f:=f)).2.2.1
 obtain⟨i,hi,e1,d⟩:=h.H9 c (lq a b) h1
 obtain⟨j,m,o,e⟩:=h.H9 c b (lq h1 a)
 have g:=ow h.mO (show u<(fV es n f).p.length by omega) (lq a b)
 have l:=(ow h.mO g.1 (k:=t-s) o_).2.2
 rw[<-qx,show s+(t-s)=t by omega]at l
 rw[d,e]
 exact h.mono o_ m
theorem gP.Jy(h:gP es n f)(c:u<n)(hv:v<n):fJ (o5 es n f T) u=fJ (o5 es n f T) v↔jc (fV es n f).p (fV es n f).h T u=jc (fV es n f).p (fV es n f).h T v:=by
 rw[Qm c,Qm hv]
 constructor
 . intro e
   obtain⟨m,hm,a,b,_⟩:=h.cut T
   rw[h.Jz c hm a b,h.Jz hv hm a b]at e
   rw[h.top c hm a b,h.top hv hm a b]
   unfold rq
   rw[e]
 . intro e;rw[e]
theorem gP.abL(h:gP es n f)(e:u<n)(hv:v<n)(j:pG (fV es n f).p u v z true)(c:fJ (fV es n f).h z<=T):fJ (o5 es n f T) u=fJ (o5 es n f T) v:=by
 have k:=(lK (es:=es) (n:=n) (f:=f)).2.2.1
 rcases j with ⟨_,s,t,hs,d,e1,b,_⟩|⟨g,_⟩
 . rw[h.Jy e hv,Is h.mO o_ s hs fun i hi a=>?_,Is h.mO (show v<(fV es n f).p.length by omega) t d fun i hi a=>?_,e1,b]
   . have:=h.Ia hv a d hi;rw[b]at this;exact Int.le_trans this c
   . have:=h.Ia e a hs hi;rw[e1]at this;exact Int.le_trans this c
 . cases g
theorem gP.abJ(h:gP es n f)(d:u<n)(hv:v<n)(y:u≠v)(q:pG (fV es n f).p u v z true)(B:T<fJ (fV es n f).h z):fJ (o5 es n f T) u≠fJ (o5 es n f T) v:=by
 have C:=(lK (es:=es) (n:=n) (f:=f)).2.2.1
 intro e
 rw[h.Jy d hv]at e
 obtain⟨i, a1,a2,a3⟩:=EB (hs:=(fV es n f).h) (T:=T) h.mO (show u<(fV es n f).p.length by omega)
 obtain⟨t', b1,b2,b3⟩:=EB (hs:=(fV es n f).h) (T:=T) h.mO (show v<(fV es n f).p.length by omega)
 rcases q with ⟨_,s,t,hs,x,e1,c,r⟩|⟨l,_⟩
 . have w:=r i t' a1 b1 (by rw[<-a2,<-b2,e])
   have m:1<=s:=by
    rcases xx s with a|a
    . exfalso
      subst a
      have g:z=u:=e1.symm
      rcases xx t with b|b
      . subst b
        exact y (g.symm.trans c.symm)
      . obtain⟨j,_,k,_⟩:=h.H9 hv x b
        rw[c,g]at k
        omega
    . exact a
   have o:=h.Ia d w a1 m
   have A:=a3 i o_ (zo _)
   rw[e1]at o
   omega
 . cases l
theorem gP.abK(h:gP es n f)(c:u<n)(hv:v<n)(b:pG (fV es n f).p u v z false):fJ (o5 es n f T) u≠fJ (o5 es n f T) v:=by
 have g:=(lK (es:=es) (n:=n) (f:=f)).2.2.1
 intro e
 rw[h.Jy c hv]at e
 obtain⟨d, a1,a2,_⟩:=EB (hs:=(fV es n f).h) (T:=T) h.mO (show u<(fV es n f).p.length by omega)
 obtain⟨t', b1,b2,_⟩:=EB (hs:=(fV es n f).h) (T:=T) h.mO (show v<(fV es n f).p.length by omega)
 rcases b with ⟨a,_⟩|⟨_,_,a⟩
 . cases a
 . exact a d t' a1 b1 (by rw[<-a2,<-b2,e])
end
theorem T3:∀ es:List Ge,∃ T:Int,∀ e∈es,e.w<=T
 | []=>⟨0,fun e h=>(by cases h)⟩
 | a :: l=>by
  obtain⟨T,h⟩:=T3 l
  refine⟨max a.w T,fun e b=>?_⟩
  rcases zg.1 b with rfl|b
  . exact Int.le_max_left _ _
  . exact Int.le_trans (h e b) (Int.le_max_right _ _)
end Go.Sx
namespace Go.Sx
open Go
section
variable {L:List Lv} {i j:Nat} {sn:List Bool} {now:Int}
def vZ(b:Bool):List Value:=[.bool b]
end
end Go.Sx
namespace Go.Sx
open Go
def rts(a:List Nat)(i:Nat):List Nat:=(List.range i).filter fun x=>decide (fJ a x=x)
end Go.Sx
namespace Go.Sx
open Go
theorem YO{l:List Nat}(c:l.Nodup){p:Nat->Bool}{x:Nat}(d:x∈l)(hp:p x=true):(l.filter fun i=>(i != x)&&p i).length+1=(l.filter p).length:=by
 have b:(l.filter fun i=>(i != x)&&p i)=(l.filter p).erase x:=by
  rw[List.Nodup.erase_eq_filter (c.sublist vz),List.filter_filter]
 have a:=kD.2 ⟨d,hp⟩
 rw[b,G7 a]
 have:=G8 a
 omega
theorem nV.mx{n x y:Nat}{lb:List Nat}(ex:fJ lb x=x)(a:fJ lb y=y):fJ lb (max x y)=max x y/\fJ lb (min x y)=min x y:=by
 rcases zR x y with q|q
 . rw[xo q,qC q];exact⟨a,ex⟩
 . rw[BJ q,BH q];exact⟨ex,a⟩
theorem ad7{n:Nat}{lb:List Nat}(h:nV n lb){x y:Nat}(o:x<n)(p:y<n)(ex:fJ lb x=x)(g:fJ lb y=y)(m:x≠y):(rts (js lb x y) n).length+1=(rts lb n).length:=by
 obtain⟨d,en⟩:=nV.mx (n:=n) ex g
 have j:rts (js lb x y) n=(List.range n).filter fun i=>(i != max x y)&&decide (fJ lb i=i):=by
  unfold rts
  refine xz fun i hi=>?_
  have k:=k9.1 hi
  rw[nJ (by rw[h.len];exact k),Bool.eq_iff_iff]
  simp only[decide_eq_true_eq,mU,bne_iff_ne,ne_eq]
  by_cases e:fJ lb i=max x y
  . rw[if_pos e]
    constructor
    . intro c
      exfalso
      have l:fJ lb i=i:=by rw[<-c];exact en
      omega
    . rintro⟨a,b⟩;exact absurd (b.symm.trans e) a
  . rw[if_neg e]
    exact⟨fun c=>⟨fun f=>e (by rw[f];exact d),c⟩,fun h=>h.2⟩
 rw[j]
 exact YO vG (k9.2 o_) (by simpa using d)
theorem KM{n:Nat}{E:List Ge}(b:∀ e∈E,e.u<n/\e.v<n)(c:∀ k,k<E.length->fJ (kY (E.take k) n) (fJ E k).u≠fJ (kY (E.take k) n) (fJ E k).v):∀ k,k<=E.length->(rts (kY (E.take k) n) n).length+k=n
 | 0,_=>by
  have h:rts (kY (E.take 0) n) n=List.range n:=by
   show (List.range n).filter (fun x=>decide (fJ (List.range n) x=x))=_
   exact uk.2 fun x d=>by rw[lG (k9.1 d)];simp
  rw[h,p7];omega
 | k+1,hk=>by
  have f:=KM b c k o_
  have ok:nV n (kY (E.take k) n):=(uO fun e a=>b e (G3 a)).ok
  have a:=b _ (zd (gz (show k<E.length by omega)))
  have g:=ok.low _ a.1
  have i:=ok.low _ a.2
  rw[ZA o_]
  have:=ad7 ok (x:=fJ (kY (E.take k) n) (fJ E k).u) (y:=fJ (kY (E.take k) n) (fJ E k).v) o_ o_ (ok.kZ _ a.1) (ok.kZ _ a.2) (c k o_)
  omega
section
variable {es:List Ge} {n:Nat} {f:List Nat}
theorem gP.aaH(h:gP es n f):gU es n f=kY es n:=by
 obtain⟨T,b⟩:=T3 es
 obtain⟨m,hm,g,c,a⟩:=h.cut T
 have e:m=f.length:=by
  rcases Nat.lt_or_eq_of_le hm with q|q
  . have i:=c m (zo _) q
    have j:=b _ (zd (gz (h.f.lt (zd (gz q)))))
    omega
  . exact q
 rw[e,qB]at a
 rw[a]
 exact congrArg (kY · n) (uk.2 fun e d=>by simpa using b e d)
theorem gP.count(h:gP es n f):(rts (kY es n) n).length+f.length=n:=by
 rw[<-h.aaH,CG]
 have d:(f.map (fJ es)).length=f.length:=zq _
 have:=KM (n:=n) (E:=f.map (fJ es)) (fun e b=>by
  obtain⟨i,hi,rfl⟩:=zz.1 b
  have:=h.g _ (zd (gz (h.f.lt hi)))
  exact⟨this.1,this.2.1⟩) (fun k c=>by
  have a:k<f.length:=by omega
  have:=h.f.mc a
  rw[<-List.map_take,<-CG,show fJ (f.map (fJ es)) k=fJ es (fJ f k) from ij (by rw[z7,gz a];rfl)]
  exact this) f.length o_
 rwa [vt o_]at this
theorem gP.gone(h:gP es n f){j i x:Nat}(g:j<i)(hi:i<=f.length)(c:x<n)(a:fJ (gU es n (f.take i)) x=x):x≠nB es n f j:=by
 induction i with
 | zero=>omega
 | succ i d =>
  have st:=h.st (i:=i) o_
  have ok:=h.yC (i:=i) o_
  rw[st.2.2.2.2.2.2,nJ (by rw[ok.len];exact c),xo o_,qC o_]at a
  by_cases e:fJ (gU es n (f.take i)) x=nB es n f i
  . rw[if_pos e]at a
    have b:fJ (gU es n (f.take i)) x=x:=by rw[<-a];exact st.2.2.1
    omega
  . rw[if_neg e]at a
    by_cases q:j=i
    . subst q
      intro b
      exact e (by rw[b];exact st.2.2.2.1)
    . exact d o_ o_ a
theorem gP.ua(h:gP es n f){i:Nat}(hi:i<=f.length):nw ((f.take i).map (fJ es)) n (gU es n (f.take i)):=by
 rw[CG]
 refine uO fun e a=>?_
 obtain⟨k,b,rfl⟩:=zz.1 a
 have:=h.g _ (zd (gz (h.f.lt (G3 b))))
 exact⟨this.1,this.2.1⟩
theorem gP.abI(h:gP es n f){i:Nat}(hi:i<f.length){z:Nat}{B:Bool}(l:pG (fV es n f).p (nA es n f i) (nB es n f i) z B):B=true/\fJ (fV es n f).h z=(fJ es (fJ f i)).w:=by
 have st:=h.st hi
 have la:nA es n f i<n:=by omega
 have lb:=st.2.1
 have x:nA es n f i≠nB es n f i:=by omega
 have t:∀ j,j<f.length->fJ es (fJ f j)∈es:=fun j b=>zd (gz (h.f.lt (zd (gz b))))
 have a:=h.g _ (t i hi)
 have ok:=h.yC (i:=i) o_
 have hs:fJ (o5 es n f (fJ es (fJ f i)).w) (nA es n f i)=fJ (o5 es n f (fJ es (fJ f i)).w) (nB es n f i):=by
  have G:=uO (E:=es.filter fun e=>decide (e.w<=(fJ es (fJ f i)).w)) (n:=n) fun e c=>by
   have:=h.g _ (kD.1 c).1
   exact⟨this.1,this.2.1⟩
  have r:∀ j,j<=i->fJ es (fJ f j)∈es.filter fun e=>decide (e.w<=(fJ es (fJ f i)).w):=fun j b=>kD.2 ⟨t j o_,by simpa using h.mono b hi⟩
  have U:=(h.ua (i:=i) o_).qw _ G.ok fun e c=>by
   obtain⟨k,d,rfl⟩:=zz.1 c
   obtain⟨j,b⟩:=G0 d
   have H:=(zk.1 b).1
   rw[z8]at H
   rw[DH o_]at b
   rw[<-ij b]
   exact G.yV _ (r j o_)
  have e1:=U _ _ (Nat.lt_of_le_of_lt (ok.low _ a.1) a.1) a.1 (ok.kZ _ a.1)
  have A:=U _ _ (Nat.lt_of_le_of_lt (ok.low _ a.2.1) a.2.1) a.2.1 (ok.kZ _ a.2.1)
  have o:=(e1.trans (G.yV _ (r i (zo _)))).trans A.symm
  rw[h.Ql]
  unfold nA nB
  rcases zR (fJ (gU es n (f.take i)) (fJ es (fJ f i)).u) (fJ (gU es n (f.take i)) (fJ es (fJ f i)).v)with q|q
  . rw[qC q,xo q];exact o
  . rw[BH q,BJ q];exact o.symm
 cases B with
 | false=>exact absurd hs (h.abK la lb l)
 | true =>
  refine⟨rfl,Int.le_antisymm (Int.not_lt.1 fun s=>h.abJ la lb x l s hs) (Int.not_lt.1 fun s=>?_)⟩
  have y:=h.abL la lb l (T:=fJ (fV es n f).h z) (xC _)
  obtain⟨m,hm,C,J,D⟩:=h.cut (fJ (fV es n f).h z)
  rw[h.Ql,<-D]at y
  have I:m<=i:=Nat.le_of_not_lt fun q=>by have:=C i q;omega
  have:=(h.ua hm).qw _ ok (fun e c=>(h.ua (i:=i) o_).yV e (by
   obtain⟨k,d,rfl⟩:=zz.1 c
   refine zz.2 ⟨k,?_,rfl⟩
   have F:f.take m=(f.take i).take m:=by rw[List.take_take,qC I]
   rw[F]at d
   exact G3 d)) _ _ la lb y
  rw[st.2.2.1,st.2.2.2.1]at this
  exact x this
end
end Go.Sx
namespace Go.Sx
open Go
theorem nV.ext{n:Nat}{a b:List Nat}(h1:nV n a)(c:nV n b)(h:∀ i j,i<n->j<n->(fJ a i=fJ a j↔fJ b i=fJ b j)):a=b:=by
 refine nU fun i=>?_
 by_cases hi:i<n
 . rw[gz (by rw[h1.len];exact hi),gz (by rw[c.len];exact hi)]
   have e:=h1.low i hi
   have p2:=c.low i hi
   have e1:=(h (fJ a i) i o_ hi).1 (h1.kZ i hi)
   have d:=(h (fJ b i) i o_ hi).2 (c.kZ i hi)
   have f:=c.low (fJ a i) o_
   have g:=h1.low (fJ b i) o_
   exact congrArg some o_
 . rw[mw (by rw[h1.len];omega),mw (by rw[c.len];omega)]
theorem FO{K:List Int}(hs:K.Pairwise fun a b=>a<b){i:Nat}(hi:i<K.length):gK K (fJ K i)=i:=by
 have h:=r9 hs (zd (gz hi))
 exact Ic hs h.1 hi h.2
theorem iB.trees{fN fL:Nat}{g:GW}{u:fU}{A:Nat->Nat->Prop}{key:Nat->Int}{K:List Int}{L:List Lv}{es:List Ge}{f:List Nat}{v2 e2:Nat}(O:iB fN fL (gF g.m) A key)(aa:(g.m.map Prod.fst).Nodup)(ag:∀ p∈g.m,∃ k:Nat,p.1=(k:Int))(H:nD u g)(W:u.ok v2 e2)(l:u.pK K)(hL:u.mB L)(hP:oQ K L es L.length)(S:gP es K.length f):tg g.m=f.length:=by
 obtain⟨φ,hφ⟩:∃ φ:Nat->Nat,∀ z,φ z=gK K (fJ u.t.ids z):=⟨fun z=>gK K (fJ u.t.ids z),fun _=>rfl⟩
 obtain⟨c,P⟩:∃ c,(g.m.filter fun p=>p.2.tree)=c:=⟨_,rfl⟩
 obtain⟨E,D⟩:∃ E,(c.map fun p=>(⟨φ p.2.a,φ p.2.b,0⟩:Ge))=E:=⟨_,rfl⟩
 have F:∀ p,p∈c↔p∈g.m/\p.2.tree=true:=fun p=>by rw[<-P];exact kD
 have mem:∀ p∈g.m,∃ k:Nat,p.1=k/\gF g.m k=some p.2:=fun p hp=>by
  obtain⟨k,I⟩:=ag p hp
  exact⟨k,I,by show gV g.m (k:Int)=_;rw[<-I];exact J3 aa hp⟩
 have y:∀ {z:Nat} {id:Int},u.t.At z id->φ z=gK K id/\φ z<K.length/\vI u.t (fJ K (φ z))=z:=fun {z id} h=>by
  have o:=r9 l.j5 ((l.mem id).2 ⟨z,h.1,h.2⟩)
  have s:φ z=gK K id:=by rw[hφ,h.2]
  rw[s]
  exact⟨rfl,o.1,by rw[o.2];exact DO W.tok h⟩
 have N:∀ p∈g.m,(φ p.2.a<K.length/\vI u.t (fJ K (φ p.2.a))=p.2.a)/\(φ p.2.b<K.length/\vI u.t (fJ K (φ p.2.b))=p.2.b):=fun p hp=>by
  obtain⟨k,_,d⟩:=mem p hp
  obtain⟨x,_,_,Q,hb,_⟩:=H.live d
  exact⟨(y Q).2,(y hb).2⟩
 have C:∀ e∈E,e.u<K.length/\e.v<K.length:=fun e d=>by
  rw[<-D]at d
  obtain⟨p,hp,rfl⟩:=zz.1 d
  have:=N p ((F p).1 hp).1
  exact⟨this.1.1,this.2.1⟩
 have am:E.length=c.length:=by rw[<-D];exact zq _
 have at_:∀ j,j<c.length->fJ E j=⟨φ (fJ c j).2.a,φ (fJ c j).2.b,0⟩:=fun j w=>ij (by rw[<-D,z7,gz w];rfl)
 have al:(c.map Prod.fst).Nodup:=by rw[<-P];exact aa.sublist (vz.map _)
 have Q:∀ k,k<E.length->fJ (kY (E.take k) K.length) (fJ E k).u≠fJ (kY (E.take k) K.length) (fJ E k).v:=fun k I e=>by
  have T:k<c.length:=by omega
  obtain⟨J,ah⟩:=(F _).1 (zd (gz T))
  obtain⟨kk,af,G⟩:=mem _ J
  have b:=C _ (zd (gz I))
  have hc:=(I8 (fun e d=>C e (G3 d)) b.1 b.2).1 e
  have R:=hc.map (B:=Eo (gF g.m) kk) (φ:=fun q=>vI u.t (fJ K q)) fun i j ⟨e,d,U⟩=>by
   obtain⟨r,V⟩:=G0 d
   have aj:=(zk.1 V).1
   rw[z8]at aj
   rw[DH o_]at V
   have M:r<c.length:=by omega
   have e1:=ij V
   rw[at_ r M]at e1
   obtain⟨ab,ai⟩:=(F _).1 (zd (gz M))
   obtain⟨rr,ak,ae⟩:=mem _ ab
   have n:=N _ ab
   refine⟨rr,(fJ c r).2,fun e9=>?_,ae,ai,?_⟩
   . have h7:(c.map Prod.fst)[r]? = (c.map Prod.fst)[k]? := by
      rw[z7,z7,gz M,gz T]
      show some (fJ c r).1=some (fJ c k).1
      rw[ak,af,e9]
     have:=(List.getElem?_inj (by rw[zq];exact M) al).1 h7
     omega
   . subst e1
     rcases U with ⟨rfl,rfl⟩|⟨rfl,rfl⟩
     . exact .inl ⟨n.1.2,n.2.2⟩
     . exact .inr ⟨n.2.2,n.1.2⟩
  rw[at_ k T]at R
  have n:=N _ J
  simp only[n.1.2,n.2.2]at R
  exact O.uF kk _ G ah R
 have cnt:=KM C Q E.length (zo _)
 rw[qB]at cnt
 have hg:∀ e∈es,e.u<K.length/\e.v<K.length:=fun e d=>⟨(S.g e d).1,(S.g e d).2.1⟩
 have same:kY E K.length=kY es K.length:=nV.ext (uO C).ok (uO hg).ok fun i j hi w=>by
  rw[I8 C hi w,I8 hg hi w]
  constructor
  . intro t
    refine t.bind fun i j ⟨e,d,U⟩=>?_
    rw[<-D]at d
    obtain⟨p,hp,rfl⟩:=zz.1 d
    have J:=((F p).1 hp).1
    obtain⟨k,_,G⟩:=mem p J
    obtain⟨x,_,_,o,s,_⟩:=H.live G
    have X:=(H.conn W l hL hP o s).1 (.one ⟨k,p.2,G,.inl ⟨rfl,rfl⟩⟩)
    rw[<-(y o).1,<-(y s).1]at X
    rcases U with ⟨rfl,rfl⟩|⟨rfl,rfl⟩
    . exact X
    . exact X.symm fun i j=>Ee.symm
  . intro t
    obtain⟨zi,ac⟩:=(l.mem _).1 (zd (gz hi))
    obtain⟨zj,ad⟩:=(l.mem _).1 (zd (gz w))
    have Y:=FO l.j5 hi
    have Z:=FO l.j5 w
    have t2:=O.conn.2 ((H.conn W l hL hP ac ad).2 (by rw[Y,Z];exact t))
    have t3:∀ i j,Cn A i j->Cn (fun a b=>Ee E (φ a) (φ b)) (rp fL (gF g.m) i) (rp fL (gF g.m) j):=fun i j t=>by
     induction t with
     | refl=>exact .refl _
     | step a _ ih =>
      refine(O.S3 a fun k e o s _=>?_).trans ih
      have h3:(⟨φ e.a,φ e.b,0⟩:Ge)∈E:=by
       rw[<-D]
       exact zz.2 ⟨((k:Int),e),(F _).2 ⟨J2 o,s⟩,rfl⟩
      exact⟨⟨_,h3,.inl ⟨rfl,rfl⟩⟩,⟨_,h3,.inr ⟨rfl,rfl⟩⟩⟩
    have t4:=t3 _ _ t2
    rw[mq,mq]at t4
    have t5:=t4.map (B:=Ee E) (φ:=φ) fun i j h=>h
    rw[(y ac).1,(y ad).1,Y,Z]at t5
    exact t5
 rw[same]at cnt
 have h9:=S.count
 show (g.m.filter fun p=>p.2.tree).length=f.length
 rw[P]
 omega
end Go.Sx
namespace Go.Sx
open Go
theorem UX{y:Nat}(h:0<y):(2*y) &&& (2*y-1)=2*(y &&& (y-1)):=by
 apply Nat.eq_of_testBit_eq
 intro i
 rw[Nat.testBit_and]
 cases i with
 | zero=>simp[Nat.testBit_zero]
 | succ i=>rw[DF,DF,DF,show 2*y / 2=y by omega,show (2*y-1) / 2=y-1 by omega,show 2*(y &&& (y-1)) / 2=y &&& (y-1) by omega,Nat.testBit_and]
theorem UY{m:Nat}:(2*m+1) &&& (2*m+1-1)=2*m:=by
 rw[Nat.add_sub_cancel]
 apply Nat.eq_of_testBit_eq
 intro i
 rw[Nat.testBit_and]
 cases i with
 | zero=>simp[Nat.testBit_zero]
 | succ i=>rw[DF,DF,show (2*m+1) / 2=m by omega,show 2*m / 2=m by omega,Bool.and_self]
theorem UZ(k m:Nat):(2 ^ k*(2*m+1)) &&& (2 ^ k*(2*m+1)-1)=2 ^ k*(2*m+1)-2 ^ k:=by
 induction k with
 | zero=>rw[Nat.pow_zero,Nat.one_mul,UY];omega
 | succ k b =>
  have a:0<2 ^ k*(2*m+1):=Nat.mul_pos (Nat.pow_pos d_) o_
  have e:2 ^ (k+1)*(2*m+1)=2*(2 ^ k*(2*m+1)):=by rw[DM,Nat.mul_comm (2 ^ k) 2,Nat.mul_assoc]
  rw[e,UX a,b,DM]
  omega
theorem Iy{x:Nat}(c:x≠0)(h:x<2 ^ 64):x &&& (x-1)=x-2 ^ Lib.ctz 64 x/\2 ^ Lib.ctz 64 x<=x:=by
 obtain⟨m,hm,d⟩:=Lib.ctzFrom_spec 64 x o_ h
 have e:Lib.ctz 64 x=Lib.ctzFrom 64 x:=by simp[Lib.ctz,c]
 rw[e]
 have a:=UZ (Lib.ctzFrom 64 x) m
 rw[<-hm]at a
 refine⟨a,?_⟩
 have b:2 ^ Lib.ctzFrom 64 x*1<=2 ^ Lib.ctzFrom 64 x*(2*m+1):=BC _ o_
 rw[<-hm,sJ]at b
 exact b
theorem Wc{x:Nat}(a:x≠0)(h:x<8192):Lib.ctz 64 x<13:=by
 have c:=(Iy a (oC h d_)).2
 apply Nat.lt_of_not_le
 intro b
 have d:2 ^ 13<=2 ^ Lib.ctz 64 x:=Nat.pow_le_pow_right d_ b
 have e:(2:Nat) ^ 13=8192:=by decide
 omega
structure BN (ps:List Int) (v0 d0 d v:Nat):Prop where
 le:d<=d0
 at_:v=gI ps (d0-d) v0
theorem BN.next{ps:List Int}{b a d v:Nat}(hp:jV ps)(hv:b<ps.length)(hd:a<=gj ps b)(i:a<8192)(h:BN ps b a d v)(e:d≠0) :
 v<ps.length/\fJ (jt ps (Lib.ctz 64 d)) v=((gI ps (2 ^ Lib.ctz 64 d) v:Nat):Int)/\BN ps b a (d &&& (d-1)) (gI ps (2 ^ Lib.ctz 64 d) v):=by
 have g:=h.le
 obtain⟨c,l⟩:=Iy e (Nat.lt_of_le_of_lt g (oC i d_))
 obtain⟨a1,a2,_⟩:=ow hp hv (k:=a-d) o_
 rw[<-h.at_]at a1 a2
 have f:=Js hp a1 (j:=Lib.ctz 64 d)
 generalize 2 ^ Lib.ctz 64 d=E at *
 refine⟨a1,f o_,by rw[c];omega,?_⟩
 rw[c,show a-(d-E)=(a-d)+E by omega,qx,<-h.at_]
end Go.Sx
namespace Go.Sx
open Go
theorem fU.Ip{fN fL:Nat}{s:fU}(h:s.ok fN fL)(l:s.t.A.ok){u v:Int}(g:u≠v){L:List Lv}{K:List Int}(z:L.length<fL)(n:∀ x,s.has x->x∈L)
 (m:∀ x,s.has x->x.u∈K/\x.v∈K) (q:u∈K) (hv:v∈K) (hk:K.length<=fN):s.gN fN fL u v=0:=by
 have k:((s.A.list s.A.begun).map fun i:Nat=>(i:Int)).length<=(L.map Lv.slot).length:=AV _ _ (by
  rw[List.Nodup,Hi]
  exact(s.A.CK _).imp fun {a b} B e=>by omega) fun j p=>by
  obtain⟨i,hi,rfl⟩:=zz.1 p
  have f:=(h.kW.o7 i).1 hi
  exact zz.2 ⟨_,n _ ⟨i,f,rfl⟩,h.slot i f⟩
 rw[zq,zq,h.kW.AP]at k
 obtain⟨c,k1,C,w⟩:=TW.Ih h.tok l g
 have y:c.length<=K.length:=AV c K k1 fun x r=>by
  rcases(w x).1 r with hm|rfl|rfl
  . obtain⟨i,hi,o⟩:=(h.mem x).1 hm
    have d:=m _ ⟨i,hi,rfl⟩
    rcases o with e|e
    . rw[<-e];exact d.1
    . rw[<-e];exact d.2
  . exact q
  . exact hv
 exact fU.Ay g o_ o_
structure WW.Ins (c:WC) (s s2:WW) (x:Lv):Prop where
 has:∃ i:Nat,∀ y,s2.u.has y↔(s.u.has y/\x.t<y.exp)\/y=⟨(i:Int),s.u.last+1,x.u,x.v,x.wt,x.t,x.t+c.win⟩
 last:s2.u.last=s.u.last+1
 now:s2.now=x.t
 added:s2.added=s.added+1
structure WW.Uz (c:WC) (s s2:WW) (x:Lv) (e:Int):Prop where
 step:WW.Step s s2 x
 ins:e=0->WW.Ins c s s2 x
 room:s.u.gN c.fN c.fL x.u x.v=0->e=0
abbrev cW:WC:=⟨10,4,4,4⟩
abbrev wE(i:Nat)(q u v w t:Int):Lv:=⟨(i:Int),q,u,v,w,t,t+10⟩
section
variable {s s1 s2 s3:WW}
theorem agr(b:∀ y,¬ s.u.has y)(c:s.u.last=0)(h:WW.Ins cW s s1 ⟨0,0,1,2,5,0,0⟩):(∃ i,∀ y,s1.u.has y↔y=wE i 1 1 2 5 0)/\s1.u.last=1:=by
 obtain⟨⟨i,hi⟩,a,_,_⟩:=h
 rw[c]at a hi
 exact⟨⟨i,fun y=>(hi y).trans ⟨fun h=>h.elim (fun h=>absurd h.1 (b y)) id,.inr⟩⟩,a⟩
theorem ags{i:Nat}(c:∀ y,s1.u.has y↔y=wE i 1 1 2 5 0)(d:s1.u.last=1)(h:WW.Ins cW s1 s2 ⟨0,0,2,3,7,4,0⟩):(∃ j,∀ y,s2.u.has y↔y=wE i 1 1 2 5 0\/y=wE j 2 2 3 7 4)/\s2.u.last=2:=by
 obtain⟨⟨j,b⟩,a,_,_⟩:=h
 rw[d]at a b
 refine⟨⟨j,fun y=>(b y).trans (or_congr_left ?_)⟩,a⟩
 rw[c]
 exact⟨fun h=>h.1,fun h=>⟨h,by rw[h];show (4:Int)<0+10;decide⟩⟩
theorem agt{i j:Nat}(b:∀ y,s2.u.has y↔y=wE i 1 1 2 5 0\/y=wE j 2 2 3 7 4)(c:s2.u.last=2)(h:WW.Ins cW s2 s3 ⟨0,0,1,3,9,6,0⟩) :
 ∃ k,∀ y,s3.u.has y↔(y=wE i 1 1 2 5 0\/y=wE j 2 2 3 7 4)\/y=wE k 3 1 3 9 6:=by
 obtain⟨⟨k,a⟩,_,_,_⟩:=h
 rw[c]at a
 refine⟨k,fun y=>(a y).trans (or_congr_left ?_)⟩
 rw[b]
 refine⟨fun h=>h.1,fun h=>⟨h,?_⟩⟩
 rcases h with rfl|rfl
 . exact(by decide:(6:Int)<0+10)
 . exact(by decide:(6:Int)<4+10)
def me:List Ge:=[⟨0,1,5⟩,⟨1,2,7⟩,⟨0,2,9⟩]
theorem agv{fN fL:Nat}(U:s3.u.ok fN fL){i j k:Nat}(h:∀ y,s3.u.has y↔(y=wE i 1 1 2 5 0\/y=wE j 2 2 3 7 4)\/y=wE k 3 1 3 9 6){K:List Int}{L:List Lv}{es:List Ge}
 (R:s3.u.pK K) (S:s3.u.mB L) (s:oQ K L es L.length):K=[1,2,3]/\L.length=3/\es=me:=by
 have e1:L=[wE i 1 1 2 5 0,wE j 2 2 3 7 4,wE k 3 1 3 9 6]:=S.uniq ⟨fun x=>by rw[h];simp[or_assoc],s_⟩
 have P:K=[1,2,3]:=R.uniq ⟨s_,fun x=>by
  rw[U.mem]
  constructor
  . intro l
    simp only[zg,mz,or_false]at l
    rcases l with rfl|rfl|rfl
    . obtain⟨n,c,e⟩:=(h (wE i 1 1 2 5 0)).2 (.inl (.inl rfl));exact⟨n,c,by rw[e];exact .inl rfl⟩
    . obtain⟨n,c,e⟩:=(h (wE i 1 1 2 5 0)).2 (.inl (.inl rfl));exact⟨n,c,by rw[e];exact .inr rfl⟩
    . obtain⟨n,c,e⟩:=(h (wE j 2 2 3 7 4)).2 (.inl (.inr rfl));exact⟨n,c,by rw[e];exact .inr rfl⟩
  . rintro⟨n,c,m⟩
    rcases(h _).1 ⟨n,c,rfl⟩with (e|e)|e<;>rw[e]at m<;>rcases m with rfl|rfl<;>simp⟩
 subst e1 P
 refine⟨rfl,rfl,?_⟩
 have T:=s.len
 have f:∀ n:Nat,n<3->Ma [1,2,3] (fJ [wE i 1 1 2 5 0,wE j 2 2 3 7 4,wE k 3 1 3 9 6] n) (fJ es n):=fun n c=>s.fst n c
 have g:∀ a:Nat,a<3->∀ x:Int,fJ ([1,2,3]:List Int) a=x->(a:Int)+1=x:=fun a m x l=>by
  match a,m with
  | 0,_=>exact l
  | 1,_=>exact l
  | 2,_=>exact l
 match es,T,f with
 | [a,b,d],_,f =>
  have fa:=f 0 d_
  have fb:=f 1 d_
  have Q:=f 2 d_
  obtain⟨a1,a2,a3,t,v⟩:=fa
  obtain⟨b1,b2,b3,A,B⟩:=fb
  obtain⟨F,G,H,I,J⟩:=Q
  have w:=g _ a1 _ a3;have z:=g _ a2 _ t
  have C:=g _ b1 _ b3;have D:=g _ b2 _ A
  have M:=g _ F _ H;have N:=g _ G _ I
  obtain⟨o,p,aw⟩:=a
  obtain⟨q,bv,E⟩:=b
  obtain⟨r,dv,O⟩:=d
  change (o:Int)+1=1 at w;change (p:Int)+1=2 at z;change aw=5 at v
  change (q:Int)+1=2 at C;change (bv:Int)+1=3 at D;change E=7 at B
  change (r:Int)+1=1 at M;change (dv:Int)+1=3 at N;change O=9 at J
  have:o=0:=by omega
  have:p=1:=by omega
  have:q=1:=by omega
  have:bv=2:=by omega
  have:r=0:=by omega
  have:dv=2:=by omega
  subst_vars
  rfl
end
end Go.Sx
namespace Go.Sx
open Go
theorem agu:nv me 3 [0,1]:=⟨[0,1,2],⟨List.Perm.refl _,d_⟩,d_⟩
theorem Ui:(fV me 3 [0,1]).p=[3,3,4,4,-1]/\(fV me 3 [0,1]).h=[0,0,0,5,7]/\(fV me 3 [0,1]).s=[1,1,1,2,3]:=by decide
theorem LJ{es:List Ge}{n:Nat}{f:List Nat}(h:gP es n f)(a:es=me)(b:n=3):f=[0,1]:=by
 subst a b
 exact h.f.uniq agu
section
variable {f:List Nat} (h:gP me 3 f)
include h
theorem Uj:gQ me 3 f (jc (fV me 3 f).p (fV me 3 f).h 7 2)=0/\fJ (fV me 3 f).s (jc (fV me 3 f).p (fV me 3 f).h 7 2)=3:=by
 have hp:=h.mO
 obtain rfl:=LJ h rfl rfl
 obtain⟨e1,a,b⟩:=Ui
 rw[e1]at hp
 rw[e1,a,b,xR hp d_ d_ d_]
 show gQ me 3 [0,1] (jc _ _ 7 4)=0/\fJ _ (jc _ _ 7 4)=3
 rw[Ci d_]
 decide
theorem agx{z:Nat}{B:Bool}(k:pG (fV me 3 f).p 0 2 z B):B=true/\fJ (fV me 3 f).h z=7:=by
 have hp:=h.mO
 obtain rfl:=LJ h rfl rfl
 obtain⟨e1,m,q⟩:=Ui
 rw[e1]at hp k
 rw[m]
 have d:gj [3,3,4,4,-1] 4=0:=EC d_
 have l:gj [3,3,4,4,-1] 3=1:=by rw[Az hp (j:=3) (i:=4) d_ d_,d]
 have b:gj [3,3,4,4,-1] 0=2:=by rw[Az hp (j:=0) (i:=3) d_ d_,l]
 have c:gj [3,3,4,4,-1] 2=1:=by rw[Az hp (j:=2) (i:=4) d_ d_,d]
 rcases k with ⟨rfl,s,t,e,g,n,a,_⟩|⟨_,_,o⟩
 . rw[b]at e
   rw[c]at g
   refine⟨rfl,?_⟩
   subst n
   match s,e,t,g,a with
   | 0,_,0,_,a=>exact absurd a d_
   | 0,_,1,_,a=>exact absurd a d_
   | 1,_,0,_,a=>exact absurd a d_
   | 1,_,1,_,a=>exact absurd a d_
   | 2,_,0,_,a=>exact absurd a d_
   | 2,_,1,_,_=>decide
 . exact absurd d_ (o 2 1 (by rw[b];exact zo _) (by rw[c];exact zo _))
theorem agw:f=[0,1]/\(nZ me 3 f f.length).map (fun m=>(m.a,m.b,m.h))=[(0,1,5),(0,2,7)]:=by
 obtain rfl:=LJ h rfl rfl
 exact⟨rfl,d_⟩
end
end Go.Sx
namespace Go.Sx
open Go
def FZ(l:List Oper)(pre:List (List Nat))(mem:List Nat):Bool :=
 FQ l pre &&
 (l.all fun o => !Fc o.op) &&
 ((List.range l.length).all fun j=>(l[j]?).all fun o=>o.after.toList.all fun e => !Region.binds .any e||decide (e.on<j)) &&
 ((
  List.range l.length).all fun j=>(List.range j).all fun i =>
  match l[i]?,l[j]? with
  | some x,some y => !(nq l.toArray x y||nq l.toArray y x)||(pre.getD j []).contains i
  | _,_=>true) &&
 (mem.all fun m=>decide (m<l.length))
def r7(pre:List (List Nat))(mem:List Nat)(i:Nat)(d:List Nat):Bool :=
 !(d.contains i)&&mem.all fun m=>(!((pre.getD i []).contains m)||d.contains m)&&(!(d.contains m) || !((pre.getD m []).contains i))
def tL(mem d:List Nat)(i:Nat):List Nat:=mem.filter fun j=>d.contains j||j==i
section
variable {Γ:Type} (P:Program) (ops:Array Oper) (Q:Exit->Act->World->Prop) (n:Nat) (ds:List Deferred) (s0:List (Nat×Value))
def mC(l0:List Oper)(pre:List (List Nat))(mem:List Nat)(V:List (Γ->Value))(M:List Nat->Γ->World->Prop):Nat->(Γ->List (Nat×Value))->List Oper->List (Γ->Value)->Prop
 | i,s,o :: l,v :: vs =>
  (
   bif mem.contains i then ∀ d,r7 pre mem i d=true->∀ g w,M d g w->nC P ops Q n ds s0 l0 o (s g) (fun v' w' => ∃ a, M (tL mem d i) a w' /\ v' = v a /\ l9 pre i g a 0 V) w
   else ∀ d,r7 pre mem i d=true->∀ g w,M d g w->mE P ops n o (s g) (v g) (M d g) w) /\
  mC l0 pre mem V M (i+1) (fun g=>kI o.dst (v g) (s g)) l vs
 | _,_,[],[]=>True
 | _,_,_,_=>False
end
section
variable {Γ:Type} {r:Option Nat} {P:Program} {Q:Exit->Act->World->Prop} {n:Nat} {ds:List Deferred} {s0:List (Nat×Value)} {l:List Oper} {pre:List (List Nat)} {mem:List Nat} {V:List (Γ->Value)} {M:List Nat->Γ->World->Prop}
theorem mC.get{l0:List Oper}:∀ (l:List Oper) (vs:List (Γ->Value)) (b:Nat) (s:Γ->List (Nat×Value)),mC P l0.toArray Q n ds s0 l0 pre mem V M b s l vs->l.length=vs.length /\
 ∀ k o,l[k]? = some o->∃ v,vs[k]? = some v /\
  (
   bif mem.contains (b+k)then ∀ d,r7 pre mem (b+k) d=true->∀ g w,M d g w->nC P l0.toArray Q n ds s0 l0 o (iX (fun j=>decide (j<b+k)) b l (vs.map (· g)) (s g)) (fun v' w' => ∃ c, M (tL mem d (b+k)) c w' /\ v' = v c /\ l9 pre (b+k) g c 0 V) w
   else ∀ d,r7 pre mem (b+k) d=true->∀ g w,M d g w->mE P l0.toArray n o (iX (fun j=>decide (j<b+k)) b l (vs.map (· g)) (s g)) (v g) (M d g) w):=by
 intro l
 induction l with
 | nil=>intro vs b s h;cases vs with|nil=>exact⟨rfl,fun k o a=>by simp at a⟩|cons v vs=>exact h.elim
 | cons o l f =>
  intro vs b s h
  cases vs with
  | nil=>exact h.elim
  | cons v vs =>
   obtain⟨p,q⟩:=h
   obtain⟨e,r⟩:=f vs (b+1) _ q
   refine⟨by simp[e],fun k x a=>?_⟩
   cases k with
   | zero =>
    simp at a
    subst a
    refine⟨v,rfl,?_⟩
    have hs:∀ g,iX (fun j=>decide (j<b+0)) b (o :: l) ((v :: vs).map (· g)) (s g)=s g:=by
     intro g
     have key:∀ (l:List Oper) (us:List Value) (i:Nat) (s:List (Nat×Value)),b<=i->iX (fun j=>decide (j<b+0)) i l us s=s:=by
      intro l
      induction l with
      | nil=>intro us i s _;cases us<;>rfl
      | cons o l f=>intro us i s hi;cases us with|nil=>rfl|cons u us=>simp only[iX];rw[show decide (i<b+0)=false by simp;omega];exact f us (i+1) s o_
     exact key _ _ _ _ (zo _)
    simp only[hs]
    exact p
   | succ k =>
    obtain⟨v', t, m⟩:=r k x (by simpa using a)
    refine⟨v', by simpa using t, ?_⟩
    rw[show b+1+k=b+(k+1) by omega]at m
    have hs:∀ g,iX (fun j=>decide (j<b+(k+1))) b (o :: l) ((v :: vs).map (· g)) (s g)=iX (fun j=>decide (j<b+(k+1))) (b+1) l (vs.map (· g)) (kI o.dst (v g) (s g)):=by
     intro g
     simp only[kr,iX]
     rw[show decide (b<b+(k+1))=true by simp]
     rfl
    simp only[hs]
    exact m
theorem contains_filter{S:Nat->Bool}{mem:List Nat}{j:Nat}(a:j∈mem):(mem.filter S).contains j=S j:=by
 cases h:S j with
 | true=>simp[h,a]
 | false=>simp[h]
theorem Rs{S:Nat->Bool}{i:Nat}(d:(mem.all fun m=>decide (m<l.length))=true)(a:∀ k,(pre.getD i []).contains k=true->S k=true)(e:∀ k,k<l.length->(pre.getD k []).contains i=true->S k=false)(b:S i=false):r7 pre mem i (mem.filter S)=true:=by
 simp only[r7,mU,Hg,zt]
 refine⟨by simp[b],fun m hm=>⟨?_,?_⟩⟩
 . rw[contains_filter hm]
   cases h:(pre.getD i []).contains m with
   | true=>simp[a m h]
   | false=>rfl
 . rw[contains_filter hm]
   have c:m<l.length:=of_decide_eq_true (zt.1 d m hm)
   cases h:(pre.getD m []).contains i with
   | true=>simp[e m c h]
   | false=>simp
theorem Sq{id:Nat}{w:World}(hm:P.follows .mixedOrders=true)(pre:List (List Nat))(mem:List Nat)(ay:FZ l pre mem=true)(V:List (Γ->Value))(M:List Nat->Γ->World->Prop)(g0:Γ)(sE:Γ->List (Nat×Value))
 (h0:M [] g0 w.drew) (hO:mC P l.toArray Q n ds s0 l pre mem V M 0 (fun _=>s0) l V) (hE:∀ g,iX (fun _=>true) 0 l (V.map (· g)) s0=sE g)
 (aI:∀ g w', M mem g w' -> Q .normal (Fr n (sE g) ds) w'):WP r P (.region id l.toArray true) Q (Fr n s0 ds) w:=by
 simp only[FZ,mU]at ay
 obtain⟨⟨⟨⟨ap,aQ⟩,aF⟩,aH⟩,al⟩:=ay
 obtain⟨aW,av⟩:=mC.get (l0:=l) l V 0 (fun _=>s0) hO
 simp only[lS]at av
 -- conflicts are ordered
 have ae:∀ i j x y,l[i]? = some x->l[j]? = some y->i<j->(nq l.toArray x y=true\/nq l.toArray y x=true)->(pre.getD j []).contains i=true:=by
  intro i j x y X hy ak h
  have p:j<l.length:=(zk.1 hy).1
  have z:=zt.1 (zt.1 aH j (k9.2 p)) i (k9.2 ak)
  simp only[X,hy]at z
  rcases vw.1 z with A|A
  . exfalso
    have N:(nq l.toArray x y||nq l.toArray y x)=true:=by
     rcases h with h|h<;>simp[h]
    rw[N]at A
    cases A
  . exact A
 refine wpIn_region_any hm ?_
 have aY:l.toArray.size=l.length:=by simp
 -- the invariant
 let c:Array Bool->Nat->Bool:=fun a i=>a.getD i false
 have aV:∀ (fuel:Nat) (a:Array Bool) (g:Γ) (w:World),a.size=l.length->a.toList.countP (! ·)<=fuel->Down l (c a)->M (mem.filter (c a)) g w ->
  wpAnyIn (FW r) 0 P .any l.toArray Q fuel a (Fr n (iX (c a) 0 l (V.map (· g)) s0) ds) w:=by
  intro fuel
  have fin:∀ (a:Array Bool) (g:Γ) (w:World),a.size=l.length->(∀ i,i<l.length->c a i=true)->M (mem.filter (c a)) g w->Q .normal (Fr n (iX (c a) 0 l (V.map (· g)) s0) ds) w:=by
   intro a g w hs U E
   have e1:mem.filter (c a)=mem:=uk.2 fun m aO => U m (by simpa using of_decide_eq_true (zt.1 al m aO))
   rw[e1]at E
   have e2:Fr n (iX (c a) 0 l (V.map (· g)) s0) ds=Fr n (sE g) ds:=by
    rw[<-hE g]
    refine vL ds fun t=>?_
    rw[o6,o6]
    congr 1
    refine AO l 0 _ _ rfl fun j o p _=>⟨?_,fun _=>rfl⟩
    rw[lS]
    exact U j (zk.1 p).1
   rw[e2]
   exact aI g w E
  have aB:∀ (a:Array Bool),a.size=l.length->Region.ready .any l.toArray a=[]->∀ i,i<l.length->c a i=true:=by
   intro a hs q i
   induction i using Nat.strongRecOn with
   | _ i ih =>
    intro hi
    cases O:c a i with
    | true=>rfl
    | false =>
     exfalso
     have:i∈Region.ready .any l.toArray a:=by
      rw[mem_ready]
      refine⟨?_,l[i],by simp[hi],fun e C hb=>?_⟩
      . have:i<a.size:=by omega
        simp only[c]at O
        simp[this]at O ⊢
        exact O
      . have z:=zt.1 aF i (k9.2 hi)
        rw[zm hi]at z
        simp only[Option.all_some,zt]at z
        have A:=z e (by simpa using C)
        rw[hb,Bool.not_true,Bool.false_or,decide_eq_true_eq]at A
        exact ih e.on A o_
     rw[q]at this
     cases this
  induction fuel with
  | zero =>
   intro a g w hs O hd E
   have hz:∀ x∈a.toList,x=true:=by
    intro x X
    have:=BB.1 (Nat.le_zero.1 O) x X
    simpa using this
   have U:∀ i,i<l.length->c a i=true:=by
    intro i hi
    have aj : i<a.size:=by omega
    simp only[c]
    simp[aj]
    exact hz _ s_
   refine⟨?_,fin a g w hs U E⟩
   cases q:Region.ready .any l.toArray a with
   | nil=>rfl
   | cons i rs =>
    have:i∈Region.ready .any l.toArray a:=by rw[q];simp
    rw[mem_ready]at this
    obtain⟨z,o,ho,_⟩:=this
    have hi:i<l.length:=by simpa using(p5.1 ho).1
    have:=U i hi
    simp only[c]at this
    have aj : i<a.size:=by omega
    simp[aj]at z this
    rw[z]at this
    cases this
  | succ fuel ih =>
   intro a g w hs O hd E
   refine⟨fun q=>fin a g w hs (aB a hs q) E,fun i hi=>?_⟩
   obtain⟨ac,o,ho,ar⟩:=mem_ready.1 hi
   have D : l[i]? = some o:=by simpa using ho
   have W:i<l.length:=(zk.1 D).1
   have Z : i<a.size:=by omega
   have H:c a i=false:=by
    simp only[c];simp[Z]at ac ⊢;exact ac
   -- the set behind it
   let S:=c a
   let J := c (a.setIfInBounds i true)
   have H:S i=false:=H
   have hd:Down l S:=hd
   have G : ∀ j,J j=(S j||j==i):=fun j=>I5 a i j Z
   have ai : Down l J := ⟨fun j B p Y e C hb=>by
    rw[G]at Y ⊢
    rcases vw.1 Y with h|h
    . rw[show S e.on=true from hd.closed j B p h e C hb];rfl
    . have:j=i:=by simpa using h
      subst this
      have:B=o:=Option.some.inj (p.symm.trans D)
      subst this
      rw[show S e.on=true from ar e C hb];rfl⟩
   have az:=fun j=>C6 (S:=S) ap hd j
   have aP := fun j=>C6 (S:=J) ap ai j
   -- what waits for i has not come up
   have R:∀ k,k<l.length->(pre.getD k []).contains i=true->S k=false:=by
    intro k I aM
    cases T:S k with
    | false=>rfl
    | true=>have:=az k T I i aM;rw[H]at this;cases this
   -- what i waits for has
   have ad:∀ k,(pre.getD i []).contains k=true->S k=true:=by
    intro k I
    have z:=aP i (by rw[G];simp) W k I
    rw[G]at z
    rcases vw.1 z with h|h
    . exact h
    . exfalso
      have e:k=i:=by simpa using h
      subst e
      have:=R k W I
      -- k is in fP own list: then it has come up before itself
      have A:=zt.1 (zt.1 ap k (k9.2 W)) k (by simpa using I)
      rw[zm W]at A
      simp only[Option.any_some,List.any_eq_true,mU,decide_eq_true_eq,BI,beq_iff_eq]at A
      obtain⟨e,C,⟨hb,aX⟩,N⟩:=A
      have aE:S e.on=true:=by
       have:l[k]=o:=by rw[zm W]at D; exact Option.some.inj D
       rw[this]at C
       exact ar e (by simpa using C) hb
      rcases N with N|N
      . omega
      . have:=az e.on aE o_ k (by simpa using N)
        rw[H]at this;cases this
   -- the slots that it looks at hold what they hold in the order of the text
   have agree:∀ t,t∈o.looksAt l.toArray->look (iX S 0 l (V.map (· g)) s0) t=look (iX (fun j=>decide (j<i)) 0 l (V.map (· g)) s0) t:=by
    intro t F
    rw[o6,o6]
    congr 1
    refine AO l 0 _ _ rfl fun j B p L=>⟨?_,fun _=>rfl⟩
    rw[lS]
    have aA:nq l.toArray B o=true:=by simp[nq,L,F]
    rcases Hj j i with h|h|h
    . simp[h,ad j (ae j i B o p D h (.inl aA))]
    . subst h;simp[H,S]
    . have:=R j (zk.1 p).1 (ae i j o B D p h (.inr aA))
      simp[this];omega
   have au:execOp (ev n (iX S 0 l (V.map (· g)) s0)) o=execOp (ev n (iX (fun j=>decide (j<i)) 0 l (V.map (· g)) s0)) o:=by
    refine execOp_congr o (fun cs b e=>?_) fun x X=>?_
    . have:=zt.1 aQ o (zd D)
      rw[e]at this
      simp[Fc]at this
    . cases x with
      | tmp t =>
       simp only[ev]
       rw[agree t (xw _ (Hf.2 ⟨.tmp t,by simpa using X,rfl⟩))]
      | _=>rfl
   have ab:gE l.toArray n (iX S 0 l (V.map (· g)) s0) o.guard=gE l.toArray n (iX (fun j=>decide (j<i)) 0 l (V.map (· g)) s0) o.guard:=by
    cases hg:o.guard with
    | none=>rfl
    | some gd =>
     obtain⟨jg,aZ⟩:=gd
     simp only[gE]
     have e:we l.toArray.toList jg=(l.toArray[jg]?).bind (·.dst):=by rw[IF];simp
     rw[e]
     cases hdg:(l.toArray[jg]?).bind (·.dst)with
     | none=>rfl
     | some d =>
      simp only[ev]
      rw[agree d (xu _ (by rw[hg];simp only;rw[hdg];simp))]
   -- the frame behind it
   have aq:(a.setIfInBounds i true).toList.countP (! ·)<=fuel:=by
    have:(a.setIfInBounds i true).toList.countP (! ·)+1<=a.toList.countP (! ·):=by
     rw[LM]
     have aw:i<a.toList.length:=by simpa using Z
     have aJ:a.toList[i]=false:=by simp[Z]at ac;simpa using ac
     have e:=vu i a.toList
     have e2:a.toList=a.toList.take i++false :: a.toList.drop (i+1):=by
      conv=>lhs;rw[<-e,Bw aw,aJ]
     have e3:a.toList.set i true=a.toList.take i++true :: a.toList.drop (i+1):=by
      rw[LO,if_pos aw]
     rw[e3]
     conv=>rhs;rw[e2]
     simp[List.countP_append,xm]
     omega
    omega
   have frame:∀ (s : Γ) (v:Γ->Value),V[i]? = some v->(∀ k u,V[k]? = some u->S k=true->u s = u g) ->
    (Fr n (iX S 0 l (V.map (· g)) s0) ds).put o.dst (v s)=Fr n (iX J 0 l (V.map (· s)) s0) ds:=by
    intro s v hv aR
    rw[zX]
    refine vL ds fun t=>?_
    rw[JM,o6,o6]
    by_cases hdt:o.dst=some t
    . rw[if_pos hdt]
      have:ng J t 0 l (V.map (· s))=some (v s):=by
       refine Qo l 0 i _ o (v s) D hdt (by simp[hv]) (by rw[lS,G];simp) fun j B ak p L=>?_
       rw[lS,G]
       have aU:nq l.toArray o B=true:=by simp[nq,hdt,L]
       have:=R j (zk.1 p).1 (ae i j o B D p ak (.inl aU))
       simp[this];omega
      rw[this];rfl
    . rw[if_neg hdt]
      congr 1
      refine AO l 0 _ _ s_ fun j B p L=>?_
      rw[lS,G]
      have aL:¬ j=i:=by
       rintro rfl
       have:B=o:=Option.some.inj (p.symm.trans D)
       subst this
       exact hdt L
      refine⟨by simp[aL],fun Y=>?_⟩
      have ax:j<V.length:=by have:=(zk.1 p).1;omega
      simp only[z7,zm ax,xA]
      rw[aR j _ (zm ax) Y]
   obtain⟨v,hv,aa⟩:=av i o D
   unfold wpOpIn
   rw[ho]
   simp only
   by_cases himem:i∈mem
   . -- an operation on memory
     have ah:mem.contains i=true:=by simpa using himem
     rw[ah]at aa
     have ao:r7 pre mem i (mem.filter S)=true:=Rs al ad R H
     have aK:tL mem (mem.filter S) i=mem.filter J := by
      unfold tL
      refine xz fun j p=>?_
      rw[G]
      have:(mem.filter S).contains j=S j:=contains_filter p
      rw[this]
     have aD : M (mem.filter S) g w:=E
     have next:∀ v' w', (∃ s, M (tL mem (mem.filter S) i) s w' /\ v' = v s /\ l9 pre i g s 0 V) ->
      wpAnyIn (FW r) 0 P .any l.toArray Q fuel (a.setIfInBounds i true) ((Fr n (iX S 0 l (V.map (· g)) s0) ds).put o.dst v') w' := by
      rintro v' w' ⟨s, af,rfl,aS⟩
      have:=ih (a.setIfInBounds i true) s w' (by simpa using hs) aq ai (by rw[show mem.filter (c (a.setIfInBounds i true))=tL mem (mem.filter S) i from aK.symm];exact af)
      rw[frame s v hv ?_]
      . exact this
      . intro k u I T
        refine l9.get V 0 aS k u I ?_
        rw[lS]
        have aN:k<l.length:=by have:=(zk.1 I).1;omega
        have z:(pre.getD k []).contains i=false:=by
         cases h:(pre.getD k []).contains i with
         | false=>rfl
         | true=>have:=R k aN h;rw[T]at this;cases this
        have A:¬ k=i:=by rintro rfl;rw[H]at T;cases T
        rw[z];simp[A]
     rcases aa _ ao g w aD with ⟨F,am,ag⟩|⟨F,K⟩
     . rw[ry,ab,F,if_pos rfl]
       refine⟨fun _ _=>trivial,?_⟩
       rw[semAt_eq (wM am),pJ, au]
       rcases ag with ⟨v', w', q,K⟩|⟨w', q,K⟩|⟨f,args,q,hC⟩
       . rw[q];exact next v' w' K
       . rw[q];exact next undef w' K
       . rw[q]
         refine⟨fun h=>by simp[FW]at h,uI.2 (Calls.mono hC ?_)⟩
         intro e w' C
         cases e with
         | returned v' => exact next v' w' C
         | panicked ch =>
          refine C _ fun t aT => ?_
          rw[o6,CF l 0 _ (fun j B p L=>absurd L (aT B (zd p)))]
          rfl
         | outgrown=>exact C
     . rw[ry,ab,F]
       exact⟨fun _ _=>trivial,next undef w K⟩
   . have ah:mem.contains i=false:=by simpa using himem
     rw[ah]at aa
     have aG : mem.filter J = mem.filter S:=by
      refine xz fun j p=>?_
      rw[G]
      have:¬ j=i:=by rintro rfl;exact himem p
      simp[this]
     have ao:r7 pre mem i (mem.filter S)=true:=Rs al ad R H
     have next:∀ w', M (mem.filter S) g w' -> wpAnyIn (FW r) 0 P .any l.toArray Q fuel (a.setIfInBounds i true) ((Fr n (iX S 0 l (V.map (· g)) s0) ds).put o.dst (v g)) w' := by
      intro w' af
      have:=ih (a.setIfInBounds i true) g w' (by simpa using hs) aq ai (by rw[show mem.filter (c (a.setIfInBounds i true))=mem.filter S from aG];exact af)
      rw[frame g v hv (fun _ _ _ _=>rfl)]
      exact this
     rcases aa _ ao g w E with ⟨F,am,ag⟩|⟨F,K⟩
     . rw[ry,ab,F,if_pos rfl]
       refine⟨fun _ _=>trivial,?_⟩
       rw[semAt_eq (wM am),pJ, au]
       rcases ag with q|⟨f,args,q,hC⟩
       . rw[q];exact next w E
       . rw[q]
         refine⟨fun h=>by simp[FW]at h,uI.2 (Calls.mono hC ?_)⟩
         rintro e w' ⟨v', rfl,rfl,aC⟩
         exact next w' aC
     . rw[ry,ab,F]
       exact⟨fun _ _=>trivial,by rw[<-K];exact next w E⟩
 have e0:Fr n s0 ds=Fr n (iX (c (Array.replicate l.toArray.size false)) 0 l (V.map (· g0)) s0) ds:=by
  refine vL ds fun t=>?_
  rw[o6,CF l 0 _ (fun j o _ _=>?_)]
  . rfl
  . simp only[c];exact wo _ _
 have hz:mem.filter (c (Array.replicate l.toArray.size false))=[]:=LU.2 fun j _=>by
  simp only[c];rw[wo];simp
 rw[e0]
 refine aV _ _ g0 _ s_ (lq LY s_) ⟨fun j o _ h=>?_⟩ (by rw[hz];exact h0)
 exfalso
 simp only[c]at h
 rw[wo]at h
 cases h
end
def Cs:List Nat->List Nat->Bool
 | [],[]=>true
 | a :: l,b :: m=>Nat.beq a b&&Cs l m
 | _,_=>false
theorem Pe:∀ {l m:List Nat},Cs l m=true->l=m
 | [],[],_=>rfl
 | a :: l,b :: m,h=>by
  simp only[Cs,mU]at h
  rw[Bv h.1,Pe h.2]
 | [],_ :: _,h=>by cases h
 | _ :: _,[],h=>by cases h
def uT{α:Type}:List (List Nat×α)->List Nat->Option α
 | [],_=>none
 | (k,a) :: l,d=>bif Cs k d then some a else uT l d
section
variable {Γ:Type} {r:Option Nat} {P:Program} {ops:Array Oper} {Q:Exit->Act->World->Prop} {n:Nat} {ds:List Deferred} {s0:List (Nat×Value)} {l0 l:List Oper} {pre:List (List Nat)} {mem:List Nat} {V vs:List (Γ->Value)} {v:Γ->Value}
variable {bs:List (World×List Nat)} {Ls:List (List Nat×((Γ->List fS)×(Γ->World->Prop)))} {i:Nat} {s:Γ->List (Nat×Value)} {o:Oper} {L L' : Γ->List fS} {F F' : Γ->World->Prop}
def qh(bs:List (World×List Nat))(Ls:List (List Nat×((Γ->List fS)×(Γ->World->Prop))))(d:List Nat)(g:Γ)(w:World):Prop :=
 match uT Ls d with
 | some (L,F)=>St bs (L g) w/\F g w
 | none=>False
def zV(C:List Nat->(Γ->List fS)->(Γ->World->Prop)->Prop):List (List Nat×((Γ->List fS)×(Γ->World->Prop)))->Prop
 | []=>True
 | (d,L,F) :: r=>C d L F/\zV C r
theorem zV.get{C:List Nat->(Γ->List fS)->(Γ->World->Prop)->Prop}:∀ {Ls:List (List Nat×((Γ->List fS)×(Γ->World->Prop)))} {d:List Nat},zV C Ls->uT Ls d=some (L,F)->C d L F
 | [],_,_,h=>by cases h
 | (k,L0,F0) :: r,d,hf,h=>by
  simp only[uT]at h
  cases hk:Cs k d with
  | true =>
   rw[hk]at h
   simp only[cond_true,Option.some.injEq,Prod.mk.injEq]at h
   obtain⟨rfl,rfl⟩:=h
   rw[<-Pe hk]
   exact hf.1
  | false =>
   rw[hk]at h
   exact zV.get hf.2 h
theorem Ro:mC P ops Q n ds s0 l0 pre mem V (qh bs Ls) i s [] []:=trivial
theorem nN(hm:mem.contains i=false)(h:∀ g w C,mE P ops n o (s g) (v g) C w)(K:mC P ops Q n ds s0 l0 pre mem V (qh bs Ls) (i+1) (fun g=>kI o.dst (v g) (s g)) l vs) :
 mC P ops Q n ds s0 l0 pre mem V (qh bs Ls) i s (o :: l) (v :: vs):=by
 refine⟨?_,K⟩
 rw[hm]
 intro d _ g w e
 rcases h g w (qh bs Ls d g)with ⟨b,c,a|a⟩|a
 . exact .inl ⟨b,c,.inl a⟩
 . exact .inl ⟨b,c,.inr a⟩
 . exact .inr a
theorem AY(hm:mem.contains i=false)(h:zV (fun d L F=>bif r7 pre mem i d then ∀ g w,St bs (L g) w->F g w->mE P ops n o (s g) (v g) (fun w' => St bs (L g) w' /\ F g w') w else True) Ls)
 (K:mC P ops Q n ds s0 l0 pre mem V (qh bs Ls) (i+1) (fun g=>kI o.dst (v g) (s g)) l vs):mC P ops Q n ds s0 l0 pre mem V (qh bs Ls) i s (o :: l) (v :: vs):=by
 refine⟨?_,K⟩
 rw[hm]
 intro d hd g w a
 unfold qh at a ⊢
 cases hl:uT Ls d with
 | none=>rw[hl]at a;exact a.elim
 | some p =>
  obtain⟨L,F⟩:=p
  rw[hl]at a
  have b:=h.get hl
  simp only[hd,cond_true]at b
  exact b g w a.1 a.2
theorem AX(hm:mem.contains i=true)
 (h:zV (fun d L F=>bif r7 pre mem i d then ∃ L' F', uT Ls (tL mem d i)=some (L', F')/\∀ g w,St bs (L g) w->F g w->nC P ops Q n ds s0 l0 o (s g) (fun v' w' => ∃ b, (St bs (L' b) w' /\ F' b w')/\v' = v b /\ l9 pre i g b 0 V) w else True) Ls)
 (K:mC P ops Q n ds s0 l0 pre mem V (qh bs Ls) (i+1) (fun g=>kI o.dst (v g) (s g)) l vs):mC P ops Q n ds s0 l0 pre mem V (qh bs Ls) i s (o :: l) (v :: vs):=by
 refine⟨?_,K⟩
 rw[hm]
 intro d hd g w a
 unfold qh at a ⊢
 cases hl:uT Ls d with
 | none=>rw[hl]at a;exact a.elim
 | some p =>
  obtain⟨L,F⟩:=p
  rw[hl]at a
  have c:=h.get hl
  simp only[hd,cond_true]at c
  obtain⟨L', F', f, e⟩:=c
  rw[f]
  exact e g w a.1 a.2
theorem Sr{id:Nat}{w:World}(hm:P.follows .mixedOrders=true)(pre:List (List Nat))(mem:List Nat)(j:FZ l pre mem=true)(V:List (Γ->Value))(Ls:List (List Nat×((Γ->List fS)×(Γ->World->Prop))))(a:Γ)
 (sE:Γ->List (Nat×Value)) (d:uT Ls []=some (L,F)) (k:St bs (L a) w) (c:∀ w', gA [] w w' -> F a w') (f:mC P l.toArray Q n ds s0 l pre mem V (qh bs Ls) 0 (fun _=>s0) l V)
 (b:∀ g,iX (fun _=>true) 0 l (V.map (· g)) s0=sE g) (e:uT Ls mem=some (L', F'))
 (i:∀ g w', St bs (L' g) w' -> F' g w' -> Q .normal (Fr n (sE g) ds) w'):WP r P (.region id l.toArray true) Q (Fr n s0 ds) w :=
 Sq hm pre mem j V (qh bs Ls) a sE (by unfold qh;rw[d];exact⟨k.grow (gA.drew [] w),c _ (gA.drew [] w)⟩) f b fun g w' h=>by
  unfold qh at h
  rw[e]at h
  exact i g w' h.1 h.2
end
end Go.Sx
namespace Go.Sx
open Go
def sB(g:Nat->Nat)(i b:Nat):Nat->Nat:=fun j=>if j=i then b else g j
def qW(i6:List (Nat×(Nat->fS)))(c:Nat->Bool)(g:Nat->Nat):List fS:=i6.filterMap fun p=>if c p.1 then some (p.2 (g p.1))else none
theorem Q2{g:Nat->Nat}:∀ i6:List (Nat×(Nat->fS)),qW i6 (fun _=>false) g=[]
 | []=>rfl
 | p :: i6=>by rw[qW,rE];exact Q2 i6
theorem Q0{c:Nat->Bool}{g:Nat->Nat}:∀ i6:List (Nat×(Nat->fS)),(∀ p∈i6,c p.1=true)->qW i6 c g=i6.map fun p=>p.2 (g p.1)
 | [],_=>rfl
 | p :: i6,h=>by
  have:=Q0 i6 (g:=g) fun x a=>h x (by simp[a])
  unfold qW at *
  rw[rE,h p s_]
  simp[this]
theorem Q3{c c' : Nat->Bool}{g:Nat->Nat}{i b:Nat}:∀ i6:List (Nat×(Nat->fS)),(∀ p∈i6,p.1≠i)->(∀ p∈i6,c' p.1=(c p.1||p.1==i))->qW i6 c' (sB g i b)=qW i6 c g
 | [],_,_=>rfl
 | p :: i6,h,hc=>by
  have e:=Q3 (g:=g) (b:=b) i6 (fun x a=>h x (by simp[a])) (fun x a=>hc x (by simp[a]))
  have d:=h p s_
  have f:c' p.1=c p.1:=by rw[hc p s_];simp[d]
  unfold qW at *
  rw[rE,rE,e,f]
  simp[sB,d]
theorem Q1{c c' : Nat->Bool}{g:Nat->Nat}{i b:Nat}{R:Nat->fS}:∀ i6:List (Nat×(Nat->fS)),(i,R)∈i6->(i6.map (·.1)).Nodup->c i=false->(∀ p∈i6,c' p.1=(c p.1||p.1==i))->(R b :: qW i6 c g).Perm (qW i6 c' (sB g i b))
 | [],h,_,_,_=>by simp at h
 | p :: i6,h,hn,hi,hc=>by
  rw[kr,zx]at hn
  rcases zg.1 h with rfl|h
  . have d:=Q3 (g:=g) (b:=b) i6 (fun x a e=>hn.1 (by rw[show (i,R).1=x.1 from e.symm];exact List.mem_map_of_mem a)) (fun x a=>hc x (by simp[a]))
    have j:c' i=true:=by rw[hc (i,R) s_];simp
    unfold qW at *
    rw[rE,rE,d]
    simp only[hi,j]
    simp[sB]
  . have d:=Q1 (g:=g) (b:=b) i6 h hn.2 hi fun x a=>hc x (by simp[a])
    have k:p.1≠i:=fun e=>hn.1 (e▸List.mem_map_of_mem (f:=(·.1)) h)
    have j:c' p.1=c p.1:=by rw[hc p s_];simp[k]
    unfold qW at *
    rw[rE,rE,j]
    cases c p.1 with
    | false=>simpa using d
    | true =>
     simp only[if_true,sB,k,if_false]
     exact(List.Perm.swap _ _ _).trans (d.cons _)
section
variable {r:Option Nat} {P:Program} {ops:Array Oper} {Q:Exit->Act->World->Prop} {n:Nat} {ds:List Deferred} {s0:List (Nat×Value)} {l0 l:List Oper} {pre:List (List Nat)} {mem:List Nat} {V vs:List ((Nat->Nat)->Value)} {v:(Nat->Nat)->Value}
variable {bs:List (World×List Nat)} {i q:Nat} {s:(Nat->Nat)->List (Nat×Value)} {o:Oper} {L0:List fS} {LE:(Nat->Nat)->List fS} {i6:List (Nat×(Nat->fS))} {R:Nat->fS} {val:Nat->Value}
def rG(bs:List (World×List Nat))(i6:List (Nat×(Nat->fS)))(L0:List fS)(q:Nat)(LE:(Nat->Nat)->List fS)(d:List Nat)(g:Nat->Nat)(w:World):Prop :=
 if d.contains q=true then St bs (LE g) w else St bs (qW i6 (fun j=>d.contains j) g++L0) w
def AQ(pre:List (List Nat))(mem:List Nat)(i6:List (Nat×(Nat->fS)))(q:Nat):Prop:=(i6.map (·.1)).Nodup/\(∀ p∈i6,mem.contains p.1=true/\(pre.getD q []).contains p.1=true/\p.1≠q)/\mem.contains q=true
theorem J4{is:List Nat}(h:i6.map (·.1)=is)(h1:(decide is.Nodup&&is.all (fun j=>mem.contains j&&(pre.getD q []).contains j && !(j==q))&&mem.contains q)=true):AQ pre mem i6 q:=by
 simp only[mU,decide_eq_true_eq,zt]at h1
 refine⟨h▸h1.1.1,fun p hp=>?_,h1.2⟩
 have:=h1.1.2 p.1 (h▸List.mem_map_of_mem hp)
 exact⟨this.1.1,this.1.2,by simpa using this.2⟩
theorem Kh{M:List Nat->(Nat->Nat)->World->Prop}:mC P ops Q n ds s0 l0 pre mem V M i s [] []:=trivial
theorem mM{M:List Nat->(Nat->Nat)->World->Prop}(hm:mem.contains i=false)(h:∀ g w C,mE P ops n o (s g) (v g) C w)(K:mC P ops Q n ds s0 l0 pre mem V M (i+1) (fun g=>kI o.dst (v g) (s g)) l vs) :
 mC P ops Q n ds s0 l0 pre mem V M i s (o :: l) (v :: vs):=by
 refine⟨?_,K⟩
 rw[hm]
 intro d _ g w e
 rcases h g w (M d g)with ⟨b,c,a|a⟩|a
 . exact .inl ⟨b,c,.inl a⟩
 . exact .inl ⟨b,c,.inr a⟩
 . exact .inr a
theorem Jm{d:List Nat}{j:Nat}(h:mem.contains j=true):(tL mem d i).contains j=(d.contains j||j==i):=by
 unfold tL
 exact contains_filter (S:=fun j=>d.contains j||j==i) (by simpa using h)
theorem Kk{d:List Nat}{m:Nat}(h:r7 pre mem i d=true)(hm:mem.contains m=true):d.contains i=false/\((pre.getD i []).contains m=true->d.contains m=true)/\((pre.getD m []).contains i=true->d.contains m=false):=by
 unfold r7 at h
 simp only[mU,zt,BI,Hg]at h
 have b:=h.2 m (by simpa using hm)
 refine⟨h.1,fun e=>?_,fun e=>?_⟩
 . rcases b.1 with a|a
   . rw[e]at a;cases a
   . exact a
 . rcases b.2 with a|a
   . exact a
   . rw[e]at a;cases a
theorem s8(hk:AQ pre mem i6 q)(hp:(i,R)∈i6)(hv:∀ g b,v (sB g i b)=val b)(h:∀ g w L,St bs L w->∀ N,(∀ b w', St bs (R b :: L) w' -> N (val b) w')->nC P ops Q n ds s0 l0 o (s g) N w)
 (hs:∀ g b,l9 pre i g (sB g i b) 0 V) (K:mC P ops Q n ds s0 l0 pre mem V (rG bs i6 L0 q LE) (i+1) (fun g=>kI o.dst (v g) (s g)) l vs) :
 mC P ops Q n ds s0 l0 pre mem V (rG bs i6 L0 q LE) i s (o :: l) (v :: vs):=by
 obtain⟨m,r,t⟩:=hk.2.1 _ hp
 refine⟨?_,K⟩
 rw[m]
 intro d hd g w a
 have f:=Kk hd hk.2.2
 have k:=f.2.2 r
 unfold rG at a
 rw[if_neg (by rw[k];decide)]at a
 refine h g w _ a _ fun b w' x => ⟨sB g i b,?_,(hv g b).symm,hs g b⟩
 unfold rG
 rw[if_neg (by rw[Jm hk.2.2,k];simp;exact fun e=>t e.symm)]
 exact x.perm ((Q1 (c:=fun j=>d.contains j) (c' := fun j=>(tL mem d i).contains j) i6 hp hk.1 f.1 fun p u => Jm (hk.2.1 p u).1).append_right L0)
theorem Kg(hk:AQ pre mem i6 q)(hv:∀ g b,v (sB g q b)=val b)(h:∀ g w,St bs ((i6.map fun p=>p.2 (g p.1))++L0) w->∀ N,(∀ b w', St bs (LE (sB g q b)) w' -> N (val b) w')->nC P ops Q n ds s0 l0 o (s g) N w)
 (hs:∀ g b,l9 pre q g (sB g q b) 0 V) (K:mC P ops Q n ds s0 l0 pre mem V (rG bs i6 L0 q LE) (q+1) (fun g=>kI o.dst (v g) (s g)) l vs) :
 mC P ops Q n ds s0 l0 pre mem V (rG bs i6 L0 q LE) q s (o :: l) (v :: vs):=by
 refine⟨?_,K⟩
 rw[hk.2.2]
 intro d hd g w a
 have e:=(Kk hd hk.2.2).1
 unfold rG at a
 rw[if_neg (by rw[e];decide),Q0 (c:=fun j=>d.contains j) i6 fun p hp=>(Kk hd (hk.2.1 p hp).1).2.1 (hk.2.1 p hp).2.1]at a
 refine h g w a _ fun b w' f => ⟨sB g q b,?_,(hv g b).symm,hs g b⟩
 unfold rG
 rw[if_pos (by rw[Jm hk.2.2];simp)]
 exact f
theorem KF{id:Nat}{w:World}(hm:P.follows .mixedOrders=true)(pre:List (List Nat))(mem:List Nat)(i6:List (Nat×(Nat->fS)))(q:Nat)(e:FZ l pre mem=true)(f:mem.contains q=true)(V:List ((Nat->Nat)->Value))(LE:(Nat->Nat)->List fS)(sE:(Nat->Nat)->List (Nat×Value))
 (i:St bs L0 w) (c:mC P l.toArray Q n ds s0 l pre mem V (rG bs i6 L0 q LE) 0 (fun _=>s0) l V) (b:∀ g,iX (fun _=>true) 0 l (V.map (· g)) s0=sE g)
 (d:∀ g w', St bs (LE g) w' -> Q .normal (Fr n (sE g) ds) w'):WP r P (.region id l.toArray true) Q (Fr n s0 ds) w :=
 Sq hm pre mem e V (rG bs i6 L0 q LE) (fun _=>0) sE (by unfold rG;rw[if_neg s_];have a:qW i6 (fun j=>([]:List Nat).contains j) (fun _=>0)=[]:=Q2 (g:=fun _=>0) i6;rw[a];exact i.grow (gA.drew [] w)) c b fun g w' h=>by
  unfold rG at h
  rw[if_pos f]at h
  exact d g w' h
end
end Go.Sx
namespace Go.Sx
open Go
def Gw(w w' : World):Prop:=∃ q os,w' = Go.Sort.grow (w.drewN q) os
theorem Gw.drew(w:World):Gw w w.drew:=⟨1,#[],by rw[Go.Sort.grow_empty];rfl⟩
theorem Gw.alloc{w w' : World}(h:Gw w w')(o:Obj):Gw w (w'.alloc o):=by
 obtain⟨q,os,rfl⟩:=h
 exact⟨q,os ++ #[o],by rw[Go.Sort.alloc_eq_grow,Go.Sort.grow_grow]⟩
section
variable {Γ:Type} {r:Option Nat} {P:Program} {ops:Array Oper} {Q:Exit->Act->World->Prop} {n:Nat} {ds:List Deferred} {s0 s:List (Nat×Value)} {l:List Oper} {bs:List (World×List Nat)} {L:List fS} {w w0:World} {dd:Option Nat} {t e:TypeId} {ty:TypeId} {pos:String} {af:Array Edge} {g:Option (Nat×Bool)} {Nx:Value->World->Prop} {z:Value} {sz by_:Nat}
variable {L0 L' : Γ->List fS} {F F' : Γ->World->Prop}
theorem adR{id:Nat}{w:World}(hm:P.follows .mixedOrders=true)(pre:List (List Nat))(mem:List Nat)(j:FY l pre mem=true)(V:List (Γ->Value))(Ls:List ((Γ->List fS)×(Γ->World->Prop)))(a:Γ)
 (sE:Γ->List (Nat×Value)) (e:Ls[0]? = some (L0,F)) (k:St bs (L0 a) w) (d:F a w.drew) (f:lT P l.toArray Q n ds s0 l pre mem V (jD bs Ls) 0 (fun _=>s0) l V)
 (c:∀ g,iX (fun _=>true) 0 l (V.map (· g)) s0=sE g) (b:Ls[mem.length]? = some (L', F'))
 (i:∀ g w', St bs (L' g) w' -> F' g w' -> Q .normal (Fr n (sE g) ds) w'):WP r P (.region id l.toArray true) Q (Fr n s0 ds) w :=
 Sp hm pre mem j V (jD bs Ls) a sE ((jD.at e).2 ⟨k.grow (gA.drew [] w),d⟩) f c fun g w' h=>i g w' ((jD.at b).1 h).1 ((jD.at b).1 h).2
theorem abd{len:Nat}{ps:List (Nat×Operand)}{vs cs:List Value}(d:Gw w0 w)(h:gE ops n s g=true)(hp:ps.map (fun q=>(q.1,ev n s q.2))=idx 0 vs)(k:P.underlying t=some (.slice e))(hi:TI P e sz by_ z)
 (i:vs.length=len) (hv:∀ v∈vs,v.cells.size=sz) (hcs:vs.flatMap (·.cells.toList)=cs) (c:Nat.ble (len*sz) 16777216=true) (a:Nat.ble len 16777216=true) (j:St bs L w)
 (K:∀ b w', St bs (row (.slice (some ⟨b,0,none⟩) len len) e sz len cs :: L) w' -> Gw w0 w' -> Nx (.slice (some ⟨b,0,none⟩) len len) w') :
 nC P ops Q n ds s0 l ⟨dd,.buildSlice t len ps.toArray,ty,pos,af,g⟩ s Nx w:=by
 subst i hcs
 have f:(vs.flatMap (·.cells.toList)).length=vs.length*sz:=by
  clear hp c a K
  induction vs with
  | nil=>simp
  | cons v vs o=>simp only[z6,zw,zh,sH,hv v s_,o (fun u m=>hv u (by simp[m])),sI];omega
 refine FF h rfl (NG hp k hi ?_ (pq c)) (K _ _ (Rg j e sz _ _ f (by have:=pq a;simp only[maxLen];omega)) (d.alloc _))
 rw[Pz sz vs 0 _ hv s_]
 simp
end
end Go.Sx
namespace Go.Sx
open Go
def yR(b:Bool)(rc:Loop):Loop:=if b then { rc with state:=.done,pending:=some .ret } else rc
section
variable {P:Program} {ops:Array Oper} {Q:Exit->Act->World->Prop} {rest:List Oper} {n:Nat} {s:List (Nat×Value)} {ds:List Deferred} {w:World}
variable {x:Operand} {l:Nat} {bs:List (World×List Nat)} {L LL:List fS} {i:Nat} {rc:Loop}
theorem Od{R:Ending->World->Prop}{a:Act}(i:Nat)(b:St bs L w)(hi:L[i]? = some (jr l { rc with state:=.busy }))(c:L.set i (jr l (yR true rc))=LL)(K:∀ w', St bs LL w' -> R (.returned (.bool false)) w'):roundPost P l R .ret a w:=by
 refine⟨_,_,run_endRound (some .ret) (b.yG hi),K _ ?_⟩
 subst c
 exact b.C7 hi _
theorem rfx{f:FuncId}{fi ca:List Value}{ps:List Nat}{a c:Code}{α:Type}(j:α->List fS)(C:α->Prop)(stop:α->Bool)(A:St bs L w)(B:ev n s x = .func (.func f) fi.toArray ca.toArray)(t:gi P f)
 (h1:∀ fn dd l o rc,rc=(⟨.ready,none,fn,(Fr n s ds).tmps,ps.toArray,a,c,dd⟩:Loop)->St bs (jr l rc :: ku dd (some []) :: L) o ->
  CR P f (fi++[Value.func (.yield l) #[] #[]]++ca).toArray o (fun _ p=>∃ z,C z/\St bs (jr l (yR (stop z) rc) :: ku dd (some []) :: j z) p))
 (q:∀ z dd g,C z->stop z=false->St bs (ku dd (some []) :: j z) g->Q .normal (Fr n s (⟨.collected dd,#[]⟩ :: ds)) g)
 (r:∀ z dd g,C z->stop z=true->St bs (ku dd (some []) :: j z) g->Q .ret (Fr n s (⟨.collected dd,#[]⟩ :: ds)) g):WP none P (.rangeFunc x ps.toArray a c) Q (Fr n s ds) w:=by
 refine wpIn_rangeFunc fun fn _=>?_
 have u:St bs (ku w.heap.size (some []) :: L) (w.alloc (.deferred (some []))) :=
  A.sQ (gA.alloc [] w _) (fun b hb=>by simp[ku]at hb;omega) (by simp[ku]) (fun b hb=>by simp[ku]at hb;simp;omega) (World.alloc_heap_new w _)
 have y:St bs (jr (w.heap.size+1) ⟨.ready,none,fn,(Fr n s ds).tmps,ps.toArray,a,c,w.heap.size⟩ :: ku w.heap.size (some []) :: L) ((w.alloc (.deferred (some []))).alloc (.loop ⟨.ready,none,fn,(Fr n s ds).tmps,ps.toArray,a,c,w.heap.size⟩)) :=
  u.sQ (gA.alloc [] _ _) (fun b hb=>by simp[jr]at hb;simp;omega) (by simp[jr]) (fun b hb=>by simp[jr]at hb;simp;omega) (by have:=World.alloc_heap_new (w.alloc (.deferred (some []))) (.loop ⟨.ready,none,fn,(Fr n s ds).tmps,ps.toArray,a,c,w.heap.size⟩);simpa[jr]using this)
 refine⟨w.heap.size+1,_,_,⟨.fn (.func f) ca.toArray,(fi++[Value.func (.yield (w.heap.size+1)) #[] #[]]).toArray⟩,((w.alloc (.deferred (some []))).alloc (.loop ⟨.ready,none,fn,(Fr n s ds).tmps,ps.toArray,a,c,w.heap.size⟩)),f,(fi++[Value.func (.yield (w.heap.size+1)) #[] #[]]++ca).toArray,((w.alloc (.deferred (some []))).alloc (.loop ⟨.ready,none,fn,(Fr n s ds).tmps,ps.toArray,a,c,w.heap.size⟩)),run_enterLoop_outer fn _ _ _ _,?_,fun _ _=>trivial,?_,fun h=>by simp[FW]at h,?_⟩
 . rw[pJ]
   simp only[resolve,rangeCall,Deferred.ofValue,B]
   simp[ev]
 . have:=t ((fi++[Value.func (.yield (w.heap.size+1)) #[] #[]]++ca).toArray) ((w.alloc (.deferred (some []))).alloc (.loop ⟨.ready,none,fn,(Fr n s ds).tmps,ps.toArray,a,c,w.heap.size⟩))
   simp only[invoke]
   simpa using this
 . refine uI.2 (Calls.mono (h1 fn w.heap.size (w.heap.size+1) _ _ rfl y) ?_)
   rintro e p ⟨v,rfl,z,k,d⟩
   have m:=fun D => (d.C7 (i:=0) rfl D).sub (LW _ _)
   cases hz:stop z with
   | false =>
    rw[hz]at d
    refine⟨none,_,run_endLoop (d.yG (i:=0) rfl) (by simp[yR]),?_⟩
    exact q z w.heap.size _ k hz (m _)
   | true =>
    rw[hz]at d
    refine⟨some .ret,_,run_endLoop (d.yG (i:=0) rfl) (by simp[yR]),?_⟩
    exact wpIn_ret (r z w.heap.size _ k hz (m _))
end
end Go.Sx
namespace Go.Sx
open Go
section
variable {α:Type} {sz:Nat} {cf:α->List Value} {w w' : World} {v u:Value} {xs:List α} {bs:List (World×List Nat)} {L:List fS} {R:fS}
theorem St.rr{e:TypeId}(h:St bs L w)(i:Nat)(hi:L[i]? = some (fM cf v e sz xs))(a:∀ x:α,(cf x).length=sz:=by exact fun _=>rfl):iz sz cf (fun b=>v.ownBlock=some b) w v xs:=St.yU h hi a
theorem St.oR(h:St bs L w)(i:Nat)(hi:L[i]? = some R):Own R w:=St.RA h hi
theorem St.bc{b o:Nat}{T:TypeId}{cs:List Value}(h:St bs L w)(i:Nat)(hi:L[i]? = some (blk b T cs))(hv:cs[o]? = some v):w.cell? ⟨b,o,none⟩=some v:=St.rQ h hi hv
theorem rO{p:Prop}(h:p:=by first|rfl|omega):p:=h
theorem i7{p:Prop}(h:p:=by rw[ox o_];omega):p:=h
theorem sT{p:Prop}(h:p:=by repeat (first|exact aeV|refine kS rfl ?_|refine kS trivial ?_)):p:=h
end
end Go.Sx
namespace Go.Sx
open Go
section
variable {α:Type} [Inhabited α] {cf:α->List Value} {k:Nat}
theorem PD(a:∀ x:α,(cf x).length=k)(hk:0<k)(d:Array α):(Go.Sort.flatK cf k d).toList=d.toList.flatMap cf:=by
 apply nU
 intro t
 by_cases ht:t<d.size*k
 . have c:t / k<d.size:=(L5 hk).2 ht
   have b:t%k<k:=BK _ hk
   have h:d.toList[t / k]? = some d[t / k]:=by simp[c]
   have i:(cf d[t / k])[t%k]? = some ((cf d[t / k])[t%k]'(by rw[a];exact b)):=zm (by rw[a];exact b)
   have e:=wm a d.toList (t / k) (t%k) _ _ h i
   have j:t / k*k+t%k=t:=BG t k
   rw[j]at e
   rw[e]
   have f:=Go.Sort.get_flatK cf k d t ht
   have g:t<(Go.Sort.flatK cf k d).size:=by simpa using ht
   rw[zQ,uo g]
   rw[getElem!_pos _ t g]at f
   rw[f,getElem!_pos d _ c,getElem!_pos _ _ (by rw[a];exact b)]
 . rw[mw (by simp;omega),mw (by rw[rU a];simp;omega)]
variable {P:Program} {w:World} {v:Value} {xs:List α} {e:TypeId} {f:FuncId} {fv:Value} {lt:α->α->Bool}
theorem ZK{b:Nat}{cur:Array Value}(h:∀ x:α,(cf x).length=k)(hk:0<k)(d:w.heap[b]? = some (.cells cur e (0,0)))(f:cur.toList.take (xs.length*k)=xs.flatMap cf):Go.Sort.HoldsK cf k w b 0 xs.toArray:=by
 intro j a
 have g : j<xs.length*k:=by simpa using a
 have c:(cur.toList.take (xs.length*k))[j]? = (Go.Sort.flatK cf k xs.toArray).toList[j]? := by rw[f,PD h hk]
 rw[DH g, zQ,zQ,uo a]at c
 refine⟨?_,?_⟩
 . simp only[World.cell?,d]
   rw[getElem!_pos _ j a]
   simpa using c
 . simp[World.frozen?,d]
theorem aeP(u:∀ x:α,(cf x).length=k)(hk:0<k)(z:Own (fM cf v e k xs) w)(I:xs.length<4611686018427387904)
 (C:Calls P f #[.slice none 0 0,fv] w fun e w' => e = .returned (.tuple #[])/\w' = w)
 (F:∀ blk m (d:Array α),Go.Sort.HoldsK cf k w blk 0 d->blk<w.heap.size->d.size<4611686018427387904->Calls P f #[.slice (some ⟨blk,0,none⟩) d.size m,fv] w fun e w' =>
  e = .returned (.tuple #[])/\∃ c n os,Go.Sort.PermIn 0 d.size d c /\ Go.Sort.SortedIn lt 0 d.size c /\ w' = Go.Proofs.sortWorldK cf k w blk 0 n c os) :
 CR P f #[v,fv] w (fun r w' => r = .tuple #[]/\∃ ys:List α,ys.Perm xs/\ys.Pairwise (fun a b=>lt b a=false)/\fZ (fM cf v e k xs) w w' (fM cf v e k ys)):=by
 have M:w.ownsRow 0 e k v xs.length (xs.flatMap cf):=z.holds
 rcases M.2 with ⟨rfl,o⟩|⟨g, m,cur,rfl,hb,s,o,D,y,E⟩
 . obtain rfl:xs=[]:=Bz.1 o
   refine Calls.mono C ?_
   rintro en w' ⟨rfl,rfl⟩
   exact⟨_,rfl,rfl,[],List.Perm.refl _,List.Pairwise.nil,fZ.refl z⟩
 . have A:g < w.heap.size:=(p5.1 s).1
   have hs:=F g m xs.toArray (ZK u hk s E) A (by simpa using I)
   rw[List.size_toArray]at hs
   refine Calls.mono hs ?_
   rintro en w' ⟨rfl,c, n,os,hp,Q,rfl⟩
   have h:c.size=xs.length:=by simpa using hp.1
   have N:c.toList.Perm xs:=by
    have p:=hp.2.2
    have e1:c.extract 0 xs.length=c := by rw[<-h];exact G9
    have B:xs.toArray.extract 0 xs.length=xs.toArray:=by rw[show xs.length=xs.toArray.size by simp];exact G9
    rwa [e1,B]at p
   have K:(Go.Proofs.sortWorldK cf k w g 0 n c os).heap[g]? = some (.cells (Go.Sort.putCells id 0 (Go.Sort.flatK cf k c) cur) e (0,0)):=by
    simp only[Go.Proofs.sortWorldK,Go.Sort.grow,Go.Sort.putRowK,Go.Sort.putRow,Go.Sort.mapBlock,Go.Sort.ahead]
    rw[DE (by simpa using A),zP,if_pos rfl,s]
    rfl
   have L:∀ b,b<w.heap.size->b≠g -> (Go.Proofs.sortWorldK cf k w g 0 n c os).heap[b]? = w.heap[b]? := by
    intro b hb J
    simp only[Go.Proofs.sortWorldK,Go.Sort.grow,Go.Sort.putRowK,Go.Sort.putRow,Go.Sort.mapBlock,Go.Sort.ahead]
    rw[DE (by simpa using hb),zP,if_neg (fun e=>J e.symm)]
   have R:w.heap.size<=(Go.Proofs.sortWorldK cf k w g 0 n c os).heap.size:=by simp[Go.Proofs.sortWorldK,Go.Sort.grow,Go.Sort.putRowK,Go.Sort.putRow,Go.Sort.mapBlock,Go.Sort.ahead]
   have O:(Go.Sort.putCells id 0 (Go.Sort.flatK cf k c) cur).size=cur.size:=by simp[Go.Sort.putCells]
   have S:(Go.Sort.putCells id 0 (Go.Sort.flatK cf k c) cur).toList.take (c.toList.length*k)=c.toList.flatMap cf:=by
    rw[<-PD u hk]
    have U:(Go.Sort.flatK cf k c).size=xs.length*k:=by simp[h]
    have V:xs.length*k<=cur.size:=by rw[y];exact DI _ o
    apply nU
    intro j
    rw[vD,sH,h]
    split
    . rename_i l
      have H:j<cur.size:=by omega
      have t:j<(Go.Sort.flatK cf k c).size:=by omega
      simp only[Go.Sort.putCells,zQ,LX,oO,true_and,lS,Nat.sub_zero]
      rw[uo H,uo t]
      simp only[xA]
      rw[if_pos t,getElem!_pos _ j t]
      rfl
    . rename_i l
      rw[mw (by simp;rw[h];omega)]
   refine⟨_,rfl,rfl,c.toList,N,?_,⟨?_,⟨rfl,rfl,rfl,R,fun b hb T=>L b hb (fun e=>T (by simp[row,Value.ownBlock,e]))⟩,fun b q => .inl (by simpa[row,Value.ownBlock]using q),by simp[row,Value.ownBlock],fun b q => ?_⟩⟩
   . rw[uq]
     intro i j hi l G
     have p:=Q i j (oO _) G (by simp at l ⊢;omega)
     simp only[sH]at hi l
     rw[getElem!_pos _ i hi,getElem!_pos _ j l]at p
     simpa using p
   . refine⟨by rw[rU u],.inr ⟨g, m,_,by simp[h],hb,K,by simp[h];exact o,D,by rw[O];exact y,S⟩⟩
   . simp[row,Value.ownBlock]at q
     subst q
     omega
end
end Go.Sx
namespace Go.Sx
open Go
section
variable {P:Program} {w:World} {v:Value} {e:TypeId} {f:FuncId} {fv:Value} {m:Nat}
def qR(x:Fin m):Value:=.int .i64 ((x.val:Nat):Int)
theorem YQ(hm:0<m):((List.finRange m).map fun x=>x.val)=List.range m:=by
 apply nU
 intro i
 rw[z7]
 by_cases h:i<m
 . rw[p6 h,zm (by simpa using h)]
   simp
 . rw[mw (by simpa using h),mw (by simpa using h)]
   rfl
theorem I4(xs:List Nat):xs.flatMap fW=xs.map fun x=>Value.int .i64 ((x:Nat):Int):=by
 induction xs with
 | nil=>rfl
 | cons x xs a=>rw[z6,a];rfl
theorem SY{α:Type}[Inhabited α]{enc:α->Value}{blk k b:Nat}{d:Array α}{os:Array Obj}(hb:b<w.heap.size)(a:b≠blk):(Go.Proofs.sortWorld enc w blk 0 k d os).heap[b]? = w.heap[b]? := by
 simp only[Go.Proofs.sortWorld,Go.Sort.grow,Go.Sort.putRow,Go.Sort.mapBlock,Go.Sort.ahead]
 rw[DE (by simpa using hb),zP,if_neg (fun e=>a e.symm)]
theorem aeN(hm:0<m)(lt:Nat->Nat->Bool)(I:Own (fM fW v e 1 (List.range m)) w)(M:m<4611686018427387904)
 (J:∀ (E:Inhabited (Fin m)) blk p (d:Array (Fin m)),(fM fW v e 1 (List.range m)).gJ=[blk]->Go.Sort.Holds qR w blk 0 d->blk<w.heap.size->d.size<4611686018427387904->Calls P f #[.slice (some ⟨blk,0,none⟩) d.size p,fv] w fun e w' =>
  e = .returned (.tuple #[])/\∃ c n os,Go.Sort.PermIn 0 d.size d c /\ Go.Sort.SortedIn (fun x y:Fin m=>lt x.val y.val) 0 d.size c /\ w' = Go.Proofs.sortWorld qR w blk 0 n c os) :
 CR P f #[v,fv] w (fun r w' => r = .tuple #[]/\∃ ys:List Nat,ys.Perm (List.range m)/\ys.Pairwise (fun a b=>lt b a=false)/\fZ (fM fW v e 1 (List.range m)) w w' (fM fW v e 1 ys)):=by
 have R:w.ownsRow 0 e 1 v (List.range m).length ((List.range m).flatMap fW):=I.holds
 rcases R.2 with ⟨rfl,l⟩|⟨g, p,cur,rfl,hb,t,l,G,u,B⟩
 . rw[p7]at l;omega
 . have C:g < w.heap.size:=(p5.1 t).1
   let E:Inhabited (Fin m):=⟨⟨0,hm⟩⟩
   have s:(List.finRange m).toArray.size=m:=by simp
   rw[p7,sJ]at B
   rw[p7]at l
   rw[sJ]at u
   have H:Go.Sort.Holds qR w g 0 (List.finRange m).toArray:=by
    intro j k
    have D : j<m:=by simpa using k
    have h:(cur.toList.take m)[j]? = ((List.range m).flatMap fW)[j]? := by rw[B]
    rw[DH D, I4,z7,p6 D, zQ]at h
    refine⟨?_,?_⟩
    . simp only[World.cell?,t,lS]
      rw[getElem!_pos _ j k]
      simpa[qR]using h
    . simp[World.frozen?,t]
   have hs:=J E g p (List.finRange m).toArray (by simp[fM,row,Value.ownBlock]) H C (by rw[s];exact M)
   rw[s]at hs
   rw[p7]
   refine Calls.mono hs ?_
   rintro en w' ⟨rfl,c, n,os,hp,U,rfl⟩
   have o:c.size=m:=by rw[hp.1];exact s
   have S:(c.toList.map fun x=>x.val).Perm (List.range m):=by
    have h:=hp.2.2
    have e1:c.extract 0 m=c := (congrArg (fun z=>c.extract 0 z) o.symm).trans G9
    have F:(List.finRange m).toArray.extract 0 m=(List.finRange m).toArray:=(congrArg (fun z=>(List.finRange m).toArray.extract 0 z) s.symm).trans G9
    rw[e1,F]at h
    rw[<-YQ hm]
    exact h.map _
   have O:(Go.Proofs.sortWorld qR w g 0 n c os).heap[g]? = some (.cells (Go.Sort.putCells qR 0 c cur) e (0,0)):=by
    simp only[Go.Proofs.sortWorld,Go.Sort.grow,Go.Sort.putRow,Go.Sort.mapBlock,Go.Sort.ahead]
    rw[DE (by simpa using C),zP,if_pos rfl,t]
    rfl
   have Q:∀ b,b<w.heap.size->b≠g -> (Go.Proofs.sortWorld qR w g 0 n c os).heap[b]? = w.heap[b]? := by
    intro b hb N
    simp only[Go.Proofs.sortWorld,Go.Sort.grow,Go.Sort.putRow,Go.Sort.mapBlock,Go.Sort.ahead]
    rw[DE (by simpa using hb),zP,if_neg (fun e=>N e.symm)]
   have V:w.heap.size<=(Go.Proofs.sortWorld qR w g 0 n c os).heap.size:=by simp[Go.Proofs.sortWorld,Go.Sort.grow,Go.Sort.putRow,Go.Sort.mapBlock,Go.Sort.ahead]
   have T:(Go.Sort.putCells qR 0 c cur).size=cur.size:=by simp[Go.Sort.putCells]
   have W:(Go.Sort.putCells qR 0 c cur).toList.take ((c.toList.map fun x=>x.val).length*1)=(c.toList.map fun x=>x.val).flatMap fW:=by
    rw[I4]
    have Y:m<=cur.size:=by rw[u];exact l
    apply nU
    intro j
    rw[vD]
    simp only[zq,sH,o,sJ]
    split
    . rename_i k
      have L:j<cur.size:=by omega
      have A:j<c.size:=by omega
      simp only[Go.Sort.putCells,zQ,LX,oO,true_and,lS,Nat.sub_zero,z7]
      rw[uo L,uo A]
      simp only[xA]
      rw[if_pos A,getElem!_pos _ j A]
      rfl
    . rename_i k
      rw[mw (by simp;rw[o];omega)]
   refine⟨_,rfl,rfl,c.toList.map fun x=>x.val,S,?_,⟨?_,⟨rfl,rfl,rfl,V,fun b hb X=>Q b hb (fun e=>X (by simp[row,fM,Value.ownBlock,e]))⟩,fun b q => .inl (by simpa[row,fM,Value.ownBlock]using q),by simp[row,fM,Value.ownBlock],fun b q => ?_⟩⟩
   . rw[uq]
     intro i j hi k K
     have h:=U i j (oO _) K (by simp at k ⊢;omega)
     simp only[zq,sH]at hi k
     rw[getElem!_pos _ i hi,getElem!_pos _ j k]at h
     simpa using h
   . refine⟨by rw[I4];simp,.inr ⟨g, p,_,by simp[o],hb,O,by simp[o];exact l,G,by rw[T];simpa using u,W⟩⟩
   . simp[row,fM,Value.ownBlock]at q
     subst q
     omega
end
section
variable {bs:List (World×List Nat)} {L:List fS} {w w0:World} {R:fS}
theorem St.acf{lb:Nat}{T:TypeId}{cs:List Value}(h:St bs (R :: blk lb T cs :: L) w):lb∉R.gJ:=fun hm=>by
 have a:=h.sep
 rw[mY,zu]at a
 exact a.2.2 lb hm lb (by rw[mY];simp[blk]) rfl
theorem St.ZV{lb:Nat}{T:TypeId}{cs:List Value}(h:St bs (R :: blk lb T cs :: L) w):lb<w.heap.size:=h.lt lb (by rw[mY,mY];simp[blk])
theorem St.adA{α:Type}{cf:α->List Value}{sz:Nat}{ok:Nat->Prop}{v:Value}{xs:List α}(h:St bs (R :: L) w)(hb:(w0,[])∈bs)(hp:0<sz)(c:iz sz cf ok w0 v xs):iz sz cf (fun b=>b∉R.gJ) w v xs :=
 Sl.mono (St.C9 h hb hp (Sl.old c hp)) fun b d hm=>by
  rcases(h.base _ hb).mine b (by rw[mY];simp[hm])with a|a
  . cases a
  . have e:b<w0.heap.size:=d.2
    have f:w0.heap.size<=b:=a
    omega
end
end Go.Sx
namespace Go.Sx
open Go
theorem St.under{e bs:List (World×List Nat)}{L0 L:List fS}{w wl g:World}{X:List Nat}(i:St e L0 wl)(k:(w,[])∈e)(j:∀ b∈X,b∈iT L0)(h:St bs L g)(hb:(wl,X)∈bs):St ((w,[]) :: bs) L g:=by
 have a:=i.base _ k
 have c:=h.base _ hb
 have f:∀ b∈X,w.heap.size<=b:=fun b hb=>(a.mine b (j b hb)).elim (fun h=>absurd h s_) id
 refine⟨fun p hp=>?_,h.own,h.sep,h.lt⟩
 rcases zg.1 hp with rfl|hp
 . refine⟨⟨c.gD.os.trans a.gD.os,c.gD.tape.trans a.gD.tape,c.gD.output.trans a.gD.output,lq a.gD.size c.gD.size,fun b d l=>?_⟩,fun b hb=>?_⟩
   . exact(c.gD.block b (oC d a.gD.size) (fun hb=>absurd (f b hb) (Nat.not_le.2 d))).trans (a.gD.block b d l)
   . rcases c.mine b hb with h|h
     . exact .inr (f b h)
     . exact .inr (lq a.gD.size h)
 . exact h.base p hp
theorem St.Wv{bs:List (World×List Nat)}{L:List fS}{w:World}{p:World×List Nat}(h:St (p :: bs) L w):St bs L w :=
 ⟨fun q a=>h.base q (mT _ a),h.own,h.sep,h.lt⟩
theorem St.acp{bs:List (World×List Nat)}{R:fS}{L:List fS}{w0 w1:World}(h:St bs (R :: L) w1)(hb:(w0,[])∈bs){b:Nat}(a:b<w0.heap.size):b∉R.gJ:=fun hm =>
 ((h.base _ hb).mine b (by rw[mY];exact zr.2 (.inl hm))).elim (fun h=>absurd h s_) (fun h=>absurd a (Nat.not_lt.2 h))
end Go.Sx
namespace Go.Sx
open Go
section
variable {Γ:Type} {P:Program} {T:TT P} {ops:Array Oper} {Q:Exit->Act->World->Prop} {n:Nat} {ds:List Deferred} {s0:List (Nat×Value)} {l0 l:List Oper} {pre:List (List Nat)} {mem:List Nat} {V vs:List (Γ->Value)} {v:Γ->Value}
variable {bs:List (World×List Nat)} {Ls:List ((Γ->List fS)×(Γ->World->Prop))} {i lo N:Nat} {s:Γ->List (Nat×Value)} {o:Oper} {L L1 L2 L3:Γ->List fS}
theorem Bc{p:Prop}(h:p:=by first|exact Rf.sk|exact Rf.mv|exact Rf.Pj|exact Rf.fa|exact Rf.ld|exact Rf.JC|exact Rf.JE|exact Rf.JG|exact Rf.vW|exact Rf.uV|exact Rf.cmp|exact Rf.ar|exact Rf.ex|exact Rf.P3|exact Rf.P4|exact Rf.Pn|exact Rf.Fj|exact Rf.iP|exact Rf.Pk|exact Rf.jq|exact Rf.uR|exact Rf.JF|exact Rf.JD|exact Rf.JH|exact Rf.not|exact Rf.pT|exact Rf.pF|exact Rf.jL|exact Rf.ixG|exact Rf.fldG|exact Rf.len|exact Rf.nP|exact Rf.eP):p:=h
structure OF (T:TT P) (ops:Array Oper) (Q:Exit->Act->World->Prop) (n:Nat) (ds:List Deferred) (s0:List (Nat×Value)) (l0:List Oper) (pre:List (List Nat)) (mem:List Nat) (V:List (Γ->Value)) (bs:List (World×List Nat)) (Ls:List ((Γ->List fS)×(Γ->World->Prop))) (N i:Nat) (s:Γ->List (Nat×Value)) (l:List Oper) (vs:List (Γ->Value)):Prop where
 out:lT P ops Q n ds s0 l0 pre mem V (jD bs Ls) i s l vs
theorem Rf.q{L:List fS}{s:List (Nat×Value)}{v:Value}{w:World}(h:Rf T bs L ops n o s v)(a:St bs L w):mE P ops n o s v (fun w' => St bs L w' /\ True) w:=(h.out w a).congr fun w' h=>⟨h,trivial⟩
theorem OF.r1(hm:mem.contains i=false)(d:uS pre mem i=lo)(c:uP pre mem i=lo)(a:Ls[lo]? = some (L,fun _ _=>True))(hv:∀ g,Rf T bs (L g) ops n o (s g) (v g))
 (K:OF T ops Q n ds s0 l0 pre mem V bs Ls N (i+1) (fun g=>kI o.dst (v g) (s g)) l vs):OF T ops Q n ds s0 l0 pre mem V bs Ls (N+1) i s (o :: l) (v :: vs) :=
 ⟨wN hm d c a (fun g w b _=>(hv g).q b) K.out⟩
theorem OF.r2(hm:mem.contains i=false)(e:uS pre mem i=lo)(d:uP pre mem i=lo+1)(b:Ls[lo]? = some (L,fun _ _=>True))(c:Ls[lo+1]? = some (L1,fun _ _=>True))(hv:∀ g,Rf T bs (L g) ops n o (s g) (v g))(f:∀ g,Rf T bs (L1 g) ops n o (s g) (v g))
 (K:OF T ops Q n ds s0 l0 pre mem V bs Ls N (i+1) (fun g=>kI o.dst (v g) (s g)) l vs):OF T ops Q n ds s0 l0 pre mem V bs Ls (N+1) i s (o :: l) (v :: vs) :=
 ⟨Kj hm e d b c (fun g w a _=>(hv g).q a) (fun g w a _=>(f g).q a) K.out⟩
theorem OF.r3(hm:mem.contains i=false)(f:uS pre mem i=lo)(e:uP pre mem i=lo+2)(b:Ls[lo]? = some (L,fun _ _=>True))(c:Ls[lo+1]? = some (L1,fun _ _=>True))(d:Ls[lo+2]? = some (L2,fun _ _=>True))(hv:∀ g,Rf T bs (L g) ops n o (s g) (v g))(h:∀ g,Rf T bs (L1 g) ops n o (s g) (v g))(j:∀ g,Rf T bs (L2 g) ops n o (s g) (v g))
 (K:OF T ops Q n ds s0 l0 pre mem V bs Ls N (i+1) (fun g=>kI o.dst (v g) (s g)) l vs):OF T ops Q n ds s0 l0 pre mem V bs Ls (N+1) i s (o :: l) (v :: vs) :=
 ⟨ack hm f e b c d (fun g w a _=>(hv g).q a) (fun g w a _=>(h g).q a) (fun g w a _=>(j g).q a) K.out⟩
theorem ad8{p q:Prop} (h:p->q:=by
 intro h
 repeat (first|refine OF.r1 rfl rfl rfl rfl (fun _=>Bc) ?_|refine OF.r2 rfl rfl rfl rfl rfl (fun _=>Bc) (fun _=>Bc) ?_|refine OF.r3 rfl rfl rfl rfl rfl rfl (fun _=>Bc) (fun _=>Bc) (fun _=>Bc) ?_)
 exact h):p->q:=h
theorem FK[T:TT P]{a : Nat}{s' : Γ->List (Nat×Value)}{l' : List Oper}{b : List (Γ->Value)}(N:Nat)(K:lT P ops Q n ds s0 l0 pre mem V (jD bs Ls) a s' l' b)
 (h:OF T ops Q n ds s0 l0 pre mem V bs Ls 0 a s' l' b -> OF T ops Q n ds s0 l0 pre mem V bs Ls N i s l vs:=by exact ad8):lT P ops Q n ds s0 l0 pre mem V (jD bs Ls) i s l vs:=(h ⟨K⟩).out
end
end Go.Sx
namespace Go.Sx
open Go
section
variable {P:Program} {T:TT P} {bs:List (World×List Nat)} {L:List fS} {ops:Array Oper} {n d:Nat} {s:List (Nat×Value)} {ds:List Deferred} {w w0:World} {t ty:TypeId} {pos:String} {af:Array Edge} {g:Option (Nat×Bool)} {x:Operand} {v:Value}
theorem Rk.Fj{α:Type}{cf:α->List Value}{xs:List α}{e' : TypeId}{q k sz off:Nat}{ud:TypeDesc}{u:Value}(h:St bs L w:=by assumption)(f:ev n s x=jW sz u k off:=by exact rfl)(a:iY T.u t=some ud:=by exact rfl)(e:j9 ud=false:=by exact rfl)(hi:L[q]? = some (fM cf u e' sz xs):=by first|exact qL|exact qM|exact nF|exact nG|exact qN|exact qO|exact qP|exact qQ)(i:Inhabited α:=by infer_instance)(c:∀ x:α,(cf x).length=sz:=by exact fun _=>rfl)(hk:k<xs.length:=by first|omega|(simp only[gC];omega))(hv:(cf (fJ xs k))[off]? = some v:=by exact rfl)(b:look s d=v:=by exact rfl):qu P ops ⟨some d,.load t x,ty,pos,af,g⟩ (Fr n s ds) w:=qY (yD f (kN T.kT a) e (St.yU h hi c) (gz hk) hv) rfl b
theorem Rk.ld{b o i:Nat}{a:TypeId}{cs:List Value}{ud:TypeDesc}(h:St bs L w:=by assumption)(j:ev n s x = .pointer (some ⟨b,o,none⟩):=by exact rfl)(c:iY T.u t=some ud:=by exact rfl)(f:j9 ud=false:=by exact rfl)(hi:L[i]? = some (blk b a cs):=by first|exact qL|exact qM|exact nF|exact nG|exact qN|exact qO|exact qP|exact qQ)(hv:cs[o]? = some v:=by exact rfl)(e:look s d=v:=by exact rfl):qu P ops ⟨some d,.load t x,ty,pos,af,g⟩ (Fr n s ds) w:=qY (mK j (kN T.kT c) f (h.rQ hi hv)) rfl e
theorem Rk.jq{α:Type}{cf:α->List Value}{xs:List α}{ok:Nat->Prop}{c:α}{k sz off:Nat}{ud:TypeDesc}{u:Value}(h:St bs L w:=by assumption)(f:ev n s x=jW sz u k off:=by exact rfl)(a:iY T.u t=some ud:=by exact rfl)(e:j9 ud=false:=by exact rfl)(hi:iz sz cf ok w0 u xs:=by assumption)(hb:(w0,[])∈bs:=by simp)(i:0<sz:=by decide)(hk:xs[k]? = some c:=by first|assumption|exact rfl|exact gz (by first|omega|(simp only[gC];omega)))(hv:(cf c)[off]? = some v:=by exact rfl)(b:look s d=v:=by exact rfl):qu P ops ⟨some d,.load t x,ty,pos,af,g⟩ (Fr n s ds) w:=qY (yD f (kN T.kT a) e (St.C9 h hb i hi) hk hv) rfl b
theorem Rk.uR{b o i sz by_:Nat}{l:Value}{a:TypeId}{cs vs:List Value}{ud:TypeDesc}(h:St bs L w:=by assumption)(k:ev n s x = .pointer (some ⟨b,o,none⟩):=by exact rfl)(c:iY T.u t=some ud:=by exact rfl)(f:j9 ud=true:=by exact rfl)(j:iY T.i t=some (sz,by_,l):=by exact rfl)(hi:L[i]? = some (blk b a cs):=by first|exact qL|exact qM|exact nF|exact nG|exact qN|exact qO|exact qP|exact qQ)(hv:sub' cs o sz=some vs:=by exact rfl)(e:look s d = .agg vs.toArray:=by exact rfl):qu P ops ⟨some d,.load t x,ty,pos,af,g⟩ (Fr n s ds) w:=qY (tM k (kN T.kT c) f (mL T.mZ j) (wZ hv) (h.Ig hi (zA hv))) rfl e
theorem pX{p:Prop}(h:p:=by first|exact Rk.Fj|exact Rk.ld|exact Rk.JC|exact Rk.JE|exact Rk.JG|exact Rk.jq|exact Rk.uR|exact Rk.JF|exact Rk.JD|exact Rk.JH|exact Rk.Qr|exact Rk.Qp):p:=h
theorem kJ{Q:Exit->Act->World->Prop}{M:Act->World->Prop}{c:List Nat}(h:M (Fr n s ds) w)(b:kf P ops c (Fr n s ds) w:=by repeat (first|exact trivial|refine lN rfl pX ?_)):Exit.then (fun a w=>kf P ops c a w/\M a w) Q .normal (Fr n s ds) w:=⟨b,h⟩
end
end Go.Sx
namespace Go.Sx
open Go
section
variable {r:Option Nat} {P:Program} {ops:Array Oper} {Q:Exit->Act->World->Prop} {rest:List Oper} {n:Nat} {s:List (Nat×Value)} {ds:List Deferred} {w w' : World}
variable {bs:List (World×List Nat)} {L L' : List fS} {t ty:TypeId} {pos:String} {af:Array Edge} {g:Option (Nat×Bool)} {x y:Operand} {u v z:Value} {vs cs:List Value} {d sz szt by_:Nat}
theorem Ce{p:Prop}(h:p:=by first|exact NJ|exact NI|exact NK|exact NL|exact NH|exact cNilF|exact cMap|exact rfl):p:=h
theorem iQ[T:TT P]{α:Type}[Inhabited α]{cf:α->List Value}{ys:List α}{e:TypeId}{k off:Nat}(f:α->α)(i:Nat)(j:St bs L w)(K:∀ w', St bs L' w' -> WL r P ops Q rest (Fr n s ds) w')
 (o:ev n s x=jW sz v k off:=by exact rfl) (p:ev n s y=u:=by first|((conv=>lhs;whnf);done)|exact rfl) (hvs:u.cells.toList=vs:=by exact Ce) (m:iY T.i t=some (szt,by_,z):=by exact rfl) (l:vs.length=szt:=by exact rfl) (h1:vs.all (·.oneCell')=true:=by exact rfl)
 (hi:L[i]? = some (fM cf v e sz ys):=by exact rfl) (d:∀ x:α,(cf x).length=sz:=by exact fun _=>rfl) (hk:k<ys.length:=by first|omega|(simp only[gC];omega)) (h:Nat.ble (off+vs.length) sz=true:=by exact rfl)
 (b:cf (f (fJ ys k))=setAt (cf (fJ ys k)) off vs:=by exact rfl) (a:L.set i (fM cf v e sz (fO ys k f))=L' := by first|(dsimp only[List.set];exact rfl)|exact rfl) (c:gE ops n s g=true:=by exact rfl) :
 WL r P ops Q (⟨none,.store t x y,ty,pos,af,g⟩ :: rest) (Fr n s ds) w:=aeX i c o p hvs (mL T.mZ m) l h1 j hi d hk h b a K
theorem j3[T:TT P]{α:Type}[Inhabited α]{cf:α->List Value}{ys:List α}{a:TypeId}{b k off:Nat}(f:α->α)(i:Nat)(l:St bs L w)(K:∀ w', St bs L' w' -> gA [b] w w' -> WL r P ops Q rest (Fr n s ds) w')
 (p:ev n s x = .pointer (some ⟨b,k*sz+off,none⟩):=by exact rfl) (q:ev n s y=u:=by first|((conv=>lhs;whnf);done)|exact rfl) (hvs:u.cells.toList=vs:=by exact Ce) (o:iY T.i t=some (szt,by_,z):=by exact rfl) (m:vs.length=szt:=by exact rfl) (h1:vs.all (·.oneCell')=true:=by exact rfl)
 (hi:L[i]? = some (blk b a (ys.flatMap cf)):=by exact rfl) (c:∀ x:α,(cf x).length=sz:=by exact fun _=>rfl) (hk:k<ys.length:=by first|omega|(simp only[gC];omega)) (d:Nat.ble (off+vs.length) sz=true:=by exact rfl)
 (h:cf (f (fJ ys k))=setAt (cf (fJ ys k)) off vs:=by exact rfl) (e:L.set i (blk b a ((fO ys k f).flatMap cf))=L' := by first|(dsimp only[List.set];exact rfl)|exact rfl) (j:gE ops n s g=true:=by exact rfl) :
 WL r P ops Q (⟨none,.store t x y,ty,pos,af,g⟩ :: rest) (Fr n s ds) w:=Gf i j p q hvs (mL T.mZ o) m h1 l hi (Kz c hk (pq d)) (FV c hk h (pq d)) e K
theorem j8[T:TT P]{cs' : List Value}{a:TypeId}{b o:Nat}(i:Nat)(f:St bs L w)(K:∀ w', St bs L' w' -> WL r P ops Q rest (Fr n s ds) w')
 (k:ev n s x = .pointer (some ⟨b,o,none⟩):=by exact rfl) (l:ev n s y=u:=by first|((conv=>lhs;whnf);done)|exact rfl) (hvs:u.cells.toList=vs:=by exact Ce) (j:iY T.i t=some (szt,by_,z):=by exact rfl) (h:vs.length=szt:=by exact rfl) (h1:vs.all (·.oneCell')=true:=by exact rfl)
 (hi:L[i]? = some (blk b a cs):=by exact rfl) (d:Nat.ble (o+vs.length) cs.length=true:=by exact rfl) (hcs:setAt cs o vs=cs' := by dsimp only[setAt,List.take,List.drop,List.length,List.append,HAppend.hAppend,Append.append]<;>exact rfl)
 (c:L.set i (blk b a cs')=L' := by first|(dsimp only[List.set];exact rfl)|exact rfl) (e:gE ops n s g=true:=by exact rfl) :
 WL r P ops Q (⟨none,.store t x y,ty,pos,af,g⟩ :: rest) (Fr n s ds) w:=Gd i e k l hvs (mL T.mZ j) h h1 f hi d hcs c K
theorem iF(c:St bs L w)(K:∀ b w', w.heap.size<=b->gA [] w w' -> St bs (blk b t cs :: L) w' -> WL r P ops Q rest (Fr n ((d,.pointer (some ⟨b,0,none⟩)) :: s) ds) w')
 (e:ev n s x=v:=by first|((conv=>lhs;whnf);done)|exact rfl) (hcs:v.cells.toList=cs:=by exact Ce) (a:gE ops n s g=true:=by exact rfl):WL r P ops Q (⟨some d,.box t x,ty,pos,af,g⟩ :: rest) (Fr n s ds) w:=bx a e hcs c K
theorem iR[T:TT P](c:St bs L w)(K:∀ b w', w.heap.size<=b->gA [] w w' -> St bs (blk b t cs :: L) w' -> WL r P ops Q rest (Fr n ((d,.pointer (some ⟨b,0,none⟩)) :: s) ds) w')
 (e:iY T.i t=some (sz,by_,z):=by exact rfl) (hcs:z.cells.toList=cs:=by exact Ce) (a:gE ops n s g=true:=by exact rfl):WL r P ops Q (⟨some d,.alloc t,ty,pos,af,g⟩ :: rest) (Fr n s ds) w:=al a (mL T.mZ e) hcs c K
end
end Go.Sx
namespace Go.Sx
open Go
section
variable {H:Type} {enc:TypeId×Value->H} {P:Program} {w:World} {sp:Nat->Bool} {hd:Bool} {t e:TypeId} {fuel:Nat} {v:Value} {cs:List Value} {x:DataW H×List MemPlace} {k:IntKind}
theorem aeQ{a:Addr}{u:Value}(h:w.cell? a=some u):a.spot=none:=by
 unfold World.cell? at h
 split at h
 . split at h
   . cases h
   . rename_i hs
     cases hq:a.spot with
     | none=>rfl
     | some q=>rw[hq]at hs;simp at hs
 . cases h
theorem Sl.Rr{α:Type}[Inhabited α]{sz:Nat}{E:World->α->List Value->Prop}(L:P.underlying t=some (.slice e))(F:P.cellsOf e=sz)(hp:0<sz)
 (C:∀ n cs y,DataW.trod enc P w 0 sp hd n e cs=some y->∃ x:α,E w x cs) (h:DataW.trod enc P w 0 sp hd fuel t cs=some x):∃ v xs,cs=[v]/\Sl sz E (fun _=>True) w v xs:=by
 rcases Go.Deep.open_slice L h with ⟨B,_⟩|⟨a,len,A,m,n,D,O,rfl,_,I,hm,K,_,z⟩
 . exact⟨_,[],B,Sl.nil _ _ _ _⟩
 . rw[F]at z
   have Q:len<=m:=by rw[K];split<;>omega
   obtain⟨X,k⟩:=Go.Deep.choose_lt (α:=α) (n:=len) (p:=fun i x=>∃ cs', w.cells? 0 (a.add (i*sz)) sz=some cs' /\ E w x cs') (fun i hi=>by
    obtain⟨cs', c,d⟩:=z i o_
    obtain⟨y,f⟩:=C _ _ _ d
    exact⟨y,cs', c,f⟩)
   refine⟨_,(List.range len).map X,rfl,some a,A,s_,by simp;exact I,hm,fun i y hi=>?_⟩
   have q:i<len:=by have:=(zk.1 hi).1;simpa using this
   have f:y=X i:=by
    rw[z7,p6 q]at hi
    simpa using hi.symm
   subst f
   obtain⟨cs', c,d⟩:=k i q
   obtain⟨_,J,G⟩:=World.cells?_some c
   have r:a.spot=none:=by
    obtain⟨cs0,M,_⟩:=k 0 o_
    obtain⟨_,R,N⟩:=World.cells?_some M
    have g:=N 0 hp
    have:cs0[0]? = some cs0[0]:=zm o_
    rw[this]at g
    have:=aeQ g
    simpa[Addr.add]using this
   obtain⟨b,o,s⟩:=a
   simp only at r
   subst r
   refine⟨b,o,cs', rfl,trivial,J,d,fun j u l=>?_⟩
   have H : j<sz:=by have:=(zk.1 l).1;omega
   have:=G j H
   rw[l]at this
   rw[Addr.add_lit,Addr.add_lit]at this
   exact this
theorem gZ.aco{n:Int}(h:(Lit.int k n).wf=true):gZ k n:=by
 simp only[Lit.wf,mU,decide_eq_true_eq]at h
 exact h
theorem wz(c:P.underlying e=some (.int k))(h:DataW.trod enc P w 0 sp hd fuel e cs=some x):∃ n,cs=[.int k n]/\gZ k n:=by
 obtain⟨m,a,_,b⟩:=DataW.trod_int c h
 exact⟨m,a,gZ.aco b⟩
theorem Px{a:Array Field}(g:P.underlying t=some (.struct a))(h:DataW.trod enc P w 0 sp hd fuel t cs=some x):cs.length=P.cellsOf t/\∀ f∈a.toList,∃ n y,DataW.trod enc P w 0 sp hd n f.type ((cs.drop f.offset).take (P.cellsOf f.type))=some y:=by
 cases fuel with
 | zero=>simp[DataW.trod]at h
 | succ n =>
  unfold DataW.trod at h
  rw[g]at h
  simp only at h
  split at h
  . rename_i c
    refine⟨c,fun f b=>?_⟩
    obtain⟨i,hi⟩:=G0 b
    cases hm:(a.toList.mapM fun f=>DataW.trod enc P w 0 sp hd n f.type ((cs.drop f.offset).take (P.cellsOf f.type)))with
    | none=>rw[hm]at h;simp at h
    | some ys =>
     have:=mapM_some_get hm i f hi
     have d:=mapM_some_length hm
     have e:i<ys.length:=by rw[d];exact(zk.1 hi).1
     rw[zm e]at this
     exact⟨n,_,this⟩
  . simp at h
end
end Go.Sx
