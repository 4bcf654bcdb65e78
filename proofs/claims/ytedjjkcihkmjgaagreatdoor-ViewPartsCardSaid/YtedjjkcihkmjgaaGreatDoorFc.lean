/- Plain lemmas: rules for walking through code, one for each operation, over any program; an evaluator of closed calls with its soundness; and plain mathematics. No conditions. -/
import Derived.Test.YtedjjkcihkmjgaaGreatDoorFb
import Derived.Test.YtedjjkcihkmjgaaGreatDoorFa
import Derived.Lib.TrailingZeros
import Derived.Sort.Grow
import Derived.Deep.Draws
set_option linter.unusedVariables false
set_option linter.unusedSectionVars false
set_option linter.unusedSimpArgs false
namespace Go.Sx
open Go
structure gT where
 st:Int
 after:Int
 times:Int
 deriving Inhabited
def gT.cells(x:gT):List Value:=[.int .i64 x.st,.int .i64 x.after,.int .u64 x.times]
structure As where
 n:Nat
 begun:Nat
 used:Nat
 last:Int
 sl:List gT
 fl:List Nat
 ps:List (Option Nat)
def BR(sl:List gT):Int->List Nat->Prop
 | l,[]=>l = -1
 | l,i :: r=>l=(i:Int)/\BR sl (fJ sl i).after r
def As.gZ(A:As)(i:Nat):Prop:=i<A.begun/\i∉A.fl
structure As.ok (A:As):Prop where
 n:A.n<=65536
 le:A.begun<=A.n
 pE:A.ps.length=(A.begun+63) / 64
 ps:∀ j,j<A.ps.length->∃ b,A.ps[j]? = some (some b)
 sl:A.sl.length=64*A.ps.length
 nodup:A.fl.Nodup
 fl:∀ i∈A.fl,i<A.begun
 chain:BR A.sl A.last A.fl
 st:∀ i,i<A.begun->(fJ A.sl i).st=if i∈A.fl then 2 else 1
 used:A.used+A.fl.length=A.begun
theorem CQ:∀ (L M:List Nat),L.Nodup->(∀ j∈L,j∈M)->L.length<=M.length
 | [],_,_,_=>by simp
 | x :: L,M,hn,h=>by
  have b:=h x s_
  have c:=CQ L (M.erase x) (zu.1 hn).2 (fun j a=>(List.mem_erase_of_ne (fun e=>(zu.1 hn).1 (by rw[<-e];exact a))).2 (h j (by simp[a])))
  rw[Dt b]at c
  have:=GQ b
  simp only[zb]
  omega
theorem A9(n:Nat)(L:List Nat)(b:L.Nodup)(h:∀ j∈L,j<n):L.length<=n:=by
 have:=CQ L (List.range n) b (fun j a=>lU.2 (h j a))
 simpa using this
theorem As.ok.room{A:As}(h:A.ok){i:Nat}(hi:i<A.begun):i<A.sl.length/\i / 64<A.ps.length:=by
 have a:=h.sl
 have b:=h.pE
 omega
theorem As.ok.at{A:As}(h:A.ok){i:Nat}(hi:i<A.begun):∃ b,A.ps[i / 64]? = some (some b):=h.ps _ (h.room hi).2
theorem BR.congr{sl a : List gT}:∀ {r:List Nat} {l:Int},BR sl l r->(∀ i∈r,(fJ a i).after=(fJ sl i).after)->BR a l r
 | [],_,h,_=>h
 | i :: r,l,h,he=>⟨h.1,by rw[he i s_];exact h.2.congr fun j b=>he j (by simp[b])⟩
def tk(x:gT):gT:=⟨1,-1,IntKind.u64.wrap (x.times+1)⟩
theorem LP{sl:List gT}{i:Nat}(hi:i<sl.length){t:Int}(a:t=IntKind.u64.wrap ((fJ sl i).times+1)):fM (fM (fM sl i (fun x=>{ x with st:=1 })) i (fun x=>{ x with after := -1 })) i (fun x=>{ x with times:=t })=fM sl i tk:=by
 subst a
 have e:∀ (l:List gT) (f g:gT->gT),i<l.length->fM (fM l i f) i g=fM l i (fun x=>g (f x)):=fun l f g h=>by
  have e:=jS (f:=f) h
  unfold fM at e ⊢
  rw[e,List.set_set]
 rw[e _ _ _ hi,e _ _ _ hi]
 rfl
theorem As.ok.pop{A:As}(h:A.ok){i:Nat}{r:List Nat}(a:A.fl=i :: r) :
 As.ok ⟨A.n,A.begun,A.used+1,(fJ A.sl i).after,fM A.sl i tk,r,A.ps⟩/\(∀ j,As.gZ ⟨A.n,A.begun,A.used+1,(fJ A.sl i).after,fM A.sl i tk,r,A.ps⟩ j↔A.gZ j\/j=i)/\¬ A.gZ i/\i<A.begun/\A.last=(i:Int):=by
 have d:=h.chain
 have c:=h.nodup
 rw[a]at d c
 rw[zu]at c
 have l:i<A.begun:=h.fl i (by rw[a];simp)
 have m:=(h.room l).1
 have g:=fun j=>jy (xs:=A.sl) (k:=i) (j:=j) (f:=tk) m
 refine⟨⟨h.n,h.le,h.pE,h.ps,by simp only[gx];exact h.sl,c.2,fun j b=>h.fl j (by rw[a];simp[b]),?_,fun j b=>?_,?_⟩,fun j=>?_,fun g=>g.2 (by rw[a];simp),l,d.1⟩
 . refine d.2.congr fun j b=>?_
   grind
 . simp only
   rw[g]
   split
   . rename_i e
     subst e
     rw[if_neg c.1]
     rfl
   . rename_i e
     have:=h.st j b
     grind
 . have:=h.used
   grind
 . grind [As.gZ]
theorem As.ok.fresh{A:As}(h:A.ok)(d:A.fl=[])(v:A.begun<A.n){ps2:List (Option Nat)}{sl2:List gT}{b:Nat}(hb:(A.begun%64=0/\ps2=A.ps++[some b]/\sl2=A.sl++List.replicate 64 ⟨0,0,0⟩)\/(A.begun%64≠0/\ps2=A.ps/\sl2=A.sl)) :
 As.ok ⟨A.n,A.begun+1,A.used+1,A.last,fM sl2 A.begun tk,[],ps2⟩/\(∀ j,As.gZ ⟨A.n,A.begun+1,A.used+1,A.last,fM sl2 A.begun tk,[],ps2⟩ j↔A.gZ j\/j=A.begun)/\¬ A.gZ A.begun/\A.last = -1/\A.begun<sl2.length/\∃ c,ps2[A.begun / 64]? = some (some c):=by
 have a:=h.chain
 have q:=h.sl
 have u:=h.pE
 rw[d]at a
 have r:ps2.length=(A.begun+1+63) / 64/\sl2.length=64*ps2.length/\(∀ j,j<ps2.length->∃ b,ps2[j]? = some (some b))/\∀ j,j<A.begun->fJ sl2 j=fJ A.sl j:=by
  rcases hb with ⟨e,rfl,rfl⟩|⟨e,rfl,rfl⟩
  . refine⟨by simp;omega,by simp;omega,fun j g=>?_,fun j g=>?_⟩
    . rw[GR]
      split
      . exact h.ps j (by assumption)
      . grind
    . grind [fJ]
  . exact⟨o_,q,h.ps,fun j _=>rfl⟩
 obtain⟨s,p2,p,t⟩:=r
 have o:A.begun<sl2.length:=by omega
 have l:=fun j=>jy (xs:=sl2) (k:=A.begun) (j:=j) (f:=tk) o
 refine⟨⟨h.n,by show A.begun+1<=A.n;omega,s,p,by simp only[gx];exact p2,BM,fun i hi=>by simp at hi,a,fun j g=>?_,?_⟩,fun j=>?_,fun l=>absurd l.1 o_,a,o,p _ o_⟩
 . simp only[oV,if_false]
   rw[l]
   split
   . rfl
   . rename_i e
     have m : j<A.begun:=by
      have:j<A.begun+1:=g
      omega
     rw[t j m, h.st j m, d]
     simp
 . have:=h.used
   rw[d]at this
   simp at this ⊢
   omega
 . grind [As.gZ]
theorem As.ok.full{A:As}(h:A.ok)(b:A.used<A.n):(∃ i r,A.fl=i :: r)\/(A.fl=[]/\A.begun<A.n):=by
 have a:=h.used
 cases hf:A.fl with
 | cons i r=>exact .inl ⟨i,r,rfl⟩
 | nil =>
  grind
theorem As.ok.free{A:As}(h:A.ok){i:Nat}(hi:A.gZ i){sl2:List gT}(hs:sl2=fM (fM A.sl i (fun x=>{ x with st:=2 })) i (fun x=>{ x with after:=A.last })) :
 As.ok ⟨A.n,A.begun,A.used-1,(i:Int),sl2,i :: A.fl,A.ps⟩/\(∀ j,As.gZ ⟨A.n,A.begun,A.used-1,(i:Int),sl2,i :: A.fl,A.ps⟩ j↔A.gZ j/\j≠i)/\0<A.used:=by
 obtain⟨b,c⟩:=hi
 have m:=(h.room b).1
 have l:=h.used
 have k:0<A.used:=by
  have g:(i :: A.fl).length<=A.begun:=by
   have f:(i :: A.fl).Nodup:=zu.2 ⟨c,h.nodup⟩
   exact A9 A.begun _ f fun j a=>by
    rcases ze.1 a with rfl|a
    . exact b
    . exact h.fl j a
  simp only[zb]at g
  omega
 have d:∀ j,fJ sl2 j=if i=j then { fJ A.sl i with st:=2,after:=A.last } else fJ A.sl j:=fun j=>by
  grind [jy,gx,jS,kS]
 refine⟨⟨h.n,h.le,h.pE,h.ps,by rw[hs];simp only[gx];exact h.sl,zu.2 ⟨c,h.nodup⟩,fun j a=>?_,⟨rfl,?_⟩,fun j a=>?_,by simp only[zb];omega⟩,fun j=>?_,k⟩
 . rcases ze.1 a with rfl|a
   . exact b
   . exact h.fl j a
 . rw[d,if_pos rfl]
   refine h.chain.congr fun j a=>?_
   grind
 . simp only
   rw[d]
   split
   . rename_i e
     subst e
     simp
   . rename_i e
     rw[h.st j a]
     grind
 . grind [As.gZ]
def As.list(A:As)(k:Nat):List Nat:=(List.range k).filter fun i=>decide ((fJ A.sl i).st=1)
theorem As.Q5(A:As)(k:Nat):A.list (k+1)=if (fJ A.sl k).st=1 then A.list k++[k]else A.list k:=by
 unfold As.list
 rw[rF,qI]
 grind
theorem As.Q4(A:As):∀ k,(A.list k).length<=k:=fun k=>by
 have:=tc (fun i=>decide ((fJ A.sl i).st=1)) (List.range k)
 simpa[As.list]using this
theorem As.ok.pn{A:As}(h:A.ok)(i:Nat):i∈A.list A.begun↔A.gZ i:=by
 simp only[As.list,z6,lU,decide_eq_true_eq,As.gZ]
 constructor
 . rintro⟨a,b⟩
   refine⟨a,fun c=>?_⟩
   rw[h.st i a,if_pos c]at b
   omega
 . rintro⟨a,b⟩
   exact⟨a,by rw[h.st i a,if_neg b]⟩
theorem As.CI(A:As)(k:Nat):(A.list k).Pairwise (· < ·):=List.Pairwise.filter _ List.pairwise_lt_range
theorem As.ok.AU{A:As}(h:A.ok):(A.list A.begun).length=A.used:=by
 have f:(A.list A.begun++A.fl).Nodup:=by
  rw[zr]
  refine⟨(A.CI _).imp (fun h=>Nat.ne_of_lt h),h.nodup,fun a d b hb e=>?_⟩
  subst e
  exact((h.pn a).1 d).2 hb
 have g:(A.list A.begun++A.fl).length<=A.begun:=A9 _ _ f fun j c=>by
  rcases zn.1 c with c|c
  . exact((h.pn j).1 c).1
  . exact h.fl j c
 have i:(List.range A.begun).length<=(A.list A.begun++A.fl).length:=by
  refine CQ _ _ xw fun j c=>?_
  rw[lU]at c
  by_cases e:j∈A.fl
  . exact zL _ e
  . exact ur _ ((h.pn j).2 ⟨c,e⟩)
 have k:=h.used
 grind
def As.new(n:Nat):As:=⟨n,0,0,-1,[],[],[]⟩
theorem As.tS{n:Nat}(b:n<=65536):(As.new n).ok :=
 ⟨b,lD _,by simp[As.new],fun j a=>by simp[As.new]at a,rfl,BM,fun i hi=>by simp[As.new]at hi,rfl,fun i hi=>by simp[As.new]at hi,rfl⟩
theorem As.ok.copy{A:As}(h:A.ok){a:List (Option Nat)}(c:a.length=A.ps.length)(d:∀ j,j<a.length->∃ b,a[j]? = some (some b)):As.ok { A with ps:=a } :=
 ⟨h.n,h.le,by show a.length=_;rw[c];exact h.pE,d,by show A.sl.length=_;rw[h.sl,c],h.nodup,h.fl,h.chain,h.st,h.used⟩
theorem afu{α:Type}(l:List α)(B k:Nat):l.take (B*k)++(l.drop (B*k)).take B=l.take (B*(k+1)):=by
 rw[Nat.mul_add,sD,List.take_add]
structure xx (qs:List (Option Nat)) (k:Nat):Prop where
 len:qs.length=k
 all:∀ j,j<qs.length->∃ b,qs[j]? = some (some b)
theorem xx.start:xx [] 0:=⟨rfl,fun j a=>by simp at a⟩
theorem xx.next{a:List (Option Nat)}{k b:Nat}(h:xx a k):xx (a++[some b]) (k+1) :=
 ⟨by simp[h.len],fun j c=>by
  rw[GR]
  split
  . exact h.all j (by assumption)
  . simp at c
    have:j-a.length=0:=by omega
    rw[this]
    exact⟨b,rfl⟩⟩
theorem VJ{α:Type}{l:List α}{B m k:Nat}(a:l.length=B*m)(hk:k<m):((l.drop (B*k)).take B).length=B/\(l.take (B*k)).length=B*k:=by
 have:B*(k+1)<=B*m:=BD _ hk
 grind
end Go.Sx
namespace Go.Sx
open Go
def iA(n c:Nat):Nat:=if c+1=n then 0 else c+1
def dst(n a b:Nat):Nat:=if a<=b then b-a else b+n-a
theorem Kh{n c:Nat}(h:c<n):iA n c<n:=by unfold iA;split<;>omega
theorem acr{n c:Nat}(h:c<n):(c+1)%n=iA n c:=by
 unfold iA
 split
 . rename_i e;rw[e,Nat.mod_self]
 . exact Nat.mod_eq_of_lt o_
theorem Iu{n a b:Nat}(c:a<n)(hb:b<n):dst n a b<n:=by unfold dst;split<;>omega
theorem xQ(n a:Nat):dst n a a=0:=by simp[dst]
theorem Et{n a b:Nat}(c:a<n)(hb:b<n):dst n a b=0↔a=b:=by unfold dst;split<;>omega
theorem WE{n a c:Nat}(b:a<n)(d:c<n)(h:iA n c≠a):dst n a (iA n c)=dst n a c+1:=by
 grind [dst,iA]
theorem Es{n z c:Nat}(b:z<n)(a:c<n)(h:c≠z):dst n (iA n c) z+1=dst n c z:=by
 grind [dst,iA]
theorem Er{n a b c:Nat}(d:a<n)(hb:b<n)(e:c<n)(h:dst n a b=dst n a c):b=c:=by
 grind [dst]
abbrev rI(n a b q:Nat):Prop:=dst n a q<dst n a b
def rK(n:Nat)(cs:List Nat)(hm:Nat->Nat):Prop:=∀ c i q,c<n->q<n->fJ cs c=i+1->rI n (hm i) c q->fJ cs q≠0
def uO(n:Nat)(cs:List Nat)(ok:Nat->Bool):Nat->Nat->Nat×Bool
 | 0,_=>(0,false)
 | f+1,c=>if fJ cs c=0 then(c,false)else if ok (fJ cs c-1)then(c,true)else uO n cs ok f (iA n c)
theorem Qa{n:Nat}{cs:List Nat}{ok:Nat->Bool}{z:Nat}(k:z<n)(d:fJ cs z=0):∀ (f c:Nat),c<n->dst n c z<f -> 
 ∃ r,r<n/\dst n c r<=dst n c z/\(∀ q,q<n->dst n c q<dst n c r->fJ cs q≠0/\ok (fJ cs q-1)=false)/\((uO n cs ok f c=(r,false)/\fJ cs r=0)\/(uO n cs ok f c=(r,true)/\fJ cs r≠0/\ok (fJ cs r-1)=true)):=by
 intro f
 induction f with
 | zero=>intro c _ h;omega
 | succ f l =>
  intro c a m
  unfold uO
  by_cases h1:fJ cs c=0
  . grind [xQ]
  . rw[if_neg h1]
    by_cases h2:ok (fJ cs c-1)=true
    . grind [xQ]
    . rw[if_neg h2]
      have g:c≠z:=fun e=>h1 (by rw[e];exact d)
      have hs:=Es k a g
      obtain⟨r,b,hd,o,j⟩:=l (iA n c) (Kh a) o_
      have i:c≠r:=by
       grind
      have t:=Es b a i
      refine⟨r,b,o_,fun q s p=>?_,j⟩
      by_cases hqc:c=q
      . subst hqc
        exact⟨h1,by simpa using h2⟩
      . grind [Es]
theorem ZI{n:Nat}{cs:List Nat}{ok:Nat->Bool}{hm:Nat->Nat}{p i:Nat}(f:rK n cs hm)(hp:p<n)(hi:fJ cs p=i+1)(c:hm i<n)(o:ok i=true)(t:∀ q j,q<n->fJ cs q=j+1->ok j=true->q=p)(k:∃ z,z<n/\fJ cs z=0):uO n cs ok n (hm i)=(p,true):=by
 obtain⟨z,d,l⟩:=k
 obtain⟨r,g,hd,s,h⟩:=Qa (ok:=ok) d l n (hm i) c (Iu c d)
 rcases h with ⟨e,a⟩|⟨e,a,m⟩
 . exfalso
   rcases BN (dst n (hm i) r) (dst n (hm i) p)with b|b
   . exact f p i r hp g hi b a
   . grind [dst,Er]
 . grind
theorem ZH{n:Nat}{cs:List Nat}{ok:Nat->Bool}{c:Nat}(a:c<n)(f:∀ q j,q<n->fJ cs q=j+1->ok j=false)(d:∃ z,z<n/\fJ cs z=0):∃ r,r<n/\uO n cs ok n c=(r,false)/\fJ cs r=0/\∀ q,q<n->rI n c r q->fJ cs q≠0:=by
 obtain⟨z,b,e⟩:=d
 obtain⟨r,i,hd,g,h⟩:=Qa (ok:=ok) b e n c a (Iu a b)
 grind
theorem rK.put{n:Nat}{cs:List Nat}{hm:Nat->Nat}{r i:Nat}(h:rK n cs hm)(o:cs.length=n)(s:r<n)(l:fJ cs r=0)(t:∀ q,q<n->rI n (hm i) r q->fJ cs q≠0)(m:hm i<n):rK n (fM cs r (fun _=>i+1)) hm:=by
 intro c j q b e a d
 have g:=fun q=>jy (xs:=cs) (k:=r) (j:=q) (f:=fun _=>i+1) o_
 rw[g]at a ⊢
 split
 . omega
 . rename_i p
   split at a
   . grind
   . exact h c j q b e a d
structure pO (n:Nat) (hm:Nat->Nat) (i0:Nat) (cs0 cs:List Nat) (hole c z:Nat):Prop where
 len:cs.length=n
 v8:hole<n
 On:c<n
 DI:z<n
 home:∀ p i,p<n->p≠hole->fJ cs p=i+1->hm i<n
 inj:∀ p q,p<n->q<n->p≠hole->q≠hole->fJ cs p≠0->fJ cs p=fJ cs q->p=q
 mem:∀ i,(∃ p,p<n/\p≠hole/\fJ cs p=i+1)↔i≠i0/\∃ p,p<n/\fJ cs0 p=i+1
 way:∀ p i q,p<n->q<n->p≠hole->q≠hole->fJ cs p=i+1->rI n (hm i) p q->fJ cs q≠0
 Sb:∀ p i,p<n->p≠hole->fJ cs p=i+1->rI n (hm i) p hole->dst n hole c<dst n hole p
 zero:fJ cs z=0
 zc:dst n hole c<dst n hole z
theorem pO.start{n:Nat}{hm:Nat->Nat}{i0:Nat}{cs:List Nat}{hole z:Nat}(d:rK n cs hm)(h:cs.length=n)(b:hole<n)(hi:fJ cs hole=i0+1)(l:z<n)(c:fJ cs z=0)(f:∀ p i,p<n->fJ cs p=i+1->hm i<n)
 (g:∀ p q,p<n->q<n->fJ cs p≠0->fJ cs p=fJ cs q->p=q):pO n hm i0 cs cs hole hole z:=by
 have o:hole≠z:=fun e=>by rw[e,c]at hi;omega
 refine⟨h,b,b,l,fun p i hp _=>f p i hp,fun p q hp a _ _=>g p q hp a,fun i=>⟨?_,?_⟩,fun p i q hp a _ _ k j=>d p i q hp a k j,fun p i hp m _ _=>?_,c,?_⟩
 . grind
 . grind
 . grind [xQ,Et]
 . grind [xQ,Et]
section
variable {n:Nat} {hm:Nat->Nat} {i0:Nat} {cs0 cs:List Nat} {hole c z:Nat}
theorem pO.next(h:pO n hm i0 cs0 cs hole c z):iA n c<n/\iA n c≠hole/\dst n hole (iA n c)=dst n hole c+1/\c≠z/\dst n (iA n c) z<dst n c z:=by
 have a:=h.zc
 have b:=h.On
 have d:=h.v8
 have e:=h.DI
 grind [Es,iA,dst,Iu,Kh,WE]
theorem pO.skip(h:pO n hm i0 cs0 cs hole c z){i:Nat}(hi:fJ cs (iA n c)=i+1)(t:dst n (hm i) (iA n c)<dst n hole (iA n c)):pO n hm i0 cs0 cs hole (iA n c) z:=by
 obtain⟨a,l,m,o,q⟩:=h.next
 refine⟨h.len,h.v8,a,h.DI,h.home,h.inj,h.mem,h.way,fun p j hp b d g=>?_,h.zero,?_⟩
 . have r:=h.Sb p j hp b d g
   have:p≠iA n c:=by
    intro e
    subst e
    have:j=i:=by omega
    subst this
    have s:=h.home _ _ a b d
    have k:=h.v8
    unfold rI dst at *
    grind
   have f:dst n hole p≠dst n hole (iA n c):=fun e=>this (Er h.v8 hp a e)
   omega
 . have:z≠iA n c:=fun e=>by
    have:=h.zero
    rw[e,hi]at this
    omega
   have f:dst n hole z≠dst n hole (iA n c):=fun e=>this (Er h.v8 h.DI a e)
   have:=h.zc
   omega
theorem pO.move(h:pO n hm i0 cs0 cs hole c z){i:Nat}(hi:fJ cs (iA n c)=i+1)(w:¬ dst n (hm i) (iA n c)<dst n hole (iA n c)):pO n hm i0 cs0 (fM cs hole (fun _=>i+1)) (iA n c) (iA n c) z:=by
 obtain⟨b,l,E,F,G⟩:=h.next
 have y:=h.len
 have v:=h.v8
 have x:=h.home _ _ b l hi
 have g:=fun q=>jy (xs:=cs) (k:=hole) (j:=q) (f:=fun _=>i+1) o_
 have C:hole≠z:=fun e=>by
  have:=h.zc
  rw[<-e,xQ]at this
  omega
 have D:z≠iA n c:=fun e=>by
  have:=h.zero
  rw[e,hi]at this
  omega
 have B:rI n (hm i) (iA n c) hole:=by
  unfold rI dst at *
  (repeat' split at w)<;>(repeat' split)<;>omega
 refine⟨by rw[gx];exact y,b,b,h.DI,fun p j hp o a=>?_,fun p q hp m t u s d=>?_,fun j=>?_,fun p j q hp m t u a r=>?_,fun p j hp o a r=>?_,?_,?_⟩
 . rw[g]at a
   split at a
   . have:j=i:=by omega
     subst this
     exact x
   . rename_i A
     exact h.home p j hp (fun e=>A e.symm) a
 . rw[g]at s d
   rw[g]at d
   by_cases e1:hole=p
   . by_cases e2:hole=q
     . omega
     . rw[if_pos e1,if_neg e2]at d
       have:=h.inj q (iA n c) m b (fun e=>e2 e.symm) l o_ o_
       exact absurd this u
   . by_cases e2:hole=q
     . rw[if_neg e1,if_pos e2]at d
       have:=h.inj p (iA n c) hp b (fun e=>e1 e.symm) l o_ o_
       exact absurd this t
     . rw[if_neg e1,if_neg e2]at d
       rw[if_neg e1]at s
       exact h.inj p q hp m (fun e=>e1 e.symm) (fun e=>e2 e.symm) s d
 . rw[<-h.mem j]
   constructor
   . grind [iA]
   . rintro⟨p,hp,o,a⟩
     by_cases e1:p=iA n c
     . refine⟨hole,v,fun e=>l e.symm,?_⟩
       rw[g,if_pos rfl]
       rw[e1,hi]at a
       omega
     . refine⟨p,hp,e1,?_⟩
       grind
 . rw[g]at a ⊢
   by_cases e2:hole=q
   . rw[if_pos e2];omega
   . rw[if_neg e2]
     by_cases e1:hole=p
     . rw[if_pos e1]at a
       have:j=i:=by omega
       subst this
       subst e1
       exact h.way (iA n c) j q b m l (fun e=>e2 e.symm) hi (Nat.lt_trans r B)
     . rw[if_neg e1]at a
       exact h.way p j q hp m (fun e=>e1 e.symm) (fun e=>e2 e.symm) a r
 . rw[xQ]
   have:=mt (Et b hp).1 (fun e=>o e.symm)
   omega
 . rw[g,if_neg C]
   exact h.zero
 . rw[xQ]
   have:=mt (Et b h.DI).1 (fun e=>D e.symm)
   omega
theorem pO.done(h:pO n hm i0 cs0 cs hole c z)(m:fJ cs (iA n c)=0)(E:∃ p,p<n/\fJ cs0 p=i0+1) :
 rK n (fM cs hole (fun _=>0)) hm/\(∀ p q,p<n->q<n->fJ (fM cs hole (fun _=>0)) p≠0->fJ (fM cs hole (fun _=>0)) p=fJ (fM cs hole (fun _=>0)) q->p=q) /\
 (∀ i,(∃ p,p<n/\fJ (fM cs hole (fun _=>0)) p=i+1)↔i≠i0/\∃ p,p<n/\fJ cs0 p=i+1):=by
 obtain⟨o,s,t,C,u⟩:=h.next
 have F:=h.len
 have A:=h.v8
 have l:=fun q=>jy (xs:=cs) (k:=hole) (j:=q) (f:=fun _=>0) o_
 refine⟨fun p i q hp g a r=>?_,fun p q hp g d b=>?_,fun i=>?_⟩
 . rw[l]at a ⊢
   by_cases e1:hole=p
   . rw[if_pos e1]at a;omega
   . rw[if_neg e1]at a
     have D:=h.home p i hp (fun e=>e1 e.symm) a
     by_cases e2:hole=q
     . exfalso
       subst e2
       have v:=h.Sb p i hp (fun e=>e1 e.symm) a r
       have w:p≠iA n c:=fun e=>by rw[e,m]at a;omega
       have x:dst n hole p≠dst n hole (iA n c):=fun e=>w (Er A hp o e)
       have y:rI n (hm i) p (iA n c):=by
        have B:dst n hole (iA n c)<dst n hole p:=by omega
        clear v x t u
        unfold rI dst at *
        grind
       exact h.way p i (iA n c) hp o (fun e=>e1 e.symm) s a y m
     . rw[if_neg e2]
       exact h.way p i q hp g (fun e=>e1 e.symm) (fun e=>e2 e.symm) a r
 . rw[l]at d b
   rw[l]at b
   by_cases e1:hole=p
   . rw[if_pos e1]at d;omega
   . rw[if_neg e1]at d b
     by_cases e2:hole=q
     . rw[if_pos e2]at b;omega
     . rw[if_neg e2]at b
       exact h.inj p q hp g (fun e=>e1 e.symm) (fun e=>e2 e.symm) d b
 . rw[<-h.mem i]
   constructor
   . rintro⟨p,hp,a⟩
     grind
   . rintro⟨p,hp,G,a⟩
     grind
end
end Go.Sx
namespace Go.Sx
open Go
structure AW where
 bv:Value
 A:As
structure AW.put (A A2:As) (i:Nat):Prop where
 n:A2.n=A.n
 used:A2.used=A.used+1
 gZ:∀ j,A2.gZ j↔A.gZ j\/j=i
 new:¬ A.gZ i
 o6:(i<A.begun/\A2.begun=A.begun)\/(i=A.begun/\A2.begun=A.begun+1)
structure AW.del (A A2:As) (i:Nat):Prop where
 n:A2.n=A.n
 o6:A2.begun=A.begun
 used:A2.used=A.used-1
 pos:0<A.used
 gZ:∀ j,A2.gZ j↔A.gZ j/\j≠i
def kY(a:Int):Int:=(tJ .xor .u64 a (a.fdiv (2 ^ 33))).getD 0
def mw(c a:Int):Int:=IntKind.u64.wrap (a*c)
def AO(id:Int):Int:=kY (mw 14181476777654086739 (kY (mw 18397679294719823053 (kY id))))
def kQ(n:Nat)(id:Int):Nat:=(AO id%(n:Int)).toNat
theorem xY{n:Nat}{id:Int}(h:0<n):kQ n id<n:=by
 have a:=Int.emod_lt_of_pos (AO id) (show (0:Int)<n by omega)
 have b:=Du (AO id) (show (n:Int)≠0 by omega)
 unfold kQ
 omega
theorem aae{n:Nat}{id:Int}(h:0<n):AO id%(n:Int)=(kQ n id:Int):=by
 have a:=Du (AO id) (show (n:Int)≠0 by omega)
 unfold kQ
 omega
def P2(n:Nat):Prop:=∃ k,k<=40/\n=2 ^ k
theorem P2.pos{n:Nat}(h:P2 n):0<n:=by
 obtain⟨k,_,rfl⟩:=h
 exact Nat.two_pow_pos k
theorem P2.le{n:Nat}(h:P2 n):n<=1099511627776:=by
 obtain⟨k,a,rfl⟩:=h
 calc 2 ^ k<=2 ^ 40:=Nat.pow_le_pow_right d_ a
  _=1099511627776:=by decide
theorem P2.T7{n:Nat}(h:P2 n)(x:Int):((BitVec.ofInt 64 x) &&& (BitVec.ofInt 64 ((n:Int)-1))).toNat=(x%(n:Int)).toNat:=by
 have g:=h.pos
 have f:=h.le
 obtain⟨k,d,rfl⟩:=h
 rw[BitVec.toNat_and,BitVec.toNat_ofInt,BitVec.toNat_ofInt]
 have e:(((2 ^ k:Nat):Int)-1)%((2 ^ 64:Nat):Int)=((2 ^ k-1:Nat):Int):=by
  grind
 rw[e,nT,Nat.and_two_pow_sub_one_eq_mod]
 have hd:(((2 ^ k:Nat):Int)) ∣ ((2 ^ 64:Nat):Int):=by
  refine Int.natCast_dvd_natCast.2 (Nat.pow_dvd_pow 2 o_)
 have c:0<=x%((2 ^ 64:Nat):Int):=Du _ d_
 have a:=Int.emod_emod_of_dvd x hd
 have b:((x%((2 ^ 64:Nat):Int)).toNat%2 ^ k:Nat)=((x%((2 ^ 64:Nat):Int))%((2 ^ k:Nat):Int)).toNat:=by
  grind
 rw[b,a]
theorem P2.NN{n:Nat}(h:P2 n)(x:Int):tJ .and .i64 x ((n:Int)-1)=some (x%(n:Int)):=by
 have a:=Int.emod_lt_of_pos x (show (0:Int)<n by have:=h.pos;omega)
 have b:=Du x (show (n:Int)≠0 by have:=h.pos;omega)
 have c:=h.le
 have e:=h.T7 x
 show some (IntKind.i64.wrap (((BitVec.ofInt 64 x) &&& (BitVec.ofInt 64 ((n:Int)-1))).toNat:Int))=_
 rw[e,oh o_]
 congr 1
 omega
theorem P2.U6{n:Nat}(h:P2 n)(x:Int):tJ .and .u64 x ((n:Int)-1)=some (x%(n:Int)):=by
 have a:=Int.emod_lt_of_pos x (show (0:Int)<n by have:=h.pos;omega)
 have b:=Du x (show (n:Int)≠0 by have:=h.pos;omega)
 have c:=h.le
 have e:=h.T7 x
 show some (IntKind.u64.wrap (((BitVec.ofInt 64 x) &&& (BitVec.ofInt 64 ((n:Int)-1))).toNat:Int))=_
 rw[e,Gl o_]
 congr 1
 omega
theorem P2.nx{n c:Nat}(h:P2 n)(a:c<n):tJ .and .i64 ((c:Int)+1) ((n:Int)-1)=some ((iA n c:Nat):Int):=by
 rw[h.NN,<-acr a]
 rfl
theorem P2.dst{n a b:Nat}(h:P2 n)(c:a<n)(hb:b<n):tJ .and .i64 ((b:Int)-(a:Int)) ((n:Int)-1)=some ((dst n a b:Nat):Int):=by
 rw[h.NN]
 congr 1
 unfold Sx.dst
 split
 . rw[Int.emod_eq_of_lt o_ o_]
   omega
 . rw[show (b:Int)-(a:Int)=((b:Int)-a+n)+n*(-1) by omega,Int.add_mul_emod_self_left,Int.emod_eq_of_lt o_ o_]
   omega
theorem Mc(a:Int):tJ .xor .u64 a (a.fdiv (2 ^ 33))=some (kY a):=rfl
theorem P2.home{n:Nat}(h:P2 n)(id:Int):tJ .and .u64 (AO id) ((n:Int)-1)=some ((kQ n id:Nat):Int):=by
 rw[h.U6,aae h.pos]
def gO(x:Int):List Value:=[.int .u64 x]
structure TW where
 iv:Value
 cv:Value
 w:AW
 ids:List Int
 cs:List Nat
abbrev TW.A(t:TW):As:=t.w.A
abbrev TW.n(t:TW):Nat:=t.cs.length
structure TW.ok (t:TW):Prop where
 p2:P2 t.n
 top:t.n<=1000000
 two:2<=t.n
 room:2*t.A.n<=t.n
 an:t.A.n<=65536
 tM:t.ids.length=t.A.begun
 ids:∀ i,ia .u64 (fJ t.ids i)
 cell:∀ i,(∃ p,p<t.n/\fJ t.cs p=i+1)↔t.A.gZ i
 inj:∀ p q,p<t.n->q<t.n->fJ t.cs p≠0->fJ t.cs p=fJ t.cs q->p=q
 uniq:∀ i j,t.A.gZ i->t.A.gZ j->fJ t.ids i=fJ t.ids j->i=j
 FC:rK t.n t.cs (fun i=>kQ t.n (fJ t.ids i))
 o6:t.A.begun<=t.A.n
 ul:t.A.used<=t.A.n
structure TW.Sz (n:Nat):Prop where
 p2:P2 n
 two:2<=n
 top:n<=1000000
theorem TW.ok.sz{t:TW}(h:t.ok):TW.Sz t.n:=⟨h.p2,h.two,h.top⟩
def TW.mem(t:TW)(id:Int):Prop:=∃ i,t.A.gZ i/\fJ t.ids i=id
theorem TW.ok.val{t:TW}(h:t.ok){p i:Nat}(hp:p<t.n)(c:fJ t.cs p=i+1):t.A.gZ i/\i<t.A.begun/\i<t.ids.length/\i<t.A.n:=by
 have a:=(h.cell i).1 ⟨p,hp,c⟩
 have b:=a.1
 have d:=h.tM
 have e:=h.o6
 exact⟨a,b,o_,o_⟩
theorem TW.ok.zero{t:TW}(h:t.ok):∃ z,z<t.n/\fJ t.cs z=0:=by
 by_cases hz:∃ z,z<t.n/\fJ t.cs z=0
 . exact hz
 . exfalso
   have a:∀ p,p<t.n->fJ t.cs p≠0:=fun p hp c=>hz ⟨p,hp,c⟩
   have d:((List.range t.n).map fun p=>fJ t.cs p-1).length<=t.A.n:=by
    refine A9 _ _ ?_ ?_
    . unfold List.Nodup
      rw[List.pairwise_map]
      refine List.Pairwise.imp_of_mem ?_ (List.pairwise_lt_range (n:=t.n))
      intro p q hp b g e
      rw[lU]at hp b
      have a1:=a p hp
      have a2:=a q b
      have:=h.inj p q hp b a1 o_
      omega
    . intro j f
      obtain⟨p,hp,rfl⟩:=zy.1 f
      rw[lU]at hp
      have a1:=a p hp
      exact(h.val hp (i:=fJ t.cs p-1) o_).2.2.2
   rw[zq,nu]at d
   have:=h.room
   have:=h.two
   omega
def TW.find(t:TW)(id:Int):Nat×Bool:=uO t.n t.cs (fun i=>fJ t.ids i==id) t.n (kQ t.n id)
theorem TW.ok.I2{t:TW}(h:t.ok){i:Nat}(hi:t.A.gZ i):∃ p,p<t.n/\fJ t.cs p=i+1/\t.find (fJ t.ids i)=(p,true):=by
 obtain⟨p,hp,a⟩:=(h.cell i).2 hi
 refine⟨p,hp,a,?_⟩
 refine ZI (hm:=fun i=>kQ t.n (fJ t.ids i)) h.FC hp a (xY (by have:=h.two;omega)) s_ ?_ h.zero
 intro q j b c e
 have d:=(h.val b c).1
 have:=h.uniq j i d hi (by simpa using e)
 subst this
 exact h.inj q p b hp o_ o_
theorem TW.ok.Qb{t:TW}(h:t.ok){id:Int}(c:¬ t.mem id):∃ r,r<t.n/\t.find id=(r,false)/\fJ t.cs r=0/\∀ q,q<t.n->rI t.n (kQ t.n id) r q->fJ t.cs q≠0:=by
 refine ZH (xY (by have:=h.two;omega)) ?_ h.zero
 intro q j d a
 have b:=(h.val d a).1
 have:fJ t.ids j≠id:=fun e=>c ⟨j,b,e⟩
 simpa using this
def tU(ids:List Int)(i:Nat)(id:Int):List Int:=fM (if i=ids.length then ids++[0]else ids) i (fun _=>id)
theorem SB{ids:List Int}{i:Nat}{id:Int}(h:i<=ids.length)(j:Nat):fJ (tU ids i id) j=if i=j then id else fJ ids j:=by
 grind [tU,jy,fJ]
theorem adz{ids:List Int}{i:Nat}{id:Int}(h:i<=ids.length):(tU ids i id).length=if i=ids.length then ids.length+1 else ids.length:=by
 unfold tU
 rw[gx]
 split<;>simp
section
variable {t:TW}
theorem TW.ok.put(h:t.ok){id:Int}(G:¬ t.mem id)(L:ia .u64 id){v2:AW}{i r:Nat}(B:v2.A.ok)(hp:AW.put t.A v2.A i)(C:r<t.n)(D:fJ t.cs r=0)(P:∀ q,q<t.n->rI t.n (kQ t.n id) r q->fJ t.cs q≠0)(iv cv:Value){is2:List Int}{cs2:List Nat}(E:is2=tU t.ids i id)(hcs:cs2=fM t.cs r (fun _=>i+1)) :
 TW.ok ⟨iv,cv,v2,is2,cs2⟩/\∀ x,TW.mem ⟨iv,cv,v2,is2,cs2⟩ x↔t.mem x\/x=id:=by
 have Q:=h.tM
 have F:i<=t.ids.length:=by
  rcases hp.o6 with d|d<;>omega
 have m:∀ j,fJ is2 j=if i=j then id else fJ t.ids j:=by rw[E];exact SB F
 have y:∀ q,fJ cs2 q=if r=q then i+1 else fJ t.cs q:=by rw[hcs];exact fun q=>jy C
 have o:cs2.length=t.n:=by rw[hcs];exact gx
 have O:is2.length=if i=t.ids.length then t.ids.length+1 else t.ids.length:=by rw[E];exact adz F
 have v:=hp.gZ
 have H:=hp.new
 have w:∀ j,t.A.gZ j->i≠j:=fun j g e=>H (e▸g)
 have N:∀ x,TW.mem ⟨iv,cv,v2,is2,cs2⟩ x↔t.mem x\/x=id:=by
  intro x
  constructor
  . rintro⟨j,g,u⟩
    change fJ is2 j=x at u
    rw[m]at u
    split at u
    . exact .inr u.symm
    . rename_i M
      rcases(v j).1 g with d|d
      . exact .inl ⟨j,d,u⟩
      . exact absurd d.symm M
  . rintro(⟨j,g,u⟩|rfl)
    . exact⟨j,(v j).2 (.inl g),by show fJ is2 j=x;rw[m,if_neg (w j g)];exact u⟩
    . exact⟨i,(v i).2 (.inr rfl),by show fJ is2 i=x;rw[m,if_pos rfl]⟩
 have R:∀ p,p<t.n->fJ t.cs p≠i+1:=fun p k f=>H (h.val k f).1
 refine⟨⟨?_,?_,?_,?_,?_,?_,?_,?_,?_,?_,?_,?_,?_⟩,N⟩
 . show P2 cs2.length;rw[o];exact h.p2
 . show cs2.length<=_;rw[o];exact h.top
 . show 2<=cs2.length;rw[o];exact h.two
 . show 2*v2.A.n<=cs2.length;rw[o,hp.n];exact h.room
 . show v2.A.n<=_;rw[hp.n];exact h.an
 . show is2.length=v2.A.begun
   rw[O]
   rcases hp.o6 with d|d
   . rw[if_neg o_];omega
   . rw[if_pos o_];omega
 . intro j
   show ia .u64 (fJ is2 j)
   rw[m]
   split
   . exact L
   . exact h.ids j
 . intro j
   show (∃ p,p<cs2.length/\fJ cs2 p=j+1)↔v2.A.gZ j
   rw[o,v]
   constructor
   . rintro⟨p,k, f⟩
     rw[y]at f
     split at f
     . exact .inr o_
     . exact .inl ((h.cell j).1 ⟨p,k, f⟩)
   . rintro(d|rfl)
     . obtain⟨p,k, f⟩:=(h.cell j).2 d
       refine⟨p,k, ?_⟩
       rw[y,if_neg (fun e=>by rw[e,f]at D;omega)]
       exact f
     . exact⟨r,C,by rw[y,if_pos rfl]⟩
 . intro p q k s
   show fJ cs2 p≠0->fJ cs2 p=fJ cs2 q->p=q
   change p<cs2.length at k
   change q<cs2.length at s
   rw[o]at k s
   rw[y,y]
   intro a b
   by_cases d:r=p
   . grind
   . by_cases l:r=q
     . grind
     . rw[if_neg d,if_neg l]at b
       rw[if_neg d]at a
       exact h.inj p q k s a b
 . intro a b K hb
   show fJ is2 a=fJ is2 b->a=b
   rw[m,m]
   intro e
   rcases(v a).1 K with d|d<;>rcases(v b).1 hb with l|l
   . rw[if_neg (w a d),if_neg (w b l)]at e
     exact h.uniq a b d l e
   . rw[if_neg (w a d),if_pos l.symm]at e
     exact absurd ⟨a,d,e⟩ G
   . rw[if_pos d.symm,if_neg (w b l)]at e
     exact absurd ⟨b,l,e.symm⟩ G
   . omega
 . show rK cs2.length _ (fun j=>kQ cs2.length (fJ is2 j))
   rw[o]
   have I:rK t.n t.cs (fun j=>kQ t.n (fJ is2 j)):=by
    intro c j q f s g z
    have d:=w j (h.val f g).1
    simp only[m,if_neg d]at z
    exact h.FC c j q f s g z
   have J:=I.put rfl C D (i:=i) (by
    intro q s z
    simp only[m,if_pos]at z
    exact P q s z) (xY (by have:=h.two;omega))
   rw[hcs]
   exact J
 . show v2.A.begun<=v2.A.n
   exact B.le
 . show v2.A.used<=v2.A.n
   have:=B.used
   have:=B.le
   omega
end
section
variable {t:TW}
def TW.rest(t:TW)(id:Int)(k c:Nat):Prop:=t.find id=uO t.n t.cs (fun i=>fJ t.ids i==id) (t.n-k) c
theorem TW.ad1(t:TW)(id:Int):t.rest id 0 (kQ t.n id):=rfl
theorem TW.KM{id:Int}{k c:Nat}(h:t.rest id k c)(hk:k<t.n):t.find id=if fJ t.cs c=0 then(c,false)else if (fJ t.ids (fJ t.cs c-1)==id)=true then(c,true)else uO t.n t.cs (fun i=>fJ t.ids i==id) (t.n-(k+1)) (iA t.n c):=by
 have e:t.n-k=(t.n-(k+1))+1:=by omega
 unfold TW.rest at h
 rw[e]at h
 exact h
theorem TW.ad2{id:Int}{k c:Nat}(h:t.rest id k c)(hk:k<t.n)(a:fJ t.cs c=0):t.find id=(c,false):=by
 rw[TW.KM h hk,if_pos a]
theorem TW.adZ{id:Int}{k c j:Nat}(h:t.rest id k c)(hk:k<t.n)(b:fJ t.cs c=j+1)(a:fJ t.ids j=id):t.find id=(c,true):=by
 rw[TW.KM h hk,if_neg o_,if_pos (by rw[b];simpa using a)]
theorem TW.ad0{id:Int}{k c j:Nat}(h:t.rest id k c)(hk:k<t.n)(b:fJ t.cs c=j+1)(a:fJ t.ids j≠id):t.rest id (k+1) (iA t.n c):=by
 have:=TW.KM h hk
 rw[if_neg o_,if_neg (by rw[b];simpa using a)]at this
 exact this
theorem TW.adY{id:Int}{c:Nat}(h:t.rest id t.n c):t.find id=(0,false):=by
 unfold TW.rest at h
 rw[Nat.sub_self]at h
 exact h
end
def TW.oD(t:TW)(id:Int)(z:Nat)(b:Bool):Prop:=(b=true/\t.A.gZ z/\fJ t.ids z=id)\/(b=false/\z=0/\¬ t.mem id)
section
variable {t:TW}
theorem TW.ok.del(h:t.ok){i:Nat}(hi:t.A.gZ i){v2:AW}(r:v2.A.ok)(hd:AW.del t.A v2.A i){cs2:List Nat}(m:cs2.length=t.n)
 (o:rK t.n cs2 (fun j=>kQ t.n (fJ t.ids j))/\(∀ p q,p<t.n->q<t.n->fJ cs2 p≠0->fJ cs2 p=fJ cs2 q->p=q)/\(∀ s,(∃ p,p<t.n/\fJ cs2 p=s+1)↔s≠i/\∃ p,p<t.n/\fJ t.cs p=s+1)) (iv cv:Value) {is2:List Int} (v:is2=fM t.ids i (fun _=>0)) :
 TW.ok ⟨iv,cv,v2,is2,cs2⟩/\∀ x,TW.mem ⟨iv,cv,v2,is2,cs2⟩ x↔t.mem x/\x≠fJ t.ids i:=by
 obtain⟨B,H,y⟩:=o
 have D:i<t.ids.length:=by have:=hi.1;have:=h.tM;omega
 have g:∀ j,fJ is2 j=if i=j then 0 else fJ t.ids j:=by rw[v];exact fun j=>jy D
 have l:=hd.gZ
 have G:∀ j,(∃ p,p<t.n/\fJ cs2 p=j+1)↔v2.A.gZ j:=by
  intro j
  rw[y,l,h.cell]
  exact And.comm
 refine⟨⟨?_,?_,?_,?_,?_,?_,?_,?_,?_,?_,?_,?_,?_⟩,fun x=>⟨?_,?_⟩⟩
 . show P2 cs2.length;rw[m];exact h.p2
 . show cs2.length<=_;rw[m];exact h.top
 . show 2<=cs2.length;rw[m];exact h.two
 . show 2*v2.A.n<=cs2.length;rw[m,hd.n];exact h.room
 . show v2.A.n<=_;rw[hd.n];exact h.an
 . show is2.length=v2.A.begun;rw[v,gx,hd.o6];exact h.tM
 . intro j
   show ia .u64 (fJ is2 j)
   rw[g]
   split
   . exact⟨d_,d_⟩
   . exact h.ids j
 . grind
 . grind
 . intro a b C hb
   show fJ is2 a=fJ is2 b->a=b
   have d:=(l a).1 C
   have u:=(l b).1 hb
   rw[g,g,if_neg (fun e=>d.2 e.symm),if_neg (fun e=>u.2 e.symm)]
   exact h.uniq a b d.1 u.1
 . show rK cs2.length _ (fun j=>kQ cs2.length (fJ is2 j))
   rw[m]
   intro c j q o F k z
   have d:j≠i:=((y j).1 ⟨c,o,k⟩).1
   simp only[g,if_neg (fun e=>d e.symm:¬ i=j)]at z
   exact B c j q o F k z
 . show v2.A.begun<=v2.A.n
   exact r.le
 . show v2.A.used<=v2.A.n
   have:=r.used
   have:=r.le
   omega
 . rintro⟨j,k,f⟩
   change fJ is2 j=x at f
   have d:=(l j).1 k
   rw[g,if_neg (fun e=>d.2 e.symm)]at f
   exact⟨⟨j,d.1,f⟩,fun e=>d.2 (h.uniq j i d.1 hi (f.trans e))⟩
 . rintro⟨⟨j,k,f⟩,E⟩
   have w:j≠i:=fun e=>E (by rw[<-f,e])
   exact⟨j,(l j).2 ⟨k,w⟩,by show fJ is2 j=x;rw[g,if_neg (fun e=>w e.symm)];exact f⟩
theorem TW.ok.copy(h:t.ok){v2:AW}{f:List (Option Nat)}(hv:v2.A={ t.A with ps:=f })(iv cv:Value):TW.ok ⟨iv,cv,v2,t.ids,t.cs⟩/\∀ x,TW.mem ⟨iv,cv,v2,t.ids,t.cs⟩ x↔t.mem x:=by
 have c:∀ j,v2.A.gZ j↔t.A.gZ j:=fun j=>by rw[hv];rfl
 have e1:v2.A.n=t.A.n:=by rw[hv]
 have d:v2.A.begun=t.A.begun:=by rw[hv]
 refine⟨⟨h.p2,h.top,h.two,?_,?_,?_,h.ids,?_,h.inj,?_,h.FC,?_,?_⟩,fun x=>?_⟩
 . show 2*v2.A.n<=_;rw[e1];exact h.room
 . show v2.A.n<=_;rw[e1];exact h.an
 . show t.ids.length=v2.A.begun;rw[d];exact h.tM
 . exact fun i=>(h.cell i).trans (c i).symm
 . exact fun a b e hb=>h.uniq a b ((c a).1 e) ((c b).1 hb)
 . show v2.A.begun<=v2.A.n;rw[e1,d];exact h.o6
 . show v2.A.used<=v2.A.n;rw[hv];exact h.ul
 . exact exists_congr fun i=>and_congr_left fun _=>c i
theorem P2.two:P2 2:=⟨1,d_,rfl⟩
theorem P2.Wp{n:Nat}(h:P2 n)(b:n<=1000000):P2 (n*2):=by
 obtain⟨k,a,rfl⟩:=h
 refine⟨k+1,?_,by rw[DG]⟩
 by_cases h9:k+1<=40
 . exact h9
 . grind
theorem TW.tS{m n:Nat}{v:AW}(hv:v.A=As.new m)(hm:m<=65536)(r:P2 n)(h1:2<=n)(l:2*m<=n)(o:n<=1000000)(iv cv:Value):TW.ok ⟨iv,cv,v,[],List.replicate n 0⟩/\∀ x,¬ TW.mem ⟨iv,cv,v,[],List.replicate n 0⟩ x:=by
 have s:(List.replicate n 0).length=n:=qh
 have k:∀ p,fJ (List.replicate n 0) p=0:=by
  intro p
  simp only[fJ,rD]
  split<;>rfl
 have f:∀ j,¬ v.A.gZ j:=fun j d=>by rw[hv]at d;exact absurd d.1 (by simp[As.new])
 have e1:v.A.n=m:=by rw[hv];rfl
 have g:v.A.begun=0:=by rw[hv];rfl
 refine⟨⟨?_,?_,?_,?_,?_,?_,?_,?_,?_,?_,?_,?_,?_⟩,fun x ⟨j,d,_⟩=>f j d⟩
 . grind
 . grind
 . grind
 . grind
 . show v.A.n<=_;rw[e1];exact hm
 . grind
 . intro j
   have e:fJ ([]:List Int) j=0:=by show (none:Option Int).getD default=0;rfl
   show ia .u64 (fJ ([]:List Int) j)
   rw[e]
   exact⟨d_,d_⟩
 . grind
 . intro p q _ _ h
   exact absurd (k p) h
 . exact fun a b i=>absurd i (f a)
 . intro c j q _ _ d
   grind
 . show v.A.begun<=v.A.n;rw[g];omega
 . show v.A.used<=v.A.n;rw[hv];exact lD _
end
end Go.Sx
namespace Go.Sx
open Go
structure Lv where
 slot:Int
 seq:Int
 u:Int
 v:Int
 wt:Int
 t:Int
 exp:Int
structure Cf where
 win:Int
 fN:Int
 fO:Int
 kW:Int
instance:Inhabited Lv:=⟨⟨0,0,0,0,0,0,0⟩⟩
def Lv.cells(x:Lv):List Value:=[.int .i64 x.slot,.int .u64 x.seq,.int .u64 x.u,.int .u64 x.v,.int .i64 x.wt,.int .i64 x.t,.int .i64 x.exp]
structure Lv.ok (x:Lv):Prop where
 slot:ia .i64 x.slot
 seq:ia .u64 x.seq
 u:ia .u64 x.u
 v:ia .u64 x.v
 wt:ia .i64 x.wt
 t:ia .i64 x.t
 exp:ia .i64 x.exp
end Go.Sx
namespace Go.Sx
open Go
end Go.Sx
namespace Go.Sx
open Go
structure fU where
 jj:Nat
 tb:Nat
 ab:Nat
 mb:Nat
 lv:Value
 last:Int
 aw:AW
 t:TW
 live:List Lv
 im:IM
abbrev fU.A(s:fU):As:=s.aw.A
abbrev Lv.at(x:Lv)(id:Int):Prop:=x.u=id\/x.v=id
def fU.inc(s:fU)(id:Int):List Nat:=(gh s.im id).2
structure fU.ok (fO fN:Nat) (s:fU):Prop where
 n:s.A.n=fN
 tn:s.t.A.n=fO
 en:fN<=16384
 vn:fO<=4096
 lE:s.A.ok
 tok:s.t.ok
 ll:s.live.length=s.A.begun
 slot:∀ i,s.A.gZ i->(fJ s.live i).slot=(i:Int)
 Fa:∀ i,(fJ s.live i).ok
 ne:∀ i,s.A.gZ i->(fJ s.live i).u≠(fJ s.live i).v
 mem:∀ id,s.t.mem id↔∃ i,s.A.gZ i/\(fJ s.live i).at id
 keys:(s.im.map Prod.fst).Nodup
 inc:∀ id i,i∈s.inc id↔s.A.gZ i/\(fJ s.live i).at id
 nd:∀ id,(s.inc id).Nodup
 empty:∀ id,ir s.im id=none↔s.inc id=[]
 seq:∀ i,s.A.gZ i->(fJ s.live i).seq<=s.last
 FU:∀ i j,s.A.gZ i->s.A.gZ j->(fJ s.live i).seq=(fJ s.live j).seq->i=j
 sS:0<=s.last
def fU.has(s:fU)(x:Lv):Prop:=∃ i,s.A.gZ i/\fJ s.live i=x
noncomputable def TW.cnt(t:TW)(id:Int):Nat:=by
 classical
 exact if t.mem id then 0 else 1
theorem TW.Ax{t:TW}{id:Int}(h:t.mem id):t.cnt id=0:=by unfold TW.cnt;exact if_pos h
theorem TW.tK{t:TW}{id:Int}(h:¬ t.mem id):t.cnt id=1:=by unfold TW.cnt;exact if_neg h
theorem TW.oD.cnt{t:TW}{id:Int}{z:Nat}{b:Bool}(h:t.oD id z b):t.cnt id=if b then 0 else 1:=by
 rcases h with ⟨rfl,a,c⟩|⟨rfl,_,h⟩
 . exact TW.Ax ⟨z,a,c⟩
 . exact TW.tK h
noncomputable def fU.gJ(s:fU)(fO fN:Nat)(u v:Int):Int:=by
 classical
 exact if u=v then 9 else if fN<=s.A.used then 12 else if fO<s.t.A.used+(s.t.cnt u+s.t.cnt v)then 11 else 0
theorem fU.Og{s:fU}{fO fN:Nat}{u v:Int}(h:u=v):s.gJ fO fN u v=9:=by unfold fU.gJ;rw[if_pos h]
theorem fU.Of{s:fU}{fO fN:Nat}{u v:Int}(h:u≠v)(h1:fN<=s.A.used):s.gJ fO fN u v=12:=by unfold fU.gJ;rw[if_neg h,if_pos h1]
theorem fU.Cr{s:fU}{fO fN:Nat}{u v:Int}(h:u≠v)(h1:¬ fN<=s.A.used)(a:fO<s.t.A.used+(s.t.cnt u+s.t.cnt v)):s.gJ fO fN u v=11:=by unfold fU.gJ;rw[if_neg h,if_neg h1,if_pos a]
theorem fU.Av{s:fU}{fO fN:Nat}{u v:Int}(h:u≠v)(h1:¬ fN<=s.A.used)(a:¬ fO<s.t.A.used+(s.t.cnt u+s.t.cnt v)):s.gJ fO fN u v=0:=by unfold fU.gJ;rw[if_neg h,if_neg h1,if_neg a]
theorem fU.Ib{s:fU}{fO fN:Nat}{u v:Int}(h:s.gJ fO fN u v=0):u≠v/\s.A.used<fN/\s.t.A.used+(s.t.cnt u+s.t.cnt v)<=fO:=by
 grind [fU.Og,fU.Of,fU.Cr]
def yJ(ls:List Lv)(i:Nat)(x:Lv):List Lv:=fM (if i=ls.length then ls++[default]else ls) i (fun _=>x)
theorem adA{ls:List Lv}{i:Nat}{x:Lv}(h:i<=ls.length)(j:Nat):fJ (yJ ls i x) j=if i=j then x else fJ ls j:=by
 grind [yJ,jy,fJ]
theorem adB{ls:List Lv}{i:Nat}{x:Lv}(h:i<=ls.length):(yJ ls i x).length=if i=ls.length then ls.length+1 else ls.length:=by
 unfold yJ
 rw[gx]
 split<;>simp
section
variable {fO fN:Nat} {s:fU}
theorem fU.ok.ins(h:s.ok fO fN){e:Lv}{i:Nat}{l:AW}{p:TW}(hp:AW.put s.A l.A i)(q:l.A.ok)(S:p.ok)(J:e.slot=(i:Int))(w:e.seq=s.last+1)(I:e.ok)(N:e.u≠e.v)
 (Q:∀ x,p.mem x↔(s.t.mem x\/x=e.u)\/x=e.v) (R:p.A.n=s.t.A.n) {lv2 G v2:Value} {ls:List Lv} (E:ls=yJ s.live i e) {im2:IM}
 (C:im2=gF (gF s.im e.u (G,s.inc e.u++[i])) e.v (v2,s.inc e.v++[i])) :
 fU.ok fO fN ⟨s.jj,s.tb,s.ab,s.mb,lv2,s.last+1,l,p,ls,im2⟩/\∀ x,fU.has ⟨s.jj,s.tb,s.ab,s.mb,lv2,s.last+1,l,p,ls,im2⟩ x↔s.has x\/x=e:=by
 have U:=h.ll
 have D:i<=s.live.length:=by
  rcases hp.o6 with c|c<;>omega
 have r:∀ j,fJ ls j=if i=j then e else fJ s.live j:=by rw[E];exact adA D
 have M:ls.length=if i=s.live.length then s.live.length+1 else s.live.length:=by rw[E];exact adB D
 have f:=hp.gZ
 have F:=hp.new
 have O:∀ j,s.A.gZ j->i≠j:=fun j d e=>F (e▸d)
 have g:∀ j,s.A.gZ j->fJ ls j=fJ s.live j:=fun j d=>by rw[r,if_neg (O j d)]
 have m:fJ ls i=e:=by rw[r,if_pos rfl]
 have B:∀ id,ir im2 id=if e.v=id then some (v2,s.inc e.v++[i])else if e.u=id then some (G,s.inc e.u++[i])else ir s.im id:=by
  intro id
  rw[C,yD,yD]
 have y:∀ id,(gh im2 id).2=if e.v=id then s.inc e.v++[i]else if e.u=id then s.inc e.u++[i]else s.inc id:=by
  intro id
  unfold gh
  rw[B]
  split
  . rfl
  . split
    . rfl
    . rfl
 have P:∀ id,i∉s.inc id:=fun id hi=>F ((h.inc id i).1 hi).1
 refine⟨⟨?_,?_,h.en,h.vn,q,S,?_,?_,?_,?_,?_,?_,?_,?_,?_,?_,?_,?_⟩,fun x=>⟨?_,?_⟩⟩
 . exact hp.n.trans h.n
 . exact R.trans h.tn
 . show ls.length=l.A.begun
   rw[M]
   rcases hp.o6 with c|c
   . rw[if_neg o_];omega
   . rw[if_pos o_];omega
 . intro j d
   show (fJ ls j).slot=(j:Int)
   rcases(f j).1 d with c|rfl
   . rw[g j c];exact h.slot j c
   . rw[m];exact J
 . intro j
   show (fJ ls j).ok
   rw[r]
   split
   . exact I
   . exact h.Fa j
 . intro j d
   show (fJ ls j).u≠(fJ ls j).v
   rcases(f j).1 d with c|rfl
   . rw[g j c];exact h.ne j c
   . rw[m];exact N
 . intro id
   show p.mem id↔∃ j,l.A.gZ j/\(fJ ls j).at id
   rw[Q,h.mem]
   constructor
   . rintro((⟨j,d,k⟩|rfl)|rfl)
     . grind
     . grind
     . grind
   . rintro⟨j,d,k⟩
     rcases(f j).1 d with c|rfl
     . grind
     . grind
 . show (im2.map Prod.fst).Nodup
   rw[C]
   exact Fv (Fv h.keys _ _) _ _
 . intro id j
   show j∈(gh im2 id).2↔l.A.gZ j/\(fJ ls j).at id
   rw[y,f]
   have T:=h.inc id j
   grind [fJ]
 . intro id
   show (gh im2 id).2.Nodup
   rw[y]
   have z:∀ id,(s.inc id++[i]).Nodup:=fun id=>zr.2 ⟨h.nd id,s_,fun a q b hb=>by
    rw[z8]at hb
    subst hb
    rintro rfl
    exact P id q⟩
   split
   . exact z _
   . split
     . exact z _
     . exact h.nd id
 . intro id
   show ir im2 id=none↔(gh im2 id).2=[]
   rw[y,B]
   split
   . simp
   . split
     . simp
     . exact h.empty id
 . intro j d
   show (fJ ls j).seq<=s.last+1
   rcases(f j).1 d with c|rfl
   . rw[g j c];have:=h.seq j c;omega
   . rw[m,w];omega
 . intro a b K L
   show (fJ ls a).seq=(fJ ls b).seq->a=b
   rcases(f a).1 K with c|c<;>rcases(f b).1 L with o|o
   . rw[g a c,g b o];exact h.FU a b c o
   . rw[g a c,o,m,w];intro H;have:=h.seq a c;omega
   . rw[g b o,c,m,w];intro H;have:=h.seq b o;omega
   . intro _;omega
 . show 0<=s.last+1
   have:=h.sS
   omega
 . rintro⟨j,d,k⟩
   change fJ ls j=x at k
   rcases(f j).1 d with c|c
   . rw[g j c]at k;exact .inl ⟨j,c,k⟩
   . rw[c,m]at k;exact .inr k.symm
 . rintro(⟨j,d,k⟩|rfl)
   . exact⟨j,(f j).2 (.inl d),by show fJ ls j=x;rw[g j d];exact k⟩
   . exact⟨i,(f i).2 (.inr rfl),m⟩
end
structure TW.zV (t t2:TW) (id:Int):Prop where
 mem:∀ x,t2.mem x↔t.mem x\/x=id
 n:t2.A.n=t.A.n
 used:t2.A.used=t.A.used+t.cnt id
theorem TW.SX{t:TW}{u:Int}(h:t.A.used+t.cnt u<=t.A.n):t.mem u\/t.A.used<t.A.n:=by
 grind [TW.tK]
theorem TW.zV.room{t a:TW}{u v:Int}(p:TW.zV t a u)(h:t.A.used+(t.cnt u+t.cnt v)<=t.A.n):a.mem v\/a.A.used<a.A.n:=by
 by_cases hm:a.mem v
 . exact .inl hm
 . have c:¬ t.mem v:=fun b=>hm ((p.mem v).2 (.inl b))
   rw[TW.tK c]at h
   rw[p.used,p.n]
   exact .inr o_
theorem tQ{γ:Type}[Inhabited γ]{m:List (Int×γ)}{a c:Int}{x:γ}(h:a≠c):gh (gF m a x) c=gh m c:=by
 unfold gh
 rw[yD,if_neg h]
theorem kR{a:Int}(h : -9223372036854775808<=a/\a<=9223372036854775807):ia .i64 a:=h
theorem o8{a:Int}(h:0<=a/\a<=18446744073709551615):ia .u64 a:=h
theorem fU.ok.Jl{fO fN:Nat}{s:fU}(h:s.ok fO fN)(id:Int):(s.inc id).length<=65536:=by
 refine kz (A9 s.A.begun _ (h.nd id) fun j a=>((h.inc id j).1 a).1.1) ?_
 have:=h.lE.le
 have:=h.n
 have:=h.en
 omega
structure mE (im:IM) (t:TW) (im2:IM) (t2:TW) (id:Int) (i:Nat):Prop where
 get:∀ c j,j∈(gh im2 c).2↔j∈(gh im c).2/\(c=id->j≠i)
 nd:(∀ c,(gh im c).2.Nodup)->∀ c,(gh im2 c).2.Nodup
 none:(∀ c,ir im c=none↔(gh im c).2=[])->∀ c,ir im2 c=none↔(gh im2 c).2=[]
 keys:(im.map Prod.fst).Nodup->(im2.map Prod.fst).Nodup
 mem:∀ x,t2.mem x↔t.mem x/\(x=id->(gh im2 id).2≠[])
 n:t2.A.n=t.A.n
theorem abR{γ:Type}[Inhabited γ]{m:List (Int×γ)}{a c:Int}{x:γ}:gh (gF m a x) c=if a=c then x else gh m c:=by
 unfold gh
 rw[yD]
 split<;>rfl
theorem abQ{m:IM}(b:(m.map Prod.fst).Nodup){a c:Int}:gh (je m a) c=if a=c then default else gh m c:=by
 unfold gh
 rw[J2 b]
 split<;>rfl
theorem Kb{xs:List Nat}(d:xs.Nodup){a b:Nat}(c:a<xs.length)(hb:b<xs.length)(e:xs[a]=xs[b]):a=b:=by
 rcases GZ a b with h|h|h
 . exact absurd e (uq.1 d a b c hb h)
 . exact h
 . exact absurd e.symm (uq.1 d b a hb c h)
theorem PT{xs:List Nat}{i k:Nat}(f:xs.Nodup)(hk:xs[k]? = some i)(j:Nat):j∈xs.eraseIdx k↔j∈xs/\j≠i:=by
 obtain⟨e,d⟩:=zh.1 hk
 rw[List.mem_eraseIdx_iff_getElem]
 constructor
 . grind [Kb]
 . rintro⟨b,g⟩
   obtain⟨a,c,rfl⟩:=zP b
   grind
theorem mE.keep{im:IM}{t:TW}{id:Int}{i k:Nat}{v:Value}(d:(gh im id).2.Nodup)(hk:(gh im id).2[k]? = some i)(b:(gh im id).2.eraseIdx k≠[]):mE im t (gF im id (v,(gh im id).2.eraseIdx k)) t id i:=by
 have a:∀ c,(gh (gF im id (v,(gh im id).2.eraseIdx k)) c).2=if id=c then(gh im id).2.eraseIdx k else(gh im c).2:=fun c=>by rw[abR];split<;>rfl
 refine⟨fun c j=>?_,fun h c=>?_,fun h c=>?_,fun h=>Fv h _ _,fun x=>⟨fun h=>⟨h,fun _=>?_⟩,fun h=>h.1⟩,rfl⟩
 . grind [PT]
 . grind
 . grind [yD]
 . rw[a,if_pos rfl];exact b
theorem mE.drop{im:IM}{t a:TW}{id:Int}{i k:Nat}(e:(im.map Prod.fst).Nodup)(f:(gh im id).2.Nodup)(hk:(gh im id).2[k]? = some i)(b:(gh im id).2.eraseIdx k=[])(m:∀ x,a.mem x↔t.mem x/\x≠id)(g:a.A.n=t.A.n):mE im t (je im id) a id i:=by
 have l:∀ c,(gh (je im id) c).2=if id=c then[]else(gh im c).2:=fun c=>by rw[abQ e];split<;>rfl
 have d:=PT f hk
 rw[b]at d
 refine⟨fun c j=>?_,fun h c=>?_,fun h c=>?_,fun h=>RB h _,fun x=>?_,g⟩
 . grind
 . grind
 . grind [J2]
 . grind
section
variable {fO fN:Nat} {s:fU}
theorem fU.ok.rem(h:s.ok fO fN){i:Nat}(hi:s.A.gZ i){g:AW}(hd:AW.del s.A g.A i)(J:g.A.ok){B im2:IM}{H q:TW}(P:q.ok)
 (p:mE s.im s.t B H (fJ s.live i).u i) (l:mE B H im2 q (fJ s.live i).v i) {lv2:Value} {ls:List Lv} (G:ls=fM s.live i (fun _=>default)) :
 fU.ok fO fN ⟨s.jj,s.tb,s.ab,s.mb,lv2,s.last,g,q,ls,im2⟩/\∀ x,fU.has ⟨s.jj,s.tb,s.ab,s.mb,lv2,s.last,g,q,ls,im2⟩ x↔s.has x/\x.slot≠(i:Int):=by
 have N:=h.ll
 have L:i<s.live.length:=by have:=hi.1;omega
 have C:∀ j,fJ ls j=if i=j then default else fJ s.live j:=by rw[G];exact fun j=>jy L
 have k:=hd.gZ
 have R:=h.ne i hi
 have D:∀ c j,j∈(gh im2 c).2↔j∈s.inc c/\(c=(fJ s.live i).u->j≠i)/\(c=(fJ s.live i).v->j≠i):=by
  intro c j
  rw[l.get,p.get,and_assoc]
  rfl
 have z:∀ c j,j∈(gh im2 c).2↔g.A.gZ j/\(fJ ls j).at c:=by
  intro c j
  rw[D,k,h.inc]
  constructor
  . grind
  . grind
 have m:∀ j,g.A.gZ j->fJ ls j=fJ s.live j:=fun j d=>by rw[C,if_neg (fun e=>((k j).1 d).2 e.symm)]
 refine⟨⟨hd.n.trans h.n,(l.n.trans p.n).trans h.tn,h.en,h.vn,J,P,?_,?_,?_,?_,?_,l.keys (p.keys h.keys),z,l.nd (p.nd h.nd),l.none (p.none h.empty),?_,?_,h.sS⟩,fun x=>⟨?_,?_⟩⟩
 . show ls.length=g.A.begun
   rw[G,gx,hd.o6]
   exact N
 . intro j d
   show (fJ ls j).slot=(j:Int)
   rw[m j d]
   exact h.slot j ((k j).1 d).1
 . intro j
   show (fJ ls j).ok
   rw[C]
   split
   . exact⟨kR (by show _/\_;decide),o8 (by show _/\_;decide),o8 (by show _/\_;decide),o8 (by show _/\_;decide),kR (by show _/\_;decide),kR (by show _/\_;decide),kR (by show _/\_;decide)⟩
   . exact h.Fa j
 . intro j d
   show (fJ ls j).u≠(fJ ls j).v
   rw[m j d]
   exact h.ne j ((k j).1 d).1
 . intro x
   show q.mem x↔∃ j,g.A.gZ j/\(fJ ls j).at x
   rw[l.mem,p.mem]
   have K:(∃ j,g.A.gZ j/\(fJ ls j).at x)↔(gh im2 x).2≠[]:=by
    constructor
    . rintro⟨j,d⟩ e
      have:=(z x j).2 d
      rw[e]at this
      simp at this
    . intro O
      obtain⟨j,d⟩:=GM _ O
      exact⟨j,(z x j).1 d⟩
   rw[K]
   constructor
   . rintro⟨⟨f,y⟩,r⟩
     by_cases hv:x=(fJ s.live i).v
     . rw[hv];exact r hv
     . by_cases hu:x=(fJ s.live i).u
       . have I:=y hu
         intro e
         obtain⟨j,d⟩:=GM _ I
         have:j∈(gh im2 x).2:=(l.get x j).2 ⟨by rw[hu];exact d,fun w=>absurd w hv⟩
         rw[e]at this
         simp at this
       . obtain⟨j,d,Q⟩:=(h.mem x).1 f
         grind
   . intro f
     obtain⟨j,d⟩:=GM _ f
     have y:=(D x j).1 d
     have r:=(h.inc x j).1 y.1
     refine⟨⟨(h.mem x).2 ⟨j,r.1,r.2⟩,fun e=>?_⟩,fun e=>by rw[<-e];exact f⟩
     intro w
     have:j∈(gh B x).2:=((l.get x j).1 d).1
     rw[e,w]at this
     simp at this
 . intro j d
   show (fJ ls j).seq<=s.last
   rw[m j d]
   exact h.seq j ((k j).1 d).1
 . intro a b E F
   show (fJ ls a).seq=(fJ ls b).seq->a=b
   rw[m a E,m b F]
   exact h.FU a b ((k a).1 E).1 ((k b).1 F).1
 . rintro⟨j,d,o⟩
   change fJ ls j=x at o
   rw[m j d]at o
   have f:=(k j).1 d
   refine⟨⟨j,f.1,o⟩,?_⟩
   rw[<-o,h.slot j f.1]
   intro e
   exact f.2 o_
 . rintro⟨⟨j,d,o⟩,hs⟩
   have M:j≠i:=by
    rintro rfl
    rw[<-o,h.slot j d]at hs
    exact hs rfl
   have f:=(k j).2 ⟨d,M⟩
   exact⟨j,f,by show fJ ls j=x;rw[m j f];exact o⟩
end
theorem Ji{xs:List Nat}{i:Nat}(h:i∈xs)(d:xs.Nodup):∃ k,xs[k]? = some i/\(gz xs)[k]? = some (i:Int)/\∀ (j:Nat) (y:Int),j<k->(gz xs)[j]? = some y->y≠(i:Int):=by
 obtain⟨k,a,e⟩:=zP h
 refine⟨k,by rw[zm a,e],by simp[gz,zx,zm a,e],fun j y c b f=>?_⟩
 simp only[gz,zx,Option.map_eq_some_iff]at b
 grind [Kb]
theorem J9{xs:List Nat}(h:∀ j∈xs,j<65536):∀ y∈gz xs,ia .i64 y:=by
 grind [kR]
theorem Jk{fO fN:Nat}{s:fU}(h:s.ok fO fN){id:Int}{P:Nat->Prop}(hs:∀ j,P j->j∈s.inc id){j:Nat}(a:P j):j<65536:=by
 have b:=((h.inc id j).1 (hs j a)).1.1
 have:=h.lE.le
 have:=h.n
 have:=h.en
 omega
theorem inc_le{fO fN:Nat}{s:fU}(h:s.ok fO fN){a:IM}{d:TW}{id:Int}{i:Nat}(o:mE s.im s.t a d id i)(c:Int):(gh a c).2.length<=65536:=by
 refine kz (A9 s.A.begun _ (o.nd h.nd c) fun j b=>((h.inc c j).1 ((o.get c j).1 b).1).1.1) ?_
 have:=h.lE.le
 have:=h.n
 have:=h.en
 omega
theorem fU.tS{fO fN:Nat}{aw:AW}{t:TW}(c:aw.A=As.new fN)(f:t.ok)(g:∀ x,¬ t.mem x)(e:t.A.n=fO)(d:fN<=16384)(hv:fO<=4096)(jj tb ab mb:Nat) :
 fU.ok fO fN ⟨jj,tb,ab,mb,.slice none 0 0,0,aw,t,[],[]⟩/\∀ x,¬ fU.has ⟨jj,tb,ab,mb,.slice none 0 0,0,aw,t,[],[]⟩ x:=by
 have b:∀ j,¬ aw.A.gZ j:=fun j a=>by rw[c]at a;exact absurd a.1 (by simp[As.new])
 have hd:∀ j,fJ ([]:List Lv) j=⟨0,0,0,0,0,0,0⟩:=fun j=>rfl
 refine⟨⟨?_,e,d,hv,?_,f,?_,?_,?_,?_,?_,?_,?_,?_,?_,?_,?_,?_⟩,fun x ⟨j,a,_⟩=>b j a⟩
 . show aw.A.n=fN;rw[c];rfl
 . grind [As.tS]
 . show ([]:List Lv).length=aw.A.begun;rw[c];rfl
 . exact fun j a=>absurd a (b j)
 . intro j
   show Lv.ok (⟨0,0,0,0,0,0,0⟩:Lv)
   exact⟨kR (by show _/\_;decide),o8 (by show _/\_;decide),o8 (by show _/\_;decide),o8 (by show _/\_;decide),kR (by show _/\_;decide),kR (by show _/\_;decide),kR (by show _/\_;decide)⟩
 . exact fun j a=>absurd a (b j)
 . grind
 . exact BM
 . exact fun id j=>⟨fun h=>(by cases h),fun h=>absurd h.1 (b j)⟩
 . exact fun id=>BM
 . exact fun id=>⟨fun _=>rfl,fun _=>rfl⟩
 . exact fun j a=>absurd a (b j)
 . exact fun j _ a=>absurd a (b j)
 . exact BO 0
end Go.Sx
namespace Go.Sx
open Go
theorem Ba:∀ (L M:List Int),L.Nodup->(∀ j∈L,j∈M)->L.length<=M.length
 | [],_,_,_=>by simp
 | x :: L,M,hn,h=>by
  have b:=h x s_
  have c:=Ba L (M.erase x) (zu.1 hn).2 (fun j a=>(List.mem_erase_of_ne (fun e=>(zu.1 hn).1 (by rw[<-e];exact a))).2 (h j (by simp[a])))
  rw[Dt b]at c
  have:=GQ b
  simp only[zb]
  omega
def TW.uR(t:TW):List Int:=(t.A.list t.A.begun).map (fJ t.ids)
theorem TW.Jh{t:TW}(c:t.A.ok)(x:Int):x∈t.uR↔t.mem x:=by
 unfold TW.uR TW.mem
 rw[zy]
 exact⟨fun⟨i,a,b⟩=>⟨i,(c.pn i).1 a,b⟩,fun⟨i,a,b⟩=>⟨i,(c.pn i).2 a,b⟩⟩
theorem TW.Qt{t:TW}(a:t.A.ok):t.uR.length=t.A.used:=by rw[TW.uR,zq,a.AU]
theorem Kg{α β:Type}{f:α->β}:∀ {l:List α},l.Nodup->(∀ x∈l,∀ y∈l,f x=f y->x=y)->(l.map f).Nodup
 | [],_,_=>BM
 | a :: l,h,hf=>by
  rw[lV,zu]
  refine⟨fun hm=>?_,Kg (zu.1 h).2 fun x c y d=>hf x (by simp[c]) y (by simp[d])⟩
  obtain⟨b,hb,e⟩:=zy.1 hm
  have:=hf b (by simp[hb]) a s_ e
  subst this
  exact(zu.1 h).1 hb
theorem TW.Qu{t:TW}(h:t.ok)(a:t.A.ok):t.uR.Nodup :=
 Kg ((t.A.CI _).imp fun h=>Nat.ne_of_lt h) fun x b y c e=>h.uniq x y ((a.pn x).1 b) ((a.pn y).1 c) e
theorem TW.HX{t:TW}(h:t.ok)(b:t.A.ok){u v:Int}(e:u≠v):∃ K:List Int,K.Nodup/\K.length=t.A.used+(t.cnt u+t.cnt v)/\∀ x,x∈K↔t.mem x\/x=u\/x=v:=by
 have c:=TW.Qu h b
 have d:=TW.Qt b
 have hm:=TW.Jh b
 by_cases hu:t.mem u<;>by_cases hv:t.mem v
 . grind [TW.Ax]
 . rw[TW.Ax hu,TW.tK hv]
   refine⟨v :: t.uR,zu.2 ⟨fun a=>hv ((hm v).1 a),c⟩,by simp;omega,fun x=>?_⟩
   rw[ze,hm]
   constructor
   . grind
   . grind
 . rw[TW.tK hu,TW.Ax hv]
   refine⟨u :: t.uR,zu.2 ⟨fun a=>hu ((hm u).1 a),c⟩,by simp;omega,fun x=>?_⟩
   rw[ze,hm]
   constructor
   . grind
   . grind
 . rw[TW.tK hu,TW.tK hv]
   refine⟨u :: v :: t.uR,zu.2 ⟨fun a=>?_,zu.2 ⟨fun a=>hv ((hm v).1 a),c⟩⟩,by simp;omega,fun x=>?_⟩
   . grind
   . grind
section
variable {fO fN:Nat} {s s1 s2:fU}
theorem fU.ok.AN(h:s.ok fO fN){x:Lv}(a:s.has x):∃ i:Nat,x.slot=(i:Int)/\s.A.gZ i/\fJ s.live i=x/\i<fN:=by
 obtain⟨i,hi,rfl⟩:=a
 refine⟨i,h.slot i hi,hi,rfl,?_⟩
 have:=hi.1
 have:=h.lE.le
 have:=h.n
 omega
theorem fU.ok.Lf(h:s.ok fO fN){x y:Lv}(a:s.has x)(b:s.has y)(e:x.slot=y.slot):x=y:=by
 obtain⟨i,f,_,g,_⟩:=h.AN a
 obtain⟨j,c,_,d,_⟩:=h.AN b
 grind
theorem fU.ok.S7(h:s.ok fO fN){x:Lv}(a:s.has x):x.seq<=s.last:=by
 obtain⟨i,hi,rfl⟩:=a
 exact h.seq i hi
theorem fU.ok.AL(h:s.ok fO fN){x:Lv}(a:s.has x):x.ok/\x.u≠x.v:=by
 obtain⟨i,hi,rfl⟩:=a
 exact⟨h.Fa i,h.ne i hi⟩
theorem fU.agj(h1:s1.ok fO fN)(a:s2.ok fO fN)(hs:∀ x,s1.has x->s2.has x):s1.A.used<=s2.A.used:=by
 rw[<-h1.lE.AU,<-a.lE.AU]
 refine CQ _ _ ((s1.A.CI _).imp fun h=>Nat.ne_of_lt h) fun i hi=>?_
 have b:=(h1.lE.pn i).1 hi
 obtain⟨j,c,e⟩:=hs _ ⟨i,b,rfl⟩
 have d:=a.slot j c
 rw[e,h1.slot i b]at d
 have:i=j:=by omega
 subst this
 exact(a.lE.pn i).2 c
theorem fU.VH(h1:s1.ok fO fN)(g:s1.t.A.ok)(b:s2.ok fO fN)(h:s2.t.A.ok)(hs:∀ x,s1.has x->s2.has x){u v:Int}(l:s2.gJ fO fN u v=0):s1.gJ fO fN u v=0:=by
 obtain⟨a,p,q⟩:=fU.Ib l
 have y:=fU.agj h1 b hs
 obtain⟨c,k1,z,o⟩:=TW.HX h1.tok g a
 obtain⟨d,r,s,f⟩:=TW.HX b.tok h a
 have w:c.length<=d.length:=Ba c d k1 fun x n=>(f x).2 ((o x).1 n |>.imp_left fun hm=>by
  obtain⟨i,hi,k⟩:=(h1.mem x).1 hm
  obtain⟨j,m,e⟩:=hs _ ⟨i,hi,rfl⟩
  exact(b.mem x).2 ⟨j,m,by rw[e];exact k⟩)
 exact fU.Av a o_ o_
structure fU.kL (s:fU) (L:List Lv):Prop where
 mem:∀ x,x∈L↔s.has x
 lF:L.Pairwise fun a b=>a.seq<b.seq
theorem fU.kL.nodup{L:List Lv}(h:s.kL L):L.Nodup:=h.lF.imp fun {a b} c e=>by rw[e]at c;omega
theorem fU.kL.slots{L:List Lv}(a:s.kL L)(h:s.ok fO fN):(L.map Lv.slot).Nodup :=
 Kg a.nodup fun x b y c e=>h.Lf ((a.mem x).1 b) ((a.mem y).1 c) e
theorem fU.kL.len{L:List Lv}(a:s.kL L)(h:s.ok fO fN):L.length<=fN:=by
 have b:(L.map Lv.slot).length<=((List.range fN).map fun i:Nat=>(i:Int)).length:=Ba _ _ (a.slots h) fun j c=>by
  obtain⟨x,d,rfl⟩:=zy.1 c
  obtain⟨i,e,_,_,hi⟩:=h.AN ((a.mem x).1 d)
  grind
 simpa using b
theorem fU.abu{ys:List Lv}(h:s.ok fO fN)(hp:ys.Perm ((s.A.list s.A.begun).map (fJ s.live)))(hs:ys.Pairwise fun a b=>a.seq<=b.seq):s.kL ys:=by
 refine⟨fun x=>?_,?_⟩
 . rw[hp.mem_iff,zy]
   exact⟨fun⟨i,c,d⟩=>⟨i,(h.lE.pn i).1 c,d⟩,fun⟨i,c,d⟩=>⟨i,(h.lE.pn i).2 c,d⟩⟩
 . have c:((s.A.list s.A.begun).map (fJ s.live)).Pairwise fun a b=>a.seq≠b.seq:=by
    rw[List.pairwise_map]
    refine(s.A.CI _).imp_of_mem fun {a b} f hb j e=>?_
    have:=h.FU a b ((h.lE.pn a).1 f) ((h.lE.pn b).1 hb) e
    omega
   have d:ys.Pairwise fun a b=>a.seq≠b.seq:=hp.symm.pairwise c fun {a b} g e=>g e.symm
   exact(hs.and d).imp fun {a b} h=>by have:=h.1;have:=h.2;omega
theorem FZ{α β:Type}[Inhabited α]{l:List α}(f:α->β){k:Nat}(hk:k<l.length):(l.take (k+1)).map f=(l.take k).map f++[f (fJ l k)]:=by
 have a:l[k]? = some (fJ l k):=gy hk
 rw[oU,a]
 simp
end
end Go.Sx
namespace Go.Sx
open Go
structure QS where
 iv:Value
 pv:Value
 ps:List (Option Nat)
 fQ:List gG
 pl:List Nat
structure QS.ok (n:Nat) (s:QS):Prop where
 hp:Hp n s.fQ s.pl
 gR:jx n s.ps s.pl
 ord:Ord s.fQ
theorem QS.ok.free{n:Nat}{s:QS}(h:s.ok n){i:Nat}(hi:i<n)(d:∀ e∈s.fQ,e.ix≠i):fJ s.pl i=0:=by
 rcases BI (fJ s.pl i)with a|a
 . exact a
 . obtain⟨b,c⟩:=h.hp.of i (fJ s.pl i-1) hi o_
   exact absurd c (d _ (r6.2 ⟨_,b,rfl⟩))
theorem QS.ok.lt{n:Nat}{s:QS}(h:s.ok n){e:gG}(a:e∈s.fQ):e.ix<n:=by
 obtain⟨p,hp,rfl⟩:=r6.1 a
 exact h.hp.ix p hp
theorem QS.ok.inj{n:Nat}{s:QS}(h:s.ok n){e f:gG}(a:e∈s.fQ)(b:f∈s.fQ)(d:e.ix=f.ix):e=f:=by
 obtain⟨p,hp,rfl⟩:=r6.1 a
 obtain⟨q,c,rfl⟩:=r6.1 b
 rw[h.hp.inj hp c d]
structure uC (s0 s:List gG) (ds:List Nat) (now:Int):Prop where
 rest:∀ e,e∈s↔e∈s0/\e.ix∉ds
 AQ:∀ i∈ds,∃ e∈s0,e.ix=i/\e.key<=now
 nd:ds.Nodup
 len:s.length+ds.length=s0.length
theorem uC.start(s:List gG)(now:Int):uC s s [] now:=⟨fun e=>by simp,fun i hi=>by simp at hi,BM,s_⟩
theorem uC.step{s0 s s1:List gG}{ds:List Nat}{now:Int}(h:uC s0 s ds now)(f:0<s.length)(hk:(fJ s 0).key<=now)(hm:∀ e,e∈s1↔e∈s/\e.ix≠(fJ s 0).ix)(k:s1.length+1=s.length):uC s0 s1 (ds++[(fJ s 0).ix]) now:=by
 have j:fJ s 0∈s:=r6.2 ⟨0,f,rfl⟩
 have d:=(h.rest _).1 j
 refine⟨fun e=>?_,fun i hi=>?_,?_,?_⟩
 . rw[hm,h.rest,zn,z8,not_or,and_assoc]
 . rcases zn.1 hi with c|c
   . exact h.AQ i c
   . rw[z8]at c
     subst c
     exact⟨_,d.1,rfl,hk⟩
 . refine zr.2 ⟨h.nd,s_,?_⟩
   intro a g b hb
   rw[z8]at hb
   subst hb
   rintro rfl
   exact d.2 g
 . have:=h.len
   rw[zp]
   simp
   omega
structure rH (n:Nat) (s0 s:QS) (ds:List Nat) (now:Int):Prop where
 ok:s.ok n
 rest:∀ e,e∈s.fQ↔e∈s0.fQ/\now<e.key
 out:∀ i,i∈ds↔∃ e∈s0.fQ,e.ix=i/\e.key<=now
 nd:ds.Nodup
 len:ds.length<=n
theorem uC.fin{n:Nat}{s0 s:QS}{ds:List Nat}{now:Int}(h:uC s0.fQ s.fQ ds now)(d:s0.ok n)(h1:s.ok n)(hd:s.fQ.length=0\/now<(fJ s.fQ 0).key):rH n s0 s ds now:=by
 have g:∀ e∈s.fQ,now<e.key:=by
  intro e a
  rcases hd with c|c
  . rw[GO]at c;rw[c]at a;simp at a
  . have:=h1.ord.min a
    unfold iN at this
    omega
 have m:∀ e,e∈s.fQ↔e∈s0.fQ/\now<e.key:=by
  intro e
  constructor
  . intro a;exact⟨((h.rest e).1 a).1,g e a⟩
  . rintro⟨a,l⟩
    refine(h.rest e).2 ⟨a,fun b=>?_⟩
    obtain⟨f,j,k,o⟩:=h.AQ _ b
    have:=d.inj a j k.symm
    subst this
    omega
 refine⟨h1,m,fun i=>⟨h.AQ i,?_⟩,h.nd,?_⟩
 . rintro⟨e,a,rfl,l⟩
   by_cases b:e.ix∈ds
   . exact b
   . have:=g e ((h.rest e).2 ⟨a,b⟩)
     omega
 . have:=h.len
   have:=d.hp.len
   omega
end Go.Sx
namespace Go.Sx
open Go
structure Ed where
 a:Nat
 b:Nat
 exp:Int
 tree:Bool
 deriving Inhabited
def Ed.enc(e:Ed):Value:=.agg #[.int .i64 (e.a:Int),.int .i64 (e.b:Int),.int .i64 e.exp,.bool e.tree]
structure GW where
 fb:Nat
 nb:Nat
 hb:Nat
 mb:Nat
 trees:Int
 q:QS
 m:List (Int×Ed)
structure Ed.In (fO:Nat) (e:Ed):Prop where
 a:e.a<fO
 b:e.b<fO
 exp:ia .i64 e.exp
structure GW.ok (fO fN:Nat) (g:GW):Prop where
 v2:2<=fO
 vn:fO<=4096
 en:fN<=16384
 ed:∀ p∈g.m,p.2.In fO
theorem GW.ok.get{fO fN:Nat}{g:GW}(h:g.ok fO fN)(k:Int):(gh g.m k).In fO:=by
 unfold gh
 cases hm:ir g.m k with
 | none=>exact⟨oB d_ h.v2,oB d_ h.v2,⟨d_,d_⟩⟩
 | some x=>exact h.ed _ (Rj hm)
theorem GW.ok.put{fO fN:Nat}{g:GW}(h:g.ok fO fN){k:Int}{e:Ed}(b:e.In fO){fb nb hb mb:Nat}{c:Int}{q:QS}:GW.ok fO fN ⟨fb,nb,hb,mb,c,q,gF g.m k e⟩ :=
 ⟨h.v2,h.vn,h.en,fun p hp=>by
  rcases ze.1 ((J5 g.m k e).mem_iff.1 hp)with rfl|a
  . exact b
  . exact h.ed p ((JV g.m k).subset a)⟩
theorem GW.ok.del{fO fN:Nat}{g:GW}(h:g.ok fO fN){k:Int}{fb nb hb mb:Nat}{a:Int}{q:QS}:GW.ok fO fN ⟨fb,nb,hb,mb,a,q,je g.m k⟩ :=
 ⟨h.v2,h.vn,h.en,fun p hp=>h.ed p ((JV g.m k).subset hp)⟩
theorem GW.ok.same{fO fN:Nat}{g:GW}(h:g.ok fO fN){fb nb hb mb:Nat}{a:Int}{q:QS}:GW.ok fO fN ⟨fb,nb,hb,mb,a,q,g.m⟩:=⟨h.v2,h.vn,h.en,h.ed⟩
end Go.Sx
namespace Go.Sx
open Go
def qw(a b:Int):Int×Int:=if -9223372036854775808<=a+b/\a+b<=9223372036854775807 then(a+b,0)else(0,7)
theorem Ao{a b:Int}(h : -9223372036854775808<=a+b/\a+b<=9223372036854775807):qw a b=(a+b,0):=if_pos h
theorem NH{a b:Int}(h:¬ (-9223372036854775808<=a+b/\a+b<=9223372036854775807)):qw a b=(0,7):=if_neg h
def rW(win now to:Int):Int:=if to<now then 10 else(qw to win).2
end Go.Sx
namespace Go.Sx
open Go
structure WC where
 win:Int
 fN:Nat
 fO:Nat
 kW:Int
structure WW where
 cb:Nat
 ub:Nat
 sb:Nat
 hb:Nat
 ob:Nat
 now:Int
 q:QS
 u:fU
 g:GW
 added:Int
 jU:Int
def DN(u:fU)(q:QS):Prop:=∀ e:gG,e∈q.fQ↔∃ x,u.has x/\x.slot=(e.ix:Int)/\x.exp=e.key
structure WW.ok (c:WC) (s:WW):Prop where
 w1:1<=c.win
 wi:c.win<=1000000
 e1:1<=c.fN
 en:c.fN<=16384
 v2:2<=c.fO
 vn:c.fO<=4096
 n0:0<=s.now
 n1:s.now<=1000000
 a0:0<=s.added
 a1:s.added<=1000000
 ex:ia .u64 s.jU
 la:s.u.last<=s.added
 Bn:DN s.u s.q
 live:∀ x,s.u.has x->x.t<=s.now/\s.now<x.exp/\x.exp=x.t+c.win/\0<=x.t
 ord:∀ x y,s.u.has x->s.u.has y->x.seq<y.seq->x.t<=y.t
structure pS (u u2:fU) (ds:List Nat):Prop where
 has:∀ x,u2.has x↔u.has x/\∀ i∈ds,x.slot≠(i:Int)
 last:u2.last=u.last
theorem pS.start(u:fU):pS u u []:=⟨fun x=>by simp,rfl⟩
theorem pS.next{u d e:fU}{ds:List Nat}{i:Nat}(h:pS u d ds)(f:∀ x,e.has x↔d.has x/\x.slot≠(i:Int))(g:e.last=d.last):pS u e (ds++[i]) :=
 ⟨fun x=>by
  rw[f,h.has,and_assoc]
  refine and_congr_right fun _=>⟨fun⟨a,b⟩ j c=>?_,fun h=>⟨fun j c=>h j (by simp[c]),h i s_⟩⟩
  rcases zn.1 c with c|c
  . exact a j c
  . rw[z8]at c;subst c;exact b,g.trans h.last⟩
theorem pS.fin{fO fN n:Nat}{u d:fU}{q r:QS}{ds:List Nat}{t:Int}(h:pS u d ds)(hs:DN u q)(c:u.ok fO fN)(hd:rH n q r ds t):∀ x,d.has x↔u.has x/\t<x.exp:=by
 intro x
 rw[h.has]
 refine and_congr_right fun a=>?_
 obtain⟨i,hi,_,_,_⟩:=c.AN a
 have g:(⟨i,x.exp⟩:gG)∈q.fQ:=(hs _).2 ⟨x,a,hi,rfl⟩
 constructor
 . intro b
   by_cases h2:t<x.exp
   . exact h2
   . exact absurd hi (b i ((hd.out i).2 ⟨_,g,rfl,Int.not_lt.1 h2⟩))
 . intro b j m e
   obtain⟨f,k,l,s⟩:=(hd.out j).1 m
   obtain⟨y,o,p,v⟩:=(hs f).1 k
   have:x=y:=c.Lf a o (by rw[e,p,l])
   subst this
   omega
theorem pS.can{fO fN n:Nat}{u b:fU}{q C:QS}{ds:List Nat}{t:Int}{k i:Nat}(h:pS u b (ds.take k))(hs:DN u q)(w:b.ok fO fN)(hd:rH n q C ds t)(hk:ds[k]? = some i):b.A.gZ i:=by
 obtain⟨v,s⟩:=zh.1 hk
 obtain⟨f,m,o,D⟩:=(hd.out i).1 (zd hk)
 obtain⟨x,y,B,E⟩:=(hs f).1 m
 rw[o]at B
 have z:b.has x:=(h.has x).2 ⟨y,fun j d e=>by
  obtain⟨a,g,c⟩:=zP d
  have l:a<k/\a<ds.length:=by
   rw[zw]at g
   omega
  rw[List.getElem_take]at c
  have p:j=i:=by omega
  have:=Kb hd.nd l.2 v (by rw[c,s,p])
  omega⟩
 obtain⟨j,d,r,_,_⟩:=w.AN z
 have:j=i:=by omega
 subst this
 exact r
section
variable {c:WC} {s:WW}
theorem WW.ok.tick(h:s.ok c){T:Int}(o:s.now<=T)(i:T<=1000000){a:fU}{f:QS}{g2:GW}{ds:List Nat}{n:Nat}{ex:Int}(j:ia .u64 ex)(hd:rH n s.q f ds T)(b:∀ x,a.has x↔s.u.has x/\T<x.exp)(k:a.last=s.u.last) :
 WW.ok c ⟨s.cb,s.ub,s.sb,s.hb,s.ob,T,f,a,g2,s.added,ex⟩:=by
 have p:=h.n0
 refine⟨h.w1,h.wi,h.e1,h.en,h.v2,h.vn,by show 0<=T;omega,i,h.a0,h.a1,j,by show a.last<=_;rw[k];exact h.la,fun e=>?_,fun x d=>?_,fun x y d l=>h.ord x y ((b x).1 d).1 ((b y).1 l).1⟩
 . show e∈f.fQ↔∃ x,a.has x/\_
   rw[hd.rest,h.Bn]
   constructor
   . grind
   . grind
 . have g:=(b x).1 d
   have m:=h.live x g.1
   grind
theorem WW.ok.free(h:s.ok c)(k:s.u.ok c.fO c.fN){d:fU}(l:d.ok c.fO c.fN){i:Nat}{e:Lv}(g:e.slot=(i:Int))(n:e.seq=s.u.last+1)(a:∀ y,d.has y↔s.u.has y\/y=e):∀ f∈s.q.fQ,f.ix≠i:=by
 intro f j e1
 obtain⟨x,b,m,_⟩:=(h.Bn f).1 j
 have:x=e:=l.Lf ((a x).2 (.inl b)) ((a e).2 (.inr rfl)) (by rw[m,g,e1])
 subst this
 have:=k.S7 b
 omega
theorem WW.ok.ins(h:s.ok c)(z:s.u.ok c.fO c.fN){d:fU}{n:QS}{g2:GW}{i:Nat}{e:Lv}(v:e.slot=(i:Int))(E:e.seq=s.u.last+1)(F:e.t=s.now)(D:e.exp=s.now+c.win)(j:∀ y,d.has y↔s.u.has y\/y=e)(G:d.last=s.u.last+1)
 (w:∀ f,f∈n.fQ↔f∈s.q.fQ\/f=⟨i,e.exp⟩) (B:s.added<1000000):WW.ok c ⟨s.cb,s.ub,s.sb,s.hb,s.ob,s.now,n,d,g2,s.added+1,s.jU⟩:=by
 have C:=h.a0
 have H:=h.la
 have I:=h.n0
 have J:=h.w1
 refine⟨h.w1,h.wi,h.e1,h.en,h.v2,h.vn,h.n0,h.n1,by show 0<=s.added+1;omega,by show s.added+1<=_;omega,h.ex,by show d.last<=s.added+1;omega,fun f=>?_,fun x k=>?_,fun x y k p=>?_⟩
 . show f∈n.fQ↔∃ x,d.has x/\_
   rw[w,h.Bn]
   constructor
   . rintro(⟨x,l,m⟩|rfl)
     . exact⟨x,(j x).2 (.inl l),m⟩
     . exact⟨e,(j e).2 (.inr rfl),v,rfl⟩
   . rintro⟨x,l,m,r⟩
     rcases(j x).1 l with g|rfl
     . exact .inl ⟨x,g,m,r⟩
     . right
       obtain⟨a,b⟩:=f
       grind
 . show x.t<=s.now/\s.now<x.exp/\_
   rcases(j x).1 k with g|rfl
   . exact h.live x g
   . exact⟨o_,o_,o_,o_⟩
 . change d.has x at k
   change d.has y at p
   rcases(j x).1 k with g|rfl<;>rcases(j y).1 p with o|rfl
   . exact h.ord x y g o
   . intro _
     have:=(h.live x g).1
     omega
   . have:=z.S7 o
     intro A
     omega
   . intro _;omega
end
theorem WW.tS{c:WC}(w1:1<=c.win)(wi:c.win<=1000000)(e1:1<=c.fN)(en:c.fN<=16384)(v2:2<=c.fO)(vn:c.fO<=4096){u:fU}{q:QS}{g:GW}(a:∀ y,¬ u.has y)(d:u.last=0)(b:q.fQ=[])(cb ub sb hb ob:Nat):WW.ok c ⟨cb,ub,sb,hb,ob,0,q,u,g,0,0⟩ :=
 ⟨w1,wi,e1,en,v2,vn,BO 0,by show (0:Int)<=1000000;decide,BO 0,by show (0:Int)<=1000000;decide,o8 ⟨BO 0,by show (0:Int)<=18446744073709551615;decide⟩,by show u.last<=0;omega,fun e=>⟨fun h=>by change e∈q.fQ at h;rw[b]at h;simp at h,fun⟨x,h,_⟩=>absurd h (a x)⟩,fun x h=>absurd h (a x),fun x y h=>absurd h (a x)⟩
structure WW.Step (s s2:WW) (r:Lv):Prop where
 now:s2.now=s.now\/s2.now=r.t
 added:s2.added<=s.added+1
 has:∀ x,s2.u.has x->s.u.has x\/(x.u=r.u/\x.v=r.v/\x.wt=r.wt)
theorem WW.Step.same(s:WW)(r:Lv):WW.Step s s r:=⟨.inl rfl,o_,fun x h=>.inl h⟩
theorem aan(x:Int):ia .u64 (IntKind.u64.wrap x):=by
 rw[IntKind.wrap_u64]
 exact o8 o_
theorem Oe{win now t:Int}(h1:now<=t)(a : -9223372036854775808<=t+win/\t+win<=9223372036854775807):rW win now t=0:=by
 grind [rW,Ao]
theorem rH.acz{n:Nat}{q a t:QS}{ds:List Nat}{now:Int}(h:rH n a t ds now)(e:a.fQ=q.fQ):rH n q t ds now :=
 ⟨h.ok,by rw[<-e];exact h.rest,by rw[<-e];exact h.out,h.nd,h.len⟩
theorem TW.oD.lt{t:TW}{id:Int}{z:Nat}{b:Bool}(h:t.oD id z b)(a:t.ok)(hp:0<t.A.n):z<t.A.n:=by
 rcases h with ⟨_,h,_⟩|⟨_,rfl,_⟩
 . exact oB h.1 a.o6
 . exact hp
def Room(c:WC)(s:WW)(x:Lv):Prop:=∀ a:fU,a.ok c.fO c.fN->a.t.A.ok->(∀ y,a.has y↔s.u.has y/\x.t<y.exp)->a.gJ c.fO c.fN x.u x.v=0
theorem Room.of{c:WC}{s:WW}{x:Lv}{a:fU}(d:a.ok c.fO c.fN)(e:a.t.A.ok)(g:a.gJ c.fO c.fN x.u x.v=0)(hs:∀ y,s.u.has y/\x.t<y.exp->a.has y):Room c s x :=
 fun j b f h=>fU.VH b f d e (fun y i=>hs y ((h y).1 i)) g
end Go.Sx
namespace Go.Sx
open Go
structure sK (c:WC) (s:WW) (k:Nat):Prop where
 now:s.now<=3*(k:Int)
 added:s.added<=(k:Int)
 ids:∀ x,s.u.has x->(0<=x.u/\x.u<12)/\0<=x.v/\x.v<12
 wt:∀ x,s.u.has x -> -128<=x.wt/\x.wt<=127
theorem sK.next{c:WC}{s s2:WW}{k:Nat}{r:Lv}(h:sK c s k)(hs:WW.Step s s2 r)(m:r.t<=s.now+3)(f:0<=r.u/\r.u<12)(hv:0<=r.v/\r.v<12)(g : -128<=r.wt/\r.wt<=127):sK c s2 (k+1):=by
 have i:=h.now
 have j:=h.added
 have l:=hs.added
 refine⟨?_,o_,fun x b=>?_,fun x b=>?_⟩
 . rcases hs.now with e|e<;>omega
 . rcases hs.has x b with a|⟨a,d,_⟩
   . exact h.ids x a
   . rw[a,d];exact⟨f,hv⟩
 . rcases hs.has x b with a|⟨_,_,a⟩
   . exact h.wt x a
   . rw[a];exact g
end Go.Sx
namespace Go.Sx
open Go
structure Mv where
 u:Int
 v:Int
 wt:Int
 af:Int
instance:Inhabited Mv:=⟨⟨0,0,0,0⟩⟩
structure Mv.ok (x:Mv):Prop where
 u:0<=x.u/\x.u<=255
 v:0<=x.v/\x.v<=255
 wt : -128<=x.wt/\x.wt<=127
 af:0<=x.af/\x.af<=255
theorem sK.start{c:WC}{s:WW}(h1:s.now=0)(d:s.added=0)(b:∀ y,¬ s.u.has y):sK c s 0 :=
 ⟨by rw[h1];decide,by rw[d];decide,fun x a=>absurd a (b x),fun x a=>absurd a (b x)⟩
def Mv.Ct(now:Int)(x:Mv):Lv:=⟨0,0,x.u%12,x.v%12,x.wt,now+x.af%4,0⟩
theorem Mv.ok.Ct{x:Mv}(h:x.ok){now:Int}(a:0<=now)(h1:now<=1000):(x.Ct now).ok:=by
 have b:=h.wt
 unfold Mv.Ct
 exact⟨kR (by show _/\_;dsimp only;omega),o8 (by show _/\_;dsimp only;omega),o8 (by show _/\_;dsimp only;omega),o8 (by show _/\_;dsimp only;omega),kR (by show _/\_;dsimp only;omega),kR (by show _/\_;dsimp only;omega),kR (by show _/\_;dsimp only;omega)⟩
end Go.Sx
namespace Go.Sx
open Go
section
variable {ys xs:List Int} {i j n:Nat} {x:Int}
def lZ(ys:List Int)(i:Nat):Prop:=∀ p q,p<q->q<i->fJ ys p<=fJ ys q
def tC(ys:List Int)(i j:Nat):Prop:=∀ p q,p<q->q<=i->q≠j->fJ ys p<=fJ ys q
def C3(ys:List Int)(j:Nat):List Int:=fM (fM ys j fun _=>fJ ys (j-1)) (j-1) fun _=>fJ ys j
theorem Tp(a:0<j)(h:j<ys.length):(C3 ys j).Perm ys:=by
 grind [fJ,iK,C3,fM]
theorem To(a:0<j)(h:j<ys.length)(k:Nat):fJ (C3 ys j) k=if k=j then fJ ys (j-1)else if k=j-1 then fJ ys j else fJ ys k:=by
 grind [C3,jy,gx]
theorem lZ.zero:lZ ys 1:=fun p q a b=>by omega
theorem lZ.at(h:lZ ys i):tC ys i i:=fun p q a b c=>h p q a o_
theorem tC.swap(h:tC ys i j)(b:0<j)(e:j<=i)(f:i<ys.length)(g:fJ ys j<fJ ys (j-1)):tC (C3 ys j) i (j-1):=by
 intro p q d a c
 rw[To b o_,To b o_]
 by_cases hqj:q=j
 . rw[if_pos hqj]
   by_cases hp:p=j-1
   . rw[if_neg o_,if_pos hp];omega
   . rw[if_neg o_,if_neg hp]
     exact h p (j-1) o_ o_ o_
 . rw[if_neg hqj,if_neg c]
   by_cases hpj:p=j
   . rw[if_pos hpj]
     exact h (j-1) q o_ a hqj
   . rw[if_neg hpj]
     by_cases hp:p=j-1
     . rw[if_pos hp]
       exact h j q o_ a hqj
     . rw[if_neg hp]
       exact h p q d a hqj
theorem tC.OD(h:tC ys i 0):lZ ys (i+1):=fun p q a b=>h p q a o_ o_
theorem tC.done(h:tC ys i j)(b:0<j)(d:j<=i)(e:¬ fJ ys j<fJ ys (j-1)):lZ ys (i+1):=by
 intro p q a c
 by_cases hq:q=j
 . subst hq
   by_cases hp:p=q-1
   . subst hp;omega
   . have:=h p (q-1) o_ o_ o_
     omega
 . exact h p q a o_ hq
theorem lZ.lF(h:lZ ys ys.length)(f:ys.Nodup):ys.Pairwise fun a b=>a<b:=by
 have e:ys.Pairwise fun a b=>a<=b:=by
  rw[uq]
  intro p q hp d g
  have c:=h p q g d
  rw[iK (zm hp),iK (zm d)]at c
  exact c
 exact(e.and f).imp fun {a b} h=>by have:=h.1;have:=h.2;omega
theorem Eh{α:Type}{r:α->α->Prop}(hi:∀ a,¬ r a a)(f:∀ a b,r a b->¬ r b a):∀ {a b:List α},a.Pairwise r->b.Pairwise r->(∀ x,x∈a↔x∈b)->a=b
 | [],[],_,_,_=>rfl
 | [],y :: b,_,_,h=>by have:=(h y).2 s_;cases this
 | x :: a,[],_,_,h=>by have:=(h x).1 s_;cases this
 | x :: a,y :: b,ha,hb,h=>by
  have k:x=y:=by
   rcases ze.1 ((h x).1 s_)with e|c
   . exact e
   . rcases ze.1 ((h y).2 s_)with e|g
     . exact e.symm
     . exact absurd ((uw.1 ha).1 y g) (f _ _ ((uw.1 hb).1 x c))
  subst k
  have i:=(uw.1 ha).1
  have j:=(uw.1 hb).1
  congr 1
  refine Eh hi f (uw.1 ha).2 (uw.1 hb).2 fun z=>⟨fun d=>?_,fun d=>?_⟩
  . rcases ze.1 ((h z).1 (by simp[d]))with e|c
    . subst e;exact absurd (i z d) (hi z)
    . exact c
  . rcases ze.1 ((h z).2 (by simp[d]))with e|c
    . subst e;exact absurd (j z d) (hi z)
    . exact c
theorem Vd{a b:List Int}(c:a.Pairwise fun x y=>x<y)(hb:b.Pairwise fun x y=>x<y)(h:∀ x,x∈a↔x∈b):a=b :=
 Eh (fun a=>Int.lt_irrefl a) (fun a b h=>by omega) c hb h
theorem fU.kL.uniq{s:fU}{a b:List Lv}(c:s.kL a)(hb:s.kL b):a=b :=
 Eh (r:=fun x y:Lv=>x.seq<y.seq) (fun a=>Int.lt_irrefl _) (fun a b h=>by omega) c.lF hb.lF fun x=>(c.mem x).trans (hb.mem x).symm
structure oW (ys:List Int) (x:Int) (i j:Nat):Prop where
 lo:∀ p,p<i->fJ ys p<x
 hi:∀ p,j<=p->p<ys.length->x<=fJ ys p
theorem oW.start:oW ys x 0 ys.length:=⟨fun p h=>by omega,fun p a b=>by omega⟩
theorem Ei(h:ys.Pairwise fun a b=>a<b){p q:Nat}(e:p<q)(c:q<ys.length):fJ ys p<fJ ys q:=by
 have d:=(uq.1 h) p q o_ c e
 rw[iK (zm (show p<ys.length by omega)),iK (zm c)]
 exact d
theorem oW.up(h:oW ys x i j)(hs:ys.Pairwise fun a b=>a<b){k:Nat}(hk:k<ys.length)(c:fJ ys k<x):oW ys x (k+1) j :=
 ⟨fun p hp=>by
  by_cases e:p=k
  . subst e;exact c
  . have:=Ei hs (show p<k by omega) hk
    omega,h.hi⟩
theorem oW.down(h:oW ys x i j)(hs:ys.Pairwise fun a b=>a<b){k:Nat}(f:¬ fJ ys k<x):oW ys x i k :=
 ⟨h.lo,fun p d c=>by
  by_cases e:p=k
  . subst e;omega
  . have:=Ei hs (show k<p by omega) c
    omega⟩
def gR(ys:List Int)(x:Int):Nat:=(ys.filter fun y=>decide (y<x)).length
theorem oW.gR(h:oW ys x i i)(hi:i<=ys.length):i=gR ys x:=by
 have d:(ys.take i).filter (fun y=>decide (y<x))=ys.take i:=zO.2 fun y c=>by
  obtain⟨p,hp,e⟩:=zP c
  rw[zw]at hp
  rw[List.getElem_take]at e
  have a:=h.lo p o_
  rw[iK (zm o_),e]at a
  exact decide_eq_true a
 have a:(ys.drop i).filter (fun y=>decide (y<x))=[]:=BF.2 fun y c=>by
  obtain⟨p,hp,e⟩:=zP c
  rw[BK]at hp
  rw[List.getElem_drop]at e
  have b:=h.hi (i+p) o_ o_
  rw[iK (zm o_),e]at b
  simp
  omega
 have b:ys.filter (fun y=>decide (y<x))=ys.take i:=by
  conv=>lhs;rw[<-tf i ys]
  grind
 unfold Go.Sx.gR
 rw[b,zw]
 omega
theorem yI(hs:ys.Pairwise fun a b=>a<b)(f:x∈ys):gR ys x<ys.length/\fJ ys (gR ys x)=x:=by
 obtain⟨k,c,e⟩:=zP f
 have e1:fJ ys k=x:=iK (by rw[zm c,e])
 have hb:oW ys x k k:=⟨fun p hp=>by have:=Ei hs hp c;omega,fun p g d=>by
  by_cases h3:k=p
  . subst h3;omega
  . have:=Ei hs (show k<p by omega) d
    omega⟩
 rw[<-hb.gR o_]
 exact⟨c,e1⟩
structure Ge where
 u:Nat
 v:Nat
 w:Int
instance:Inhabited Ge:=⟨⟨0,0,0⟩⟩
def Ge.cells(x:Ge):List Value:=[.int .i64 x.u,.int .i64 x.v,.int .i64 x.w]
structure MC (ids:List Int) (x:Lv) (e:Ge):Prop where
 ul:e.u<ids.length
 vl:e.v<ids.length
 u:fJ ids e.u=x.u
 v:fJ ids e.v=x.v
 w:e.w=x.wt
structure kN (ids:List Int) (L:List Lv) (es:List Ge) (k:Nat):Prop where
 len:es.length=L.length
 fst:∀ i,i<k->MC ids (fJ L i) (fJ es i)
theorem kN.start{ids:List Int}{L:List Lv}:kN ids L (List.replicate L.length ⟨0,0,0⟩) 0:=⟨by rw[qh],fun i h=>by omega⟩
theorem kN.next{ids:List Int}{L:List Lv}{es:List Ge}{k:Nat}(h:kN ids L es k)(hk:k<L.length)(hs:ids.Pairwise fun a b=>a<b)(c:(fJ L k).u∈ids)(hv:(fJ L k).v∈ids) :
 kN ids L (fM es k fun _=>⟨gR ids (fJ L k).u,gR ids (fJ L k).v,(fJ L k).wt⟩) (k+1):=by
 have d:=h.len
 refine⟨by rw[gx];exact d,fun i hi=>?_⟩
 rw[jy o_]
 by_cases e:k=i
 . subst e
   rw[if_pos rfl]
   exact⟨(yI hs c).1,(yI hs hv).1,(yI hs c).2,(yI hs hv).2,rfl⟩
 . rw[if_neg e]
   exact h.fst i o_
structure fU.mo (s:fU) (K:List Int):Prop where
 lF:K.Pairwise fun a b=>a<b
 mem:∀ x,x∈K↔s.t.mem x
theorem fU.mo.uniq{s:fU}{a b:List Int}(c:s.mo a)(hb:s.mo b):a=b:=Vd c.lF hb.lF fun x=>(c.mem x).trans (hb.mem x).symm
theorem fU.mo.ends{s:fU}{fO fN:Nat}{K:List Int}{L:List Lv}(h:s.mo K)(a:s.ok fO fN)(b:s.kL L){k:Nat}(hk:k<L.length):(fJ L k).u∈K/\(fJ L k).v∈K:=by
 obtain⟨i,hi,e⟩:=(b.mem _).1 (zd (gy hk))
 exact⟨(h.mem _).2 ((a.mem _).2 ⟨i,hi,.inl (by rw[e])⟩),(h.mem _).2 ((a.mem _).2 ⟨i,hi,.inr (by rw[e])⟩)⟩
theorem fU.mo.len{s:fU}{fO fN:Nat}{K:List Int}(h:s.mo K)(d:s.ok fO fN)(c:s.t.A.ok):K.length<=fO:=by
 have f:K.length<=s.t.uR.length:=Ba K _ (h.lF.imp fun {a b} k e=>by omega) fun x g=>(TW.Jh c x).2 ((h.mem x).1 g)
 rw[TW.Qt c]at f
 have i:=d.tok.ul
 have j:=d.tn
 omega
structure Mw where
 wa:Bool
 u:Int
 v:Int
 wt:Int
 af:Int
instance:Inhabited Mw:=⟨⟨false,0,0,0,0⟩⟩
def Mw.cells(x:Mw):List Value:=[.bool x.wa,.int .u8 x.u,.int .u8 x.v,.int .i8 x.wt,.int .u8 x.af]
def Mw.mv(x:Mw):Mv:=⟨x.u,x.v,x.wt,x.af⟩
abbrev cG:WC:=⟨20,40,10,60⟩
theorem sK.tick{c:WC}{s s2:WW}{k:Nat}{T:Int}(h:sK c s k)(g:s2.now=T)(i:T<=s.now+3)(f:s2.added=s.added)(b:∀ y,s2.u.has y↔s.u.has y/\T<y.exp):sK c s2 (k+1):=by
 have d:=h.now
 have e:=h.added
 exact⟨o_,o_,fun x a=>h.ids x ((b x).1 a).1,fun x a=>h.wt x ((b x).1 a).1⟩
end
end Go.Sx
namespace Go.Sx
open Go
structure Ds where
 uv:Value
 lv:Value
 sv:Value
 up:List Nat
 le:List Nat
 sz:List Int
 cnt:Int
 lb:List Nat
structure Ds.wG (d:Nat->Nat) (n:Nat) (s:Ds):Prop where
 ul:s.up.length=n
 ll:s.le.length=n
 sl:s.sz.length=n
 bl:s.lb.length=n
 ub:∀ i,i<n->fJ s.up i<n
 wz:∀ i,i<n->fJ s.lb (fJ s.up i)=fJ s.lb i
 dec:∀ i,i<n->fJ s.up i≠i->d (fJ s.up i)<d i
 w6:∀ i j,i<n->j<n->fJ s.up i=i->fJ s.up j=j->fJ s.lb i=fJ s.lb j->i=j
 gQ:∀ i,i<n->fJ s.up i=i->fJ s.le i=fJ s.lb i
 low:∀ i,i<n->fJ s.lb i<=i
 qX:∀ i,i<n->fJ s.lb (fJ s.lb i)=fJ s.lb i
 Lq:∀ x∈s.sz,ia .i64 x
def Ds.ok(n:Nat)(s:Ds):Prop:=(∃ d,s.wG d n)/\ia .i64 s.cnt
def jQ(lb:List Nat)(x y:Nat):List Nat:=lb.map fun z=>if z=max x y then min x y else z
theorem J6{lb:List Nat}{x y:Nat}:(jQ lb x y).length=lb.length:=by simp[jQ]
theorem Rv{lb:List Nat}{x:Nat}:jQ lb x x=lb:=by
 unfold jQ
 conv=>rhs;rw[<-List.map_id lb]
 exact Dy fun z _=>by simp;intro h;exact h.symm
theorem AX{lb:List Nat}{x y i:Nat}(h:i<lb.length):fJ (jQ lb x y) i=if fJ lb i=max x y then min x y else fJ lb i:=by
 obtain⟨z,a⟩:=nW h
 grind [iK,jQ]
theorem oM{n i:Nat}(h:i<n):fJ (List.range n) i=i:=iK (ox h)
theorem wA{α:Type}[Inhabited α]{x:α}{n i:Nat}(h:i<n):fJ (List.replicate n x) i=x:=iK (by rw[rD,if_pos h])
theorem aap:ia .i64 1:=by unfold ia;decide
theorem Ds.tS{n:Nat}{u l s:Value}{c:Int}(b:ia .i64 c):Ds.ok n ⟨u,l,s,List.range n,List.range n,List.replicate n 1,c,List.range n⟩ :=
 ⟨⟨fun _=>0,s_,s_,s_,s_,fun i h=>by show fJ (List.range n) i<n;rw[oM h];exact h,fun i h=>by show fJ (List.range n) (fJ (List.range n) i)=_;rw[oM h,oM h],fun i h a=>absurd (oM h) a,
  fun i j hi d _ _ h=>by have a:fJ (List.range n) i=fJ (List.range n) j:=h;rwa [oM hi,oM d]at a,fun i _ _=>rfl,fun i h=>by show fJ (List.range n) i<=i;rw[oM h];exact zj _,fun i h=>by show fJ (List.range n) (fJ (List.range n) i)=_;rw[oM h,oM h],fun x e=>by rw[(DB.1 e).2];exact aap⟩,b⟩
structure sH (n k:Nat) (up le:List Nat) (sz:List Int):Prop where
 u:up=(List.range k)++List.replicate (n-k) 0
 l:le=(List.range k)++List.replicate (n-k) 0
 s:sz=List.replicate k 1++List.replicate (n-k) 0
theorem zA{α:Type}[Inhabited α]{a b:List α}{x y:α}{f:α->α}(c:f x=y):fM (a++x :: b) a.length f=a++y :: b:=by
 unfold fM
 rw[iK (x:=x) s_,c,List.set_append_right _ _ (zj _)]
 simp
theorem sH.start{n:Nat}:sH n 0 (List.replicate n 0) (List.replicate n 0) (List.replicate n 0):=⟨s_,s_,s_⟩
theorem Bi{α:Type}{x:α}{n k:Nat}(h:k<n):List.replicate (n-k) x=x :: List.replicate (n-(k+1)) x:=by
 rw[show n-k=(n-(k+1))+1 by omega];rfl
theorem sH.next{n k:Nat}{up le:List Nat}{sz:List Int}(h:sH n k up le sz)(hk:k<n):sH n (k+1) (fM up k fun _=>k) (fM le k fun _=>k) (fM sz k fun _=>1):=by
 obtain⟨rfl,rfl,rfl⟩:=h
 have c:fM (List.range k++List.replicate (n-k) 0) k (fun _=>k)=List.range (k+1)++List.replicate (n-(k+1)) 0:=by
  have:=zA (a:=List.range k) (b:=List.replicate (n-(k+1)) 0) (x:=0) (y:=k) (f:=fun _=>k) rfl
  rw[nu]at this
  rw[Bi hk,this,rF]
  simp
 refine⟨c,c,?_⟩
 have:=zA (a:=List.replicate k (1:Int)) (b:=List.replicate (n-(k+1)) 0) (x:=0) (y:=1) (f:=fun _=>1) rfl
 rw[qh]at this
 rw[Bi hk,this,List.replicate_succ']
 simp
theorem sH.fin{n:Nat}{up le:List Nat}{sz:List Int}(h:sH n n up le sz):up=List.range n/\le=List.range n/\sz=List.replicate n 1:=by
 obtain⟨rfl,rfl,rfl⟩:=h
 simp
theorem sH.len{n k:Nat}{up le:List Nat}{sz:List Int}(h:sH n k up le sz)(hk:k<=n):up.length=n/\le.length=n/\sz.length=n:=by
 obtain⟨rfl,rfl,rfl⟩:=h
 simp
 omega
def fW(x:Int):List Value:=[.int .i64 x]
def Ds.wu(s:Ds)(up:List Nat):Ds:={ s with up:=up }
structure qi (d:Nat->Nat) (n:Nat) (s:Ds) (a0:Nat) (up:List Nat) (a:Nat):Prop where
 ok:(s.wu up).wG d n
 an:a<n
 la:fJ s.lb a=fJ s.lb a0
 ro:∀ i,i<n->fJ s.up i=i->fJ up i=i
theorem qi.start{d:Nat->Nat}{n a:Nat}{s:Ds}(h:s.wG d n)(b:a<n):qi d n s a s.up a:=⟨h,b,rfl,fun _ _ h=>h⟩
theorem qi.half{d:Nat->Nat}{n a0 a:Nat}{s:Ds}{up:List Nat}(h:qi d n s a0 up a)(w:fJ up a≠a) :
 qi d n s a0 (fM up a fun _=>fJ up (fJ up a)) (fJ up (fJ up a))/\fJ (fM up a fun _=>fJ up (fJ up a)) a=fJ up (fJ up a)/\d (fJ up (fJ up a))<d a:=by
 obtain⟨b,f,v,A⟩:=h
 have x:up.length=n:=b.ul
 have m:∀ i,i<n->fJ up i<n:=b.ub
 have g:∀ i,i<n->fJ s.lb (fJ up i)=fJ s.lb i:=b.wz
 have t:∀ i,i<n->fJ up i≠i->d (fJ up i)<d i:=b.dec
 have hp:=m a f
 have o:=m _ hp
 have k:∀ i,fJ (fM up a fun _=>fJ up (fJ up a)) i=if a=i then fJ up (fJ up a)else fJ up i:=fun i=>jy o_
 have y:=t a f w
 have r:d (fJ up (fJ up a))<=d (fJ up a):=by
  grind
 have z:fJ up (fJ up a)≠a:=fun e=>by rw[e]at r;omega
 have l:∀ i,fJ (fM up a fun _=>fJ up (fJ up a)) i=i->fJ up i=i:=by
  grind
 refine⟨⟨⟨by show (fM up a fun _=>fJ up (fJ up a)).length=n;rw[gx];exact x,b.ll,b.sl,b.bl,?_,?_,?_,?_,?_,b.low,b.qX,b.Lq⟩,o,by rw[g _ hp,g _ f];exact v,?_⟩,by rw[k,if_pos rfl],o_⟩
 . intro i hi
   show fJ (fM up a fun _=>fJ up (fJ up a)) i<n
   rw[k]
   split
   . exact o
   . exact m i hi
 . intro i hi
   show fJ s.lb (fJ (fM up a fun _=>fJ up (fJ up a)) i)=fJ s.lb i
   rw[k]
   split
   . grind
   . exact g i hi
 . intro i hi
   show fJ (fM up a fun _=>fJ up (fJ up a)) i≠i->d (fJ (fM up a fun _=>fJ up (fJ up a)) i)<d i
   grind
 . intro i j hi u c p q
   exact b.w6 i j hi u (l i c) (l j p) q
 . intro i hi c
   exact b.gQ i hi (l i c)
 . grind
theorem qi.Qn{d:Nat->Nat}{n a0 a:Nat}{s:Ds}{up:List Nat}(h:qi d n s a0 up a)(b:fJ up a≠a) :
 qi d n s a0 (fM up a fun _=>fJ up (fJ up a)) (fJ (fM up a fun _=>fJ up (fJ up a)) a)/\d (fJ (fM up a fun _=>fJ up (fJ up a)) a)<d a:=by
 rw[h.half b |>.2.1]
 exact⟨(h.half b).1,(h.half b).2.2⟩
theorem Ds.join{d:Nat->Nat}{n x y:Nat}{s:Ds}{sz:List Int}{m:Nat}{c:Int}(h:s.wG d n)(f:x<n)(b:y<n)(r:fJ s.up x=x)(o:fJ s.up y=y)(C:x≠y)(hs:sz.length=n)(hk:∀ z∈sz,ia .i64 z)
 (hm:m=min (fJ s.le x) (fJ s.le y)) (A:ia .i64 c):Ds.ok n ⟨s.uv,s.lv,s.sv,fM s.up y fun _=>x,fM s.le x fun _=>m,sz,c,jQ s.lb (fJ s.lb x) (fJ s.lb y)⟩:=by
 have G:fJ s.lb x≠fJ s.lb y:=fun e=>C (h.w6 x y f b r o e)
 have l:∀ i,fJ (fM s.up y fun _=>x) i=if y=i then x else fJ s.up i:=fun i=>jy (by rw[h.ul];exact b)
 have B:∀ i,fJ (fM s.le x fun _=>m) i=if x=i then m else fJ s.le i:=fun i=>jy (by rw[h.ll];exact f)
 have hb:∀ i,i<n->fJ (jQ s.lb (fJ s.lb x) (fJ s.lb y)) i=if fJ s.lb i=max (fJ s.lb x) (fJ s.lb y)then min (fJ s.lb x) (fJ s.lb y)else fJ s.lb i:=fun i hi=>AX (by rw[h.bl];exact hi)
 refine⟨⟨fun i=>d i+if fJ s.lb i=fJ s.lb y then d x+1 else 0,by show (fM s.up y fun _=>x).length=n;rw[gx];exact h.ul,by show (fM s.le x fun _=>m).length=n;rw[gx];exact h.ll,hs,by show (jQ s.lb (fJ s.lb x) (fJ s.lb y)).length=n;rw[J6];exact h.bl,?_,?_,?_,?_,?_,?_,?_,hk⟩,A⟩
 . intro i hi
   show fJ (fM s.up y fun _=>x) i<n
   rw[l]
   split
   . exact f
   . exact h.ub i hi
 . intro i hi
   show fJ (jQ s.lb (fJ s.lb x) (fJ s.lb y)) (fJ (fM s.up y fun _=>x) i)=fJ (jQ s.lb (fJ s.lb x) (fJ s.lb y)) i
   rw[l,hb i hi]
   by_cases e:y=i
   . grind
   . rw[if_neg e,hb _ (h.ub i hi),h.wz i hi]
 . intro i hi
   show fJ (fM s.up y fun _=>x) i≠i->d (fJ (fM s.up y fun _=>x) i)+_<d i+_
   rw[l]
   by_cases e:y=i
   . grind
   . rw[if_neg e,h.wz i hi]
     intro g
     have:=h.dec i hi g
     omega
 . intro i j hi q g u v
   have a : fJ (fM s.up y fun _=>x) i=i:=g
   have k : fJ (fM s.up y fun _=>x) j=j:=u
   have w : fJ (jQ s.lb (fJ s.lb x) (fJ s.lb y)) i=fJ (jQ s.lb (fJ s.lb x) (fJ s.lb y)) j:=v
   rw[l]at a k
   rw[hb i hi,hb j q]at w
   have p:y≠i:=fun e=>by rw[if_pos e]at a; omega
   have t:y≠j:=fun e=>by rw[if_pos e]at k; omega
   rw[if_neg p]at a
   rw[if_neg t]at k
   have J:=h.w6 i y hi b a o
   have L:=h.w6 j y q b k o
   have K:=h.w6 i j hi q a k
   grind
 . intro i hi g
   show fJ (fM s.le x fun _=>m) i=fJ (jQ s.lb (fJ s.lb x) (fJ s.lb y)) i
   have a : fJ (fM s.up y fun _=>x) i=i:=g
   rw[l]at a
   rw[B,hb i hi,hm,h.gQ x f r,h.gQ y b o]
   have p:y≠i:=fun e=>by rw[if_pos e]at a; omega
   rw[if_neg p]at a
   by_cases e:x=i
   . subst e
     rw[if_pos rfl]
     split<;>omega
   . rw[if_neg e,h.gQ i hi a, if_neg]
     intro F
     have a1:=h.w6 i x hi f a r
     have a2:=h.w6 i y hi b a o
     grind [fJ]
 . intro i hi
   show fJ (jQ s.lb (fJ s.lb x) (fJ s.lb y)) i<=i
   rw[hb i hi]
   have:=h.low i hi
   split<;>omega
 . intro i hi
   show fJ (jQ s.lb (fJ s.lb x) (fJ s.lb y)) (fJ (jQ s.lb (fJ s.lb x) (fJ s.lb y)) i)=fJ (jQ s.lb (fJ s.lb x) (fJ s.lb y)) i
   have bi:=h.low i hi
   have bx:=h.low x f
   have E:=h.low y b
   have ix:=h.qX x f
   have I:=h.qX y b
   have D:=h.qX i hi
   rw[hb i hi]
   split
   . have H:min (fJ s.lb x) (fJ s.lb y)<n:=by omega
     grind
   . rename_i e
     rw[hb _ o_,D,if_neg e]
theorem qi.two{d:Nat->Nat}{n a b x y:Nat}{s:Ds}{h f:List Nat}(h1:qi d n s a h x)(r1:fJ h x=x)(c:qi d n (s.wu h) b f y)(r2:fJ f y=y) :
 (s.wu f).wG d n/\fJ f x=x/\fJ f y=y/\x<n/\y<n/\fJ s.lb x=fJ s.lb a/\fJ s.lb y=fJ s.lb b/\(x=y↔fJ s.lb a=fJ s.lb b):=by
 have i:=c.ro x h1.an r1
 refine⟨c.ok,i,r2,h1.an,c.an,h1.la,c.la,fun e=>?_,fun e=>?_⟩
 . have e1:=h1.la
   have g:fJ s.lb y=fJ s.lb b:=c.la
   rw[<-e1,<-g,e]
 . have e1:=h1.la
   have g:fJ s.lb y=fJ s.lb b:=c.la
   exact c.ok.w6 x y h1.an c.an i r2 (e1.trans (e.trans g.symm))
theorem Rt{lb:List Nat}{x y:Nat}:jQ lb x y=jQ lb y x:=by unfold jQ;rw[Nat.max_comm,Nat.min_comm]
theorem Ru{lb:List Nat}{x y a b:Nat}(h1:x=a)(c:y=b):jQ lb x y=jQ lb a b:=by rw[h1,c]
theorem Ub{k:IntKind}{zs:List Int}{i:Nat}{f:Int->Int}(h:∀ z∈zs,ia k z)(b:ia k (f (fJ zs i))):∀ z∈fM zs i f,ia k z:=fun z c=>by
 rcases Mj c with a|a
 . exact h z a
 . exact a▸b
theorem Fm{a b:Nat}:(if (b:Int)<(a:Int)then(b:Int)else(a:Int))=((min a b:Nat):Int):=by split<;>omega
theorem Re{a b:Nat}:(if (a:Int)<(b:Int)then(b:Int)else(a:Int))=((max a b:Nat):Int):=by split<;>omega
theorem Gn(x:Int):ia .i64 (IntKind.i64.wrap x):=by
 rw[IntKind.wrap_i64]
 show (-9223372036854775808:Int)<=_/\_<=(9223372036854775807:Int)
 omega
theorem ael(v:Value){e:TypeId}{n:Nat}:fL fS v e 1 (List.replicate n 0)=fL fW v e 1 (List.replicate n 0):=by
 unfold fL
 have h:(List.replicate n (0:Nat)).flatMap fS=(List.replicate n (0:Int)).flatMap fW:=by
  induction n with
  | zero=>rfl
  | succ n a=>rw[List.replicate_succ,List.replicate_succ,z7,z7,a];rfl
 grind
end Go.Sx
namespace Go.Sx
open Go
def iY(es:List Ge):List Nat:=es.flatMap fun e=>[e.u,e.v]
theorem tL(es:List Ge):(iY es).length=2*es.length:=by
 induction es with
 | nil=>rfl
 | cons e es a=>simp only[iY,z7,zp,zb,zg]at *;omega
theorem Az{es:List Ge}{i:Nat}(h:i<es.length):(iY es)[2*i]? = some (fJ es i).u/\(iY es)[2*i+1]? = some (fJ es i).v:=by
 induction es generalizing i with
 | nil=>simp at h
 | cons e es a =>
  grind [fJ,iY]
theorem WN{es:List Ge}{i:Nat}(h:i<es.length):iY (es.take (i+1))=iY (es.take i)++[(fJ es i).u,(fJ es i).v]:=by
 have a:es.take (i+1)=es.take i++[fJ es i]:=by rw[oU,gy h];rfl
 rw[a]
 simp[iY]
def oG(E:List Nat)(v:Nat):Nat:=E.count v
def sU(E:List Nat)(v:Nat):Nat:=E.countP fun x=>decide (x<v)
theorem JM(E:List Nat)(v:Nat):sU E (v+1)=sU E v+oG E v:=by
 unfold sU oG
 induction E with
 | nil=>rfl
 | cons x E a =>
  grind
theorem abm(E:List Nat):sU E 0=0:=by unfold sU;rw[BC];simp
theorem JL(E:List Nat)(v:Nat):sU E v<=E.length:=Mr
theorem Ot(E:List Nat)(v:Nat):oG E v<=E.length:=List.count_le_length
theorem V8{E:List Nat}{k v:Nat}(h:E[k]? = some v):oG (E.take k) v<oG E v:=by
 have a:k<E.length:=(zh.1 h).1
 have b:E=E.take k++v :: E.drop (k+1):=by
  conv=>lhs;rw[<-tf k E]
  rw[zJ a,(zh.1 h).2]
 grind [oG]
theorem V7{E:List Nat}{k v:Nat}(h:E[k]? = some v)(x:Nat):oG (E.take (k+1)) x=oG (E.take k) x+if v=x then 1 else 0:=by
 unfold oG
 rw[oU,h,List.count_append]
 simp[List.count_cons]
def oe(n:Nat)(E:List Nat):List Nat:=0 :: (List.range n).map (oG E)
theorem wV{n:Nat}{E:List Nat}:(oe n E).length=n+1:=by simp[oe]
theorem FP{n v:Nat}{E:List Nat}(h:v<n):fJ (oe n E) (v+1)=oG E v:=iK (by simp[oe,ox h])
theorem AY{α:Type}[Inhabited α]{xs ys:List α}(h:xs.length=ys.length)(a:∀ i,i<xs.length->fJ xs i=fJ ys i):xs=ys:=by
 apply mW
 grind [gy]
theorem aeL{n:Nat}:List.replicate (n+1) 0=oe n []:=by
 refine AY (by simp[oe]) fun i hi=>?_
 rw[qh]at hi
 rw[wA hi]
 cases i with
 | zero=>rfl
 | succ i=>rw[FP o_];rfl
theorem Tc{n v:Nat}{E:List Nat}(h:v<n):fM (oe n E) (v+1) (fun _=>fJ (oe n E) (v+1)+1)=oe n (E++[v]):=by
 refine AY (by rw[gx,wV,wV]) fun i hi=>?_
 rw[gx,wV]at hi
 rw[jy (by rw[wV];omega)]
 cases i with
 | zero=>rw[if_neg o_];rfl
 | succ i =>
  grind [FP,oG]
def mS(n:Nat)(E:List Nat)(k:Nat):List Nat:=(List.range (n+1)).map fun j=>if j<=k then sU E j else oG E (j-1)
theorem FQ{n k:Nat}{E:List Nat}:(mS n E k).length=n+1:=by simp[mS]
theorem FR{n k j:Nat}{E:List Nat}(h:j<=n):fJ (mS n E k) j=if j<=k then sU E j else oG E (j-1):=iK (by rw[mS,zx,ox o_];rfl)
theorem aeN{n:Nat}{E:List Nat}:oe n E=mS n E 0:=by
 refine AY (by rw[wV,FQ]) fun i hi=>?_
 rw[wV]at hi
 rw[FR o_]
 cases i with
 | zero=>rw[if_pos o_,abm];rfl
 | succ i=>rw[if_neg o_,FP o_];rfl
theorem aeM{n k:Nat}{E:List Nat}(h:k<n):fM (mS n E k) (k+1) (fun _=>fJ (mS n E k) (k+1)+fJ (mS n E k) k)=mS n E (k+1):=by
 grind [AY,gx,FQ,jy,FR,JM]
def mA(n:Nat)(es:List Ge):List Nat:=mS n (iY es) n
theorem Lm{n j:Nat}{es:List Ge}(h:j<=n):fJ (mA n es) j=sU (iY es) j:=by rw[mA,FR h,if_pos h]
theorem wW{n:Nat}{es:List Ge}:(mA n es).length=n+1:=FQ
def oN(n:Nat)(E:List Nat)(k:Nat):List Nat:=(List.range (n+1)).map fun v=>sU E v+oG (E.take k) v
theorem Fx{n k:Nat}{E:List Nat}:(oN n E k).length=n+1:=by simp[oN]
theorem Ki{n k v:Nat}{E:List Nat}(h:v<=n):fJ (oN n E k) v=sU E v+oG (E.take k) v:=iK (by rw[oN,zx,ox o_];rfl)
theorem acs{n:Nat}{es:List Ge}:mA n es=oN n (iY es) 0:=by
 grind [AY,wW,Fx,Lm,Ki,oG]
theorem RF{n k v:Nat}{E:List Nat}(hv:v<n)(h:E[k]? = some v):fM (oN n E k) v (fun _=>fJ (oN n E k) v+1)=oN n E (k+1):=by
 grind [AY,gx,Fx,jy,Ki,V7]
theorem RE{n k v:Nat}{E:List Nat}(hv:v<n)(h:E[k]? = some v):fJ (oN n E k) v<E.length:=by
 rw[Ki o_]
 have a:=V8 h
 have b:=JM E v
 have c:=JL E (v+1)
 omega
def qy(n:Nat)(E:List Nat):Nat->List Nat
 | 0=>List.replicate E.length 0
 | k+1=>fM (qy n E k) (fJ (oN n E k) (fJ E k)) fun _=>k / 2
theorem Fb{n:Nat}{E:List Nat}:∀ k,(qy n E k).length=E.length
 | 0=>by simp[qy]
 | k+1=>by rw[qy,gx];exact Fb k
theorem Q9{n m:Nat}{E:List Nat}(c:E.length=2*m):∀ k,k<=2*m->∀ x∈qy n E k,x<m
 | 0,_,x,hx=>by
  have a:=DB.1 (show x∈List.replicate E.length 0 from hx)
  have b:=a.1
  have d:=a.2
  omega
 | k+1,hk,x,hx=>by
  rcases Mj hx with a|a
  . exact Q9 c k o_ x a
  . have b:x=k / 2:=a
    omega
def wv(n:Nat)(es:List Ge):List Nat:=qy n (iY es) (2*es.length)
theorem JN{n:Nat}{es:List Ge}:(wv n es).length=2*es.length:=by rw[wv,Fb,tL]
theorem abo{n:Nat}{es:List Ge}:∀ x∈wv n es,x<es.length:=Q9 (tL es) _ (zj _)
def mj(n:Nat)(es:List Ge):Prop:=∀ e∈es,e.u<n/\e.v<n/\e.u≠e.v
theorem mj.at{n:Nat}{es:List Ge}(h:mj n es){i:Nat}(hi:i<es.length):(fJ es i).u<n/\(fJ es i).v<n/\(fJ es i).u≠(fJ es i).v:=h _ (zd (gy hi))
theorem abp{n i:Nat}{es:List Ge}(h:i<es.length):qy n (iY es) (2*i+1)=fM (qy n (iY es) (2*i)) (fJ (oN n (iY es) (2*i)) (fJ es i).u) fun _=>i:=by
 rw[qy,iK (Az h).1,show 2*i / 2=i by omega]
theorem abq{n i:Nat}{es:List Ge}(h:i<es.length):qy n (iY es) (2*(i+1))=fM (qy n (iY es) (2*i+1)) (fJ (oN n (iY es) (2*i+1)) (fJ es i).v) fun _=>i:=by
 rw[show 2*(i+1)=2*i+1+1 by omega,qy,iK (Az h).2,show (2*i+1) / 2=i by omega]
structure Gr where
 ev:Value
 sv:Value
 lv:Value
theorem Td{n j:Nat}{E:List Nat}(h:j<=n):fJ (oe n E) j<=E.length:=by
 cases j with
 | zero=>exact lD _
 | succ j=>rw[FP o_];exact Ot _ _
theorem Te{n k j:Nat}{E:List Nat}(h:j<=n):fJ (mS n E k) j<=E.length:=by
 grind [FR,JL,Ot]
theorem St.reR{bs:List (World×List Nat)}{L:List fT}{R R' : fT}{w:World}(j:Nat)(h:St bs L w)(hi:L[j]? = some R)(e:R=R'):St bs (L.set j R') w:=by
 subst e
 rwa [show L.set j R=L from by
  apply mW
  intro i
  rw[vD]
  split
  . rename_i e
    subst e
    split
    . exact hi.symm
    . rename_i a
      rw[pK o_]at hi
      cases hi
  . rfl]
end Go.Sx
namespace Go.Sx
open Go
def sR(es:List Ge)(i j:Nat):Prop:=(fJ es i).w<(fJ es j).w\/((fJ es i).w=(fJ es j).w/\i<j)
instance (es:List Ge) (i j:Nat):Decidable (sR es i j):=by unfold sR;infer_instance
theorem aaR{es:List Ge}(i:Nat):¬ sR es i i:=by unfold sR;omega
theorem aaQ{es:List Ge}{i j:Nat}(h:sR es i j):¬ sR es j i:=by unfold sR at *;omega
structure sI (es:List Ge) (o:List Nat):Prop where
 perm:o.Perm (List.range es.length)
 Ll:o.Pairwise (sR es)
theorem sI.uniq{es:List Ge}{o o' : List Nat}(h:sI es o)(c : sI es o'):o=o' :=
 Eh (r:=sR es) aaR (fun a b h=>aaQ h) h.Ll c.Ll fun x=>(h.perm.mem_iff).trans (c.perm.mem_iff).symm
theorem sI.len{es:List Ge}{o:List Nat}(h:sI es o):o.length=es.length:=by rw[h.perm.length_eq,nu]
theorem sI.lt{es:List Ge}{o:List Nat}(h:sI es o){i:Nat}(hi:i∈o):i<es.length:=lU.1 (h.perm.mem_iff.1 hi)
def iF(es:List Ge)(n:Nat)(f:List Nat):List Nat:=f.foldl (fun lb i=>jQ lb (fJ lb (fJ es i).u) (fJ lb (fJ es i).v)) (List.range n)
theorem Jz{es:List Ge}{n:Nat}{f:List Nat}{i:Nat}:iF es n (f++[i])=jQ (iF es n f) (fJ (iF es n f) (fJ es i).u) (fJ (iF es n f) (fJ es i).v):=by
 unfold iF
 rw[DC]
 rfl
theorem E2{es:List Ge}{n:Nat}(f:List Nat):(iF es n f).length=n:=by
 unfold iF
 rw[<-List.foldr_reverse]
 induction f.reverse with
 | nil=>exact nu
 | cons i f a=>rw[List.foldr_cons,J6];exact a
def mJ(es:List Ge)(n:Nat)(f:List Nat)(i:Nat):Prop:=fJ (iF es n f) (fJ es i).u≠fJ (iF es n f) (fJ es i).v
instance (es:List Ge) (n:Nat) (f:List Nat) (i:Nat):Decidable (mJ es n f i):=by unfold mJ;infer_instance
def kq(es:List Ge)(n:Nat)(o:List Nat):List Nat:=o.foldl (fun f i=>if mJ es n f i then f++[i]else f) []
theorem I4{es:List Ge}{n:Nat}{o:List Nat}{i:Nat}:kq es n (o++[i])=if mJ es n (kq es n o) i then kq es n o++[i]else kq es n o:=by
 unfold kq
 rw[DC]
 rfl
theorem EO{es:List Ge}{n k:Nat}{o:List Nat}(h:k<o.length):kq es n (o.take (k+1))=if mJ es n (kq es n (o.take k)) (fJ o k)then kq es n (o.take k)++[fJ o k]else kq es n (o.take k):=by
 rw[<-I4,oU,gy h]
 rfl
theorem EN{es:List Ge}{n:Nat}(o:List Nat):(kq es n o).Sublist o:=by
 have h:∀ r:List Nat,(kq es n r.reverse).Sublist r.reverse:=by
  intro r
  induction r with
  | nil=>exact List.Sublist.refl _
  | cons i r a =>
   rw[List.reverse_cons,I4]
   split
   . exact a.append (List.Sublist.refl _)
   . exact a.trans (um _ _)
 simpa using h o.reverse
theorem QT{es:List Ge}{n:Nat}{f:List Nat}{i:Nat}:iF es n (if mJ es n f i then f++[i]else f)=jQ (iF es n f) (fJ (iF es n f) (fJ es i).u) (fJ (iF es n f) (fJ es i).v):=by
 split
 . exact Jz
 . rename_i h
   have e:fJ (iF es n f) (fJ es i).u=fJ (iF es n f) (fJ es i).v:=Decidable.not_not.1 h
   rw[e,Rv]
structure oC (es:List Ge) (n:Nat) (f:List Nat):Prop where
 of:∃ o,sI es o/\f=kq es n o
theorem oC.uniq{es:List Ge}{n:Nat}{f a : List Nat}(h:oC es n f)(b : oC es n a):f=a := by
 obtain⟨o,c,rfl⟩:=h
 obtain⟨e, d,rfl⟩:=b
 rw[c.uniq d]
theorem oC.lt{es:List Ge}{n:Nat}{f:List Nat}(h:oC es n f){i:Nat}(hi:i∈f):i<es.length:=by
 obtain⟨o,a,rfl⟩:=h
 exact a.lt ((EN o).subset hi)
def r9(m k:Nat):List Nat:=List.range k++List.replicate (m-k) 0
theorem ad8{m:Nat}:List.replicate m 0=r9 m 0:=by simp[r9]
theorem ad5{m:Nat}:r9 m m=List.range m:=by simp[r9]
theorem ad6{m k:Nat}(h:k<=m):(r9 m k).length=m:=by simp[r9];omega
theorem ad7{m k:Nat}(h:k<m):fM (r9 m k) k (fun _=>k)=r9 m (k+1):=by
 have:=zA (a:=List.range k) (b:=List.replicate (m-(k+1)) 0) (x:=0) (y:=k) (f:=fun _=>k) rfl
 rw[nu]at this
 rw[r9,Bi h,this,r9,rF]
 simp
end Go.Sx
namespace Go.Sx
open Go
section
variable {r:Option Nat} {P:Program} {ops:Array Oper} {Q:Exit->Act->World->Prop} {n:Nat} {ds:List Deferred} {s:List (Nat×Value)} {rest:List Oper} {w w0:World} {d:Nat} {dd:Option Nat} {T e:TypeId} {ty:TypeId} {pos:String} {af:Array Edge} {g:Option (Nat×Bool)} {x y:Operand} {α:Type} {cf:α->List Value} {ok:Nat->Prop} {ys:List α} {c:α} {sz k off off' se by_ m i:Nat} {z v:Value} {kk:IntKind}
theorem aaw(l:ev n s x=jm sz v k off)(p:ev n s y = .int kk (i:Nat))(d:P.underlying T=some (.array m e))(j:TI P e se by_ z)(r:i<m)(h:off+i*se=off')(a:gY sz cf ok w0 v ys)(f:ys[k]? = some c) :
 (execOp (ev n s) ⟨dd,.indexAddr T x y,ty,pos,af,g⟩).run P w = .ok (.value (jm sz v k off')) w:=by
 obtain⟨b,o,t, q,rfl,_⟩:=a.place f
 subst h
 exact Qy l p d j ⟨o_,o_⟩ (by simp only[nT,lW])
theorem uS(j:gC ops n s g=true)(p:ev n s x=jm sz v k off)(q:ev n s y = .int kk (i:Nat))(f:P.underlying T=some (.array m e))(o:TI P e se by_ z)(a:i<m)(l:off+i*se=off')(b:gY sz cf ok w0 v ys)(h:ys[k]? = some c)
 (K:WL r P ops Q rest (Fr n ((d,jm sz v k off') :: s) ds) w):WL r P ops Q (⟨some d,.indexAddr T x y,ty,pos,af,g⟩ :: rest) (Fr n s ds) w:=pw j (fun _=>aaw p q f o a l b h) K
end
structure i6 where
 a:Nat
 b:Nat
instance:Inhabited i6:=⟨⟨0,0⟩⟩
abbrev i6.cells(x:i6):List Value:=[.int .i64 (x.a:Int),.int .i64 (x.b:Int)]
structure Un (n:Nat) (lb:List Nat) (us:List i6):Prop where
 len:us.length=n
 bl:lb.length=n
 le:∀ i,i<n->(fJ us i).a<=i
 wz:∀ i,i<n->fJ lb (fJ us i).a=fJ lb i
 root:∀ i,i<n->(fJ us i).a=i->fJ lb i=i
 low:∀ i,i<n->fJ lb i<=i
 qX:∀ i,i<n->fJ lb (fJ lb i)=fJ lb i
structure uE (n:Nat) (lb:List Nat) (us0:List i6) (a0:Nat) (us:List i6) (i:Nat):Prop where
 un:Un n lb us
 nd:∀ j,(fJ us j).b=(fJ us0 j).b
 lt:i<n
 la:fJ lb i=fJ lb a0
theorem uE.start{n a:Nat}{lb:List Nat}{b:List i6}(h:Un n lb b)(c:a<n):uE n lb b a b a:=⟨h,fun _=>rfl,c,rfl⟩
theorem uE.half{n a0 i:Nat}{lb:List Nat}{m b us2:List i6}(h:uE n lb m a0 b i)(s:(fJ b i).a≠i)(l:us2=fM b i fun x=>{ x with a:=(fJ b (fJ b i).a).a }) :
 uE n lb m a0 us2 (fJ us2 i).a/\(fJ us2 i).a<i:=by
 have hi:=h.lt
 have o:=h.un.len
 have p:=h.un.le i hi
 have hp:(fJ b i).a<n:=by omega
 have q:=h.un.le _ hp
 have g:=h.un.wz i hi
 have k:=h.un.wz _ hp
 have d:∀ j,fJ us2 j=if i=j then { fJ b i with a:=(fJ b (fJ b i).a).a } else fJ b j:=fun j=>by rw[l];exact jy o_
 have e1:(fJ us2 i).a=(fJ b (fJ b i).a).a:=by rw[d,if_pos rfl]
 rw[e1]
 refine⟨⟨⟨by rw[l,gx];exact o,h.un.bl,fun j c=>?_,fun j c=>?_,fun j c f=>?_,h.un.low,h.un.qX⟩,fun j=>?_,o_,by rw[k,g];exact h.la⟩,o_⟩
 . rw[d]
   split
   . rename_i e;subst e;show (fJ b (fJ b i).a).a<=i;omega
   . exact h.un.le j c
 . rw[d]
   split
   . rename_i e;subst e;show fJ lb (fJ b (fJ b i).a).a=_;rw[k,g]
   . exact h.un.wz j c
 . rw[d]at f
   split at f
   . rename_i e
     subst e
     have r:(fJ b (fJ b i).a).a=i:=f
     omega
   . exact h.un.root j c f
 . rw[d]
   split
   . rename_i e;subst e;exact h.nd i
   . exact h.nd j
theorem uE.fin{n a0 i:Nat}{lb:List Nat}{d b:List i6}(h:uE n lb d a0 b i)(c:(fJ b i).a=i):i=fJ lb a0:=by rw[<-h.la,h.un.root i h.lt c]
end Go.Sx
namespace Go.Sx
open Go
theorem Un.join{n x y a b c:Nat}{lb:List Nat}{f us2:List i6}(h:Un n lb f)(B:x<n)(C:y<n)(ex:fJ lb x=x)(s:fJ lb y=y)(A:x≠y)(m:a=min x y)(hb:b=max x y)
 (o:us2=fM (fM f b fun z=>{ z with a:=a }) a fun z=>{ z with b:=c }):Un n (jQ lb x y) us2/\∀ j,(fJ us2 j).b=if j=a then c else(fJ f j).b:=by
 have p:=h.len
 have u:a<b:=by omega
 have v:b<n:=by omega
 have w:∀ j,fJ us2 j=if a=j then { fJ f a with b:=c } else if b=j then { fJ f b with a:=a } else fJ f j:=by
  grind [jy,gx]
 have k:∀ j,(fJ us2 j).a=if b=j then a else(fJ f j).a:=by
  grind
 have hm:∀ j,j<n->fJ (jQ lb x y) j=if fJ lb j=b then a else fJ lb j:=fun j d=>by rw[AX (by rw[h.bl];exact d),<-m,<-hb]
 have r:fJ lb b=b:=by rcases(show b=x\/b=y by omega)with e|e<;>rw[e]<;>assumption
 have q:fJ lb a=a:=by rcases(show a=x\/a=y by omega)with e|e<;>rw[e]<;>assumption
 refine⟨⟨by rw[o,gx,gx];exact p,by rw[J6];exact h.bl,fun j d=>?_,fun j d=>?_,fun j d i=>?_,fun j d=>?_,fun j d=>?_⟩,fun j=>?_⟩
 . rw[k]
   split
   . omega
   . exact h.le j d
 . rw[k,hm j d]
   split
   . grind
   . have g:=h.le j d
     rw[hm _ o_,h.wz j d]
 . rw[k]at i
   split at i
   . omega
   . rename_i e
     rw[hm j d]
     have g:=h.root j d i
     rw[g,if_neg (fun l=>e l.symm)]
 . rw[hm j d]
   have g:=h.low j d
   split<;>omega
 . have g:=h.low j d
   have t:=h.qX j d
   rw[hm j d]
   split
   . grind
   . grind
 . grind
structure nC where
 l:List Int
 r:List Int
 p:List Int
 h:List Int
 s:List Nat
 d:List Nat
def nC.init(n m:Nat):nC:=⟨List.replicate m (-1),List.replicate m (-1),List.replicate m (-1),List.replicate m 0,List.replicate n 1++List.replicate (m-n) 0,List.range n⟩
def nC.step(lb:List Nat)(e:Ge)(x:Nat)(t:nC):nC :=
 ⟨fM t.l x (fun _=>((fJ t.d (min (fJ lb e.u) (fJ lb e.v)):Nat):Int)),fM t.r x (fun _=>((fJ t.d (max (fJ lb e.u) (fJ lb e.v)):Nat):Int)),
  fM (fM t.p (fJ t.d (min (fJ lb e.u) (fJ lb e.v))) (fun _=>(x:Int))) (fJ t.d (max (fJ lb e.u) (fJ lb e.v))) (fun _=>(x:Int)),fM t.h x (fun _=>e.w),
  fM t.s x (fun _=>fJ t.s (fJ t.d (min (fJ lb e.u) (fJ lb e.v)))+fJ t.s (fJ t.d (max (fJ lb e.u) (fJ lb e.v)))),fM t.d (min (fJ lb e.u) (fJ lb e.v)) (fun _=>x)⟩
def gL(es:List Ge)(n:Nat)(f:List Nat):Nat->nC
 | 0=>nC.init n (n+f.length)
 | i+1=>nC.step (iF es n (f.take i)) (fJ es (fJ f i)) (n+i) (gL es n f i)
def gf(es:List Ge)(n:Nat)(f:List Nat):nC:=gL es n f f.length
theorem Wc{l:List Nat}{a b:Nat}(h:a≠b):l.count a+l.count b<=l.length:=by
 induction l with
 | nil=>simp
 | cons x l c =>
  grind
theorem abZ{lb:List Nat}{x y j:Nat}(h:x≠y):(jQ lb x y).count j=if j=max x y then 0 else if j=min x y then lb.count x+lb.count y else lb.count j:=by
 unfold jQ
 induction lb with
 | nil=>simp
 | cons z lb a =>
  grind
structure qM (es:List Ge) (n:Nat) (f:List Nat) (i:Nat) (us:List i6):Prop where
 un:Un n (iF es n (f.take i)) us
 dd:∀ j,j<n->(fJ us j).b=fJ (gL es n f i).d j
 nd:∀ j,j<n->fJ (gL es n f i).d j<n+i
 sz:∀ j,j<n->fJ (iF es n (f.take i)) j=j->fJ (gL es n f i).s (fJ (gL es n f i).d j)=(iF es n (f.take i)).count j
theorem Bt{es:List Ge}{n:Nat}{f:List Nat}:∀ i,(gL es n f i).l.length=n+f.length/\(gL es n f i).r.length=n+f.length/\(gL es n f i).p.length=n+f.length/\(gL es n f i).h.length=n+f.length/\(gL es n f i).s.length=n+f.length/\(gL es n f i).d.length=n
 | 0=>by simp[gL,nC.init]
 | i+1=>by
  have h:=Bt (es:=es) (n:=n) (f:=f) i
  simp only[gL,nC.step,gx]
  exact h
theorem Wb{n j:Nat}(h:j<n):(List.range n).count j=1:=by
 grind
theorem Un.init{n:Nat}:Un n (List.range n) ((List.range n).map fun i=>⟨i,i⟩):=by
 have h:∀ i,i<n->fJ ((List.range n).map fun i=>(⟨i,i⟩:i6)) i=⟨i,i⟩:=fun i hi=>iK (by rw[zx,ox hi];rfl)
 exact⟨s_,s_,fun i hi=>by rw[h i hi];exact zj _,fun i hi=>by rw[h i hi],fun i hi _=>oM hi,fun i hi=>by rw[oM hi];exact zj _,fun i hi=>by rw[oM hi,oM hi]⟩
theorem qM.start{es:List Ge}{n:Nat}{f:List Nat}:qM es n f 0 ((List.range n).map fun i=>⟨i,i⟩):=by
 have h:∀ i,i<n->fJ ((List.range n).map fun i=>(⟨i,i⟩:i6)) i=⟨i,i⟩:=fun i hi=>iK (by rw[zx,ox hi];rfl)
 refine⟨Un.init,fun j a=>?_,fun j a=>?_,fun j a _=>?_⟩
 . rw[h j a];exact(oM a).symm
 . show fJ (List.range n) j<n+0
   rw[oM a];omega
 . show fJ (List.replicate n 1++List.replicate (n+f.length-n) 0) (fJ (List.range n) j)=(List.range n).count j
   rw[oM a,Wb a]
   exact iK (by rw[Dq (by simpa using a),rD,if_pos a])
theorem qM.at{es:List Ge}{n:Nat}{f:List Nat}{i:Nat}{e:List i6}(h:qM es n f i e)(d:mj n es)(hi:i<f.length)(c:∀ k∈f,k<es.length)(b:mJ es n (f.take i) (fJ f i)) :
 (fJ es (fJ f i)).u<n/\(fJ es (fJ f i)).v<n/\fJ (iF es n (f.take i)) (fJ es (fJ f i)).u<n/\fJ (iF es n (f.take i)) (fJ es (fJ f i)).v<n/\fJ (iF es n (f.take i)) (fJ es (fJ f i)).u≠fJ (iF es n (f.take i)) (fJ es (fJ f i)).v:=by
 have a:=d.at (c _ (zd (gy hi)))
 have g:=h.un.low _ a.1
 have j:=h.un.low _ a.2.1
 exact⟨a.1,a.2.1,o_,o_,b⟩
theorem qM.next{es:List Ge}{n:Nat}{f:List Nat}{i:Nat}{M us2 p:List i6}(h:qM es n f i M)(G:mj n es)(hi:i<f.length)(F:∀ k∈f,k<es.length)(D:mJ es n (f.take i) (fJ f i))
 (C:Un n (iF es n (f.take i)) us2) (hb:∀ j,j<n->(fJ us2 j).b=fJ (gL es n f i).d j)
 (E:p=fM (fM us2 (max (fJ (iF es n (f.take i)) (fJ es (fJ f i)).u) (fJ (iF es n (f.take i)) (fJ es (fJ f i)).v)) fun z=>{ z with a:=min (fJ (iF es n (f.take i)) (fJ es (fJ f i)).u) (fJ (iF es n (f.take i)) (fJ es (fJ f i)).v) }) (min (fJ (iF es n (f.take i)) (fJ es (fJ f i)).u) (fJ (iF es n (f.take i)) (fJ es (fJ f i)).v)) fun z=>{ z with b:=n+i }) :
 qM es n f (i+1) p:=by
 obtain⟨t,w,A,B,m⟩:=h.at G hi F D
 have e1:=h.un.qX _ t
 have r:=h.un.qX _ w
 have o:iF es n (f.take (i+1))=jQ (iF es n (f.take i)) (fJ (iF es n (f.take i)) (fJ es (fJ f i)).u) (fJ (iF es n (f.take i)) (fJ es (fJ f i)).v):=by
  rw[oU,gy hi]
  exact Jz
 generalize P:fJ (iF es n (f.take i)) (fJ es (fJ f i)).u=x at *
 generalize Q:fJ (iF es n (f.take i)) (fJ es (fJ f i)).v=y at *
 obtain⟨L,R⟩:=Un.join (c:=n+i) C A B e1 r m rfl rfl E
 have O:=Bt (es:=es) (n:=n) (f:=f) i
 have hd:∀ j,fJ (gL es n f (i+1)).d j=if min x y=j then n+i else fJ (gL es n f i).d j:=by
  grind [gL,nC.step,jy]
 have hs:∀ j,fJ (gL es n f (i+1)).s j=if n+i=j then fJ (gL es n f i).s (fJ (gL es n f i).d (min x y))+fJ (gL es n f i).s (fJ (gL es n f i).d (max x y))else fJ (gL es n f i).s j:=by
  grind [gL,nC.step,jy]
 have I:fJ (iF es n (f.take i)) (min x y)=min x y:=by rcases DF x y with q|q<;>simp only[xu,Nat.min_eq_right,q]<;>assumption
 have H:fJ (iF es n (f.take i)) (max x y)=max x y:=by rcases DF x y with q|q<;>simp only[Nat.max_eq_left,Nat.max_eq_right,q]<;>assumption
 refine⟨o▸L,fun j g=>?_,fun j g=>?_,fun j g l=>?_⟩
 . grind
 . rw[hd]
   have:=h.nd j g
   split<;>omega
 . rw[o]at l ⊢
   rw[abZ m,hd]
   rw[AX (by rw[h.un.bl];exact g)]at l
   by_cases e:min x y=j
   . rw[if_pos e,if_neg o_,if_pos e.symm,hs,if_pos rfl,h.sz _ o_ I,h.sz _ o_ H]
     grind
   . rw[if_neg e]
     have J:j≠max x y:=by
      grind
     have K:fJ (iF es n (f.take i)) j=j:=by
      split at l
      . rename_i N;omega
      . exact l
     rw[if_neg J,if_neg (fun q=>e q.symm),hs,if_neg (by have:=h.nd j g;omega)]
     exact h.sz j g K
theorem ZK{es:List Ge}{n:Nat}(o:List Nat):∀ i,i<(kq es n o).length->mJ es n ((kq es n o).take i) (fJ (kq es n o) i):=by
 have h:∀ r:List Nat,∀ i,i<(kq es n r.reverse).length->mJ es n ((kq es n r.reverse).take i) (fJ (kq es n r.reverse) i):=by
  intro r
  induction r with
  | nil=>intro i hi;simp[kq]at hi
  | cons k r a =>
   grind [I4,kq,fJ,iK]
 simpa using h o.reverse
theorem oC.mJ{es:List Ge}{n:Nat}{f:List Nat}(h:oC es n f){i:Nat}(hi:i<f.length):mJ es n (f.take i) (fJ f i):=by
 obtain⟨o,_,rfl⟩:=h
 exact ZK o i hi
theorem qM.two{es:List Ge}{n:Nat}{f:List Nat}{i:Nat}{z:List i6}(h:qM es n f i z)(r:mj n es)(hi:i<f.length)(p:∀ k∈f,k<es.length)(o:mJ es n (f.take i) (fJ f i)){x y:Nat}(t:fJ (iF es n (f.take i)) (fJ es (fJ f i)).u=x)(w:fJ (iF es n (f.take i)) (fJ es (fJ f i)).v=y) :
 fJ (gL es n f i).d (min x y)<n+i/\fJ (gL es n f i).d (max x y)<n+i/\fJ (gL es n f i).s (fJ (gL es n f i).d (min x y))+fJ (gL es n f i).s (fJ (gL es n f i).d (max x y))<=n:=by
 obtain⟨j,m,a,b,g⟩:=h.at r hi p o
 have e1:=h.un.qX _ j
 have e:=h.un.qX _ m
 rw[t]at a g e1
 rw[w]at b g e
 have c:=Wc (l:=iF es n (f.take i)) g
 rw[E2]at c
 rcases DF x y with q|q
 . rw[xu q,Nat.max_eq_right q,h.sz x a e1,h.sz y b e]
   exact⟨h.nd x a,h.nd y b,c⟩
 . rw[Nat.min_eq_right q,Nat.max_eq_left q,h.sz x a e1,h.sz y b e]
   exact⟨h.nd y b,h.nd x a,o_⟩
def nM{α:Type}(x y:α)(m k:Nat):List α:=List.replicate k x++List.replicate (m-k) y
theorem FL{α:Type}{x y:α}{m:Nat}:List.replicate m y=nM x y m 0:=by simp[nM]
theorem KU{α:Type}{x y:α}{m:Nat}:nM x y m m=List.replicate m x:=by simp[nM]
theorem S0{α:Type}{x y:α}{m k:Nat}(h:k<=m):(nM x y m k).length=m:=by simp[nM];omega
theorem FK{α:Type}[Inhabited α]{x y:α}{m k:Nat}(h:k<m):fM (nM x y m k) k (fun _=>x)=nM x y m (k+1):=by
 have:=zA (a:=List.replicate k x) (b:=List.replicate (m-(k+1)) y) (x:=y) (y:=x) (f:=fun _=>x) rfl
 rw[qh]at this
 rw[nM,Bi h,this,nM,List.replicate_succ']
 simp
def su(n k:Nat):List i6:=((List.range k).map fun i=>⟨i,i⟩)++List.replicate (n-k) ⟨0,0⟩
theorem agn{n:Nat}:List.replicate n (⟨0,0⟩:i6)=su n 0:=by simp[su]
theorem agk{n:Nat}:su n n=(List.range n).map fun i=>⟨i,i⟩:=by simp[su]
theorem agl{n k:Nat}(h:k<=n):(su n k).length=n:=by simp[su];omega
theorem agm{n k:Nat}(h:k<n):fM (su n k) k (fun _=>⟨k,k⟩)=su n (k+1):=by
 have:=zA (a:=(List.range k).map fun i=>(⟨i,i⟩:i6)) (b:=List.replicate (n-(k+1)) ⟨0,0⟩) (x:=⟨0,0⟩) (y:=⟨k,k⟩) (f:=fun _=>⟨k,k⟩) rfl
 rw[zq,nu]at this
 rw[su,Bi h,this,su,rF]
 simp
theorem oC.len{es:List Ge}{n:Nat}{f:List Nat}(h:oC es n f):f.length<=es.length:=by
 obtain⟨o,a,rfl⟩:=h
 have:=(EN (es:=es) (n:=n) o).length_le
 rw[a.len]at this
 exact this
end Go.Sx
namespace Go.Sx
open Go
section
variable (es:List Ge) (n:Nat) (f:List Nat)
def nA(i:Nat):Nat:=min (fJ (iF es n (f.take i)) (fJ es (fJ f i)).u) (fJ (iF es n (f.take i)) (fJ es (fJ f i)).v)
def nB(i:Nat):Nat:=max (fJ (iF es n (f.take i)) (fJ es (fJ f i)).u) (fJ (iF es n (f.take i)) (fJ es (fJ f i)).v)
def nL(i:Nat):Nat:=fJ (gL es n f i).d (nA es n f i)
def nR(i:Nat):Nat:=fJ (gL es n f i).d (nB es n f i)
def gQ(y:Nat):Nat:=if y<n then y else nA es n f (y-n)
end
structure iU (es:List Ge) (n:Nat) (f:List Nat):Prop where
 g:mj n es
 f:oC es n f
theorem iU.LS{es:List Ge}{n:Nat}{f:List Nat}(h:iU es n f):∀ i,i<=f.length->∃ b,qM es n f i b
 | 0,_=>⟨_,qM.start⟩
 | i+1,hi=>by
  obtain⟨b,a⟩:=h.LS i o_
  exact⟨_,a.next h.g o_ (fun k c=>h.f.lt c) (h.f.mJ o_) a.un a.dd rfl⟩
theorem iU.st{es:List Ge}{n:Nat}{f:List Nat}(h:iU es n f){i:Nat}(hi:i<f.length) :
 nA es n f i<nB es n f i/\nB es n f i<n/\fJ (iF es n (f.take i)) (nA es n f i)=nA es n f i/\fJ (iF es n (f.take i)) (nB es n f i)=nB es n f i/\nL es n f i<n+i/\nR es n f i<n+i/\iF es n (f.take (i+1))=jQ (iF es n (f.take i)) (nA es n f i) (nB es n f i):=by
 obtain⟨p,a⟩:=h.LS i o_
 have c:=h.f.mJ hi
 obtain⟨b1,b2,b3,j,l⟩:=a.at h.g hi (fun k b=>h.f.lt b) c
 obtain⟨d,e,_⟩:=a.two h.g hi (fun k b=>h.f.lt b) c rfl rfl
 have e1:=a.un.qX _ b1
 have m:=a.un.qX _ b2
 have o:iF es n (f.take (i+1))=jQ (iF es n (f.take i)) (fJ (iF es n (f.take i)) (fJ es (fJ f i)).u) (fJ (iF es n (f.take i)) (fJ es (fJ f i)).v):=by
  rw[oU,gy hi]
  exact Jz
 unfold nL nR nA nB
 refine⟨o_,o_,?_,?_,d,e,?_⟩
 . grind
 . grind
 . grind [fJ,iF,Rt]
structure vH (es:List Ge) (n:Nat) (f:List Nat) (i:Nat):Prop where
 a:∀ x,x<n->fJ (gL es n f i).l x = -1/\fJ (gL es n f i).r x = -1/\fJ (gL es n f i).h x=0/\fJ (gL es n f i).s x=1
 b:∀ j,j<i->fJ (gL es n f i).l (n+j)=(nL es n f j:Int)/\fJ (gL es n f i).r (n+j)=(nR es n f j:Int)/\fJ (gL es n f i).h (n+j)=(fJ es (fJ f j)).w /\
  fJ (gL es n f i).s (n+j)=fJ (gL es n f i).s (nL es n f j)+fJ (gL es n f i).s (nR es n f j)/\fJ (gL es n f i).p (nL es n f j)=((n+j:Nat):Int)/\fJ (gL es n f i).p (nR es n f j)=((n+j:Nat):Int)
 c:∀ y,y<n+f.length->fJ (gL es n f i).p y = -1\/∃ j,j<i/\fJ (gL es n f i).p y=((n+j:Nat):Int)/\(y=nL es n f j\/y=nR es n f j)
 e:∀ y,y<n+f.length->fJ (gL es n f i).s y<=n
 d:∀ l,l<n->fJ (iF es n (f.take i)) l=l->fJ (gL es n f i).p (fJ (gL es n f i).d l) = -1/\gQ es n f (fJ (gL es n f i).d l)=l
theorem vH.start{es:List Ge}{n:Nat}{f:List Nat}:vH es n f 0:=by
 refine⟨fun x d=>?_,fun j c=>by omega,fun y b=>.inl ?_,fun y b=>?_,fun l a _=>?_⟩
 . show fJ (List.replicate (n+f.length) (-1)) x = -1/\fJ (List.replicate (n+f.length) (-1)) x = -1/\fJ (List.replicate (n+f.length) 0) x=0/\fJ (List.replicate n 1++List.replicate (n+f.length-n) 0) x=1
   refine⟨wA o_,wA o_,wA o_,iK ?_⟩
   grind
 . exact wA b
 . show fJ (List.replicate n 1++List.replicate (n+f.length-n) 0) y<=n
   by_cases h1:y<n
   . rw[iK (x:=1) (by rw[Dq (by simpa using h1),rD,if_pos h1])];omega
   . rw[iK (x:=0) (by rw[Mh (by simp;omega),rD,if_pos (by simp;omega)])];omega
 . show fJ (List.replicate (n+f.length) (-1)) (fJ (List.range n) l) = -1/\gQ es n f (fJ (List.range n) l)=l
   rw[oM a]
   exact⟨wA o_,if_pos a⟩
theorem vH.next{es:List Ge}{n:Nat}{f:List Nat}(h:iU es n f){i:Nat}(hi:i<f.length)(v:vH es n f i):vH es n f (i+1):=by
 obtain⟨s1,s2,s3,L,s5,s6,s7⟩:=h.st hi
 obtain⟨l1,l2,l3,l4,l5,l6⟩:=Bt (es:=es) (n:=n) (f:=f) i
 obtain⟨P,G⟩:=v.d _ o_ s3
 obtain⟨Q,H⟩:=v.d _ s2 L
 have Y:nL es n f i≠nR es n f i:=fun e=>by
  have e1:gQ es n f (nL es n f i)=nA es n f i:=G
  have m:gQ es n f (nR es n f i)=nB es n f i:=H
  rw[e,m]at e1
  omega
 have E:∀ y,fJ (gL es n f (i+1)).l y=if n+i=y then(nL es n f i:Int)else fJ (gL es n f i).l y:=by
  intro y
  have e1:(gL es n f (i+1)).l=fM (gL es n f i).l (n+i) (fun _=>(nL es n f i:Int)):=rfl
  rw[e1,jy o_]
 have F:∀ y,fJ (gL es n f (i+1)).r y=if n+i=y then(nR es n f i:Int)else fJ (gL es n f i).r y:=by
  intro y
  have e1:(gL es n f (i+1)).r=fM (gL es n f i).r (n+i) (fun _=>(nR es n f i:Int)):=rfl
  rw[e1,jy o_]
 have D:∀ y,fJ (gL es n f (i+1)).h y=if n+i=y then(fJ es (fJ f i)).w else fJ (gL es n f i).h y:=by
  intro y
  have e1:(gL es n f (i+1)).h=fM (gL es n f i).h (n+i) (fun _=>(fJ es (fJ f i)).w):=rfl
  rw[e1,jy o_]
 have t:∀ y,fJ (gL es n f (i+1)).s y=if n+i=y then fJ (gL es n f i).s (nL es n f i)+fJ (gL es n f i).s (nR es n f i)else fJ (gL es n f i).s y:=by
  intro y
  have e1:(gL es n f (i+1)).s=fM (gL es n f i).s (n+i) (fun _=>fJ (gL es n f i).s (nL es n f i)+fJ (gL es n f i).s (nR es n f i)):=rfl
  rw[e1,jy o_]
 have td:∀ y,fJ (gL es n f (i+1)).d y=if nA es n f i=y then n+i else fJ (gL es n f i).d y:=by
  intro y
  have e1:(gL es n f (i+1)).d=fM (gL es n f i).d (nA es n f i) (fun _=>n+i):=rfl
  rw[e1,jy o_]
 have A:∀ y,fJ (gL es n f (i+1)).p y=if nR es n f i=y then((n+i:Nat):Int)else if nL es n f i=y then((n+i:Nat):Int)else fJ (gL es n f i).p y:=by
  intro y
  have e1:(gL es n f (i+1)).p=fM (fM (gL es n f i).p (nL es n f i) fun _=>((n+i:Nat):Int)) (nR es n f i) fun _=>((n+i:Nat):Int):=rfl
  rw[e1,jy (by rw[gx];omega),jy o_]
 refine⟨fun x Z=>?_,fun j hj=>?_,fun y q=>?_,fun y q=>?_,fun l K z=>?_⟩
 . rw[E,F,D,t,if_neg o_,if_neg o_,if_neg o_,if_neg o_]
   exact v.a x Z
 . by_cases e:j=i
   . subst e
     refine⟨by rw[E,if_pos rfl],by rw[F,if_pos rfl],by rw[D,if_pos rfl],?_,?_,by rw[A,if_pos rfl]⟩
     . rw[t,t,t,if_pos rfl,if_neg o_,if_neg o_]
     . rw[A,if_neg (fun e=>Y e.symm),if_pos rfl]
   . have S : j<i:=by omega
     obtain⟨b1,b2,b3,M,N,O⟩:=v.b j S
     obtain⟨_,_,_,_,q5,q6,_⟩:=h.st (show j<f.length by omega)
     have k1:∀ y,fJ (gL es n f i).p y=((n+j:Nat):Int)->fJ (gL es n f (i+1)).p y=((n+j:Nat):Int):=by
      intro y q
      rw[A,if_neg,if_neg,q]
      . intro m;rw[<-m]at q;have o:fJ (gL es n f i).p (nL es n f i) = -1:=P;rw[o]at q;omega
      . intro m;rw[<-m]at q;have o:fJ (gL es n f i).p (nR es n f i) = -1:=Q;rw[o]at q;omega
     rw[E,F,D,t,t,t,if_neg o_,if_neg o_,if_neg o_,if_neg o_,if_neg o_,if_neg o_]
     exact⟨b1,b2,b3,M,k1 _ N,k1 _ O⟩
 . rw[A]
   by_cases e1:nR es n f i=y
   . exact .inr ⟨i,o_,by rw[if_pos e1],.inr e1.symm⟩
   . rw[if_neg e1]
     by_cases m:nL es n f i=y
     . exact .inr ⟨i,o_,by rw[if_pos m],.inl m.symm⟩
     . rw[if_neg m]
       rcases v.c y q with u|⟨j,u,I,J⟩
       . exact .inl u
       . exact .inr ⟨j,o_,I,J⟩
 . rw[t]
   split
   . obtain⟨us,u⟩:=h.LS i o_
     exact(u.two h.g hi (fun k T=>h.f.lt T) (h.f.mJ hi) rfl rfl).2.2
   . exact v.e y q
 . rw[s7,AX (by rw[E2];exact K)]at z
   have X:max (nA es n f i) (nB es n f i)=nB es n f i:=by omega
   have W:min (nA es n f i) (nB es n f i)=nA es n f i:=by omega
   rw[X,W]at z
   rw[td]
   by_cases e:nA es n f i=l
   . rw[if_pos e]
     refine⟨?_,?_⟩
     . rw[A,if_neg o_,if_neg o_]
       rcases v.c (n+i) o_ with u|⟨j,u,I,J⟩
       . exact u
       . obtain⟨_,_,_,_,q5,q6,_⟩:=h.st (show j<f.length by omega)
         omega
     . unfold gQ
       rw[if_neg o_,show n+i-n=i by omega]
       exact e
   . rw[if_neg e]
     have U:fJ (iF es n (f.take i)) l=l:=by
      split at z
      . exact absurd z e
      . exact z
     have V:l≠nB es n f i:=by
      intro o
      rw[if_pos (by rw[o];exact L)]at z
      exact e z
     obtain⟨R,B⟩:=v.d l K U
     refine⟨?_,B⟩
     rw[A,if_neg,if_neg,R]
     . intro o
       rw[<-o]at B
       have C:gQ es n f (nL es n f i)=nA es n f i:=G
       exact e (C.symm.trans B)
     . intro o
       rw[<-o]at B
       have C:gQ es n f (nR es n f i)=nB es n f i:=H
       exact V (B.symm.trans C)
theorem iU.vK{es:List Ge}{n:Nat}{f:List Nat}(h:iU es n f):∀ i,i<=f.length->vH es n f i
 | 0,_=>vH.start
 | i+1,hi=>(h.vK i o_).next h o_
theorem iU.v{es:List Ge}{n:Nat}{f:List Nat}(h:iU es n f):vH es n f f.length:=h.vK _ (zj _)
theorem iU.wh{es:List Ge}{n:Nat}{f:List Nat}(h:iU es n f){i:Nat}(hi:i<f.length):gQ es n f (nL es n f i)=nA es n f i/\gQ es n f (nR es n f i)=nB es n f i/\gQ es n f (n+i)=nA es n f i:=by
 obtain⟨s1,s2,s3,a,b,c,e⟩:=h.st hi
 have v:=h.vK i o_
 refine⟨(v.d _ o_ s3).2,(v.d _ s2 a).2,?_⟩
 grind [gQ]
theorem oC.lF{es:List Ge}{n:Nat}{f:List Nat}(h:oC es n f){i:Nat}(hi:i+1<f.length):(fJ es (fJ f i)).w<=(fJ es (fJ f (i+1))).w:=by
 obtain⟨o,a,rfl⟩:=h
 have b:=a.Ll.sublist (EN (es:=es) (n:=n) o)
 have c:=(uq.1 b) i (i+1) o_ hi o_
 rw[iK (zm (show i<(kq es n o).length by omega)),iK (zm hi)]
 unfold sR at c
 omega
theorem aa4{L:List Nat}{p q:Nat->Bool}(x:Nat)(a:x∈L)(hp:p x=true)(c:q x=false)(h:∀ l∈L,q l=true->p l=true):(L.filter q).length<(L.filter p).length:=by
 induction L with
 | nil=>cases a
 | cons y L d =>
  have b:∀ M:List Nat,(∀ l∈M,q l=true->p l=true)->(M.filter q).length<=(M.filter p).length:=by
   intro M
   induction M with
   | nil=>intro _;exact zj _
   | cons z M e =>
    grind
  grind
theorem oC.room{es:List Ge}{n:Nat}{f:List Nat}(h:oC es n f)(b:mj n es):f.length<=n:=by
 have a:iU es n f:=⟨b,h⟩
 -- each step makes one label less
 have key:∀ i,i<=f.length->i+((List.range n).filter fun l=>decide (fJ (iF es n (f.take i)) l=l)).length<=n:=by
  intro i
  induction i with
  | zero=>intro _;have:=tc (fun l=>decide (fJ (iF es n (f.take 0)) l=l)) (List.range n);rw[nu]at this;omega
  | succ i c =>
   intro hi
   have e:=c o_
   obtain⟨s1,s2,s3,d,p,q,r⟩:=a.st (show i<f.length by omega)
   have o:max (nA es n f i) (nB es n f i)=nB es n f i:=by omega
   have m:min (nA es n f i) (nB es n f i)=nA es n f i:=by omega
   have g:((List.range n).filter fun l=>decide (fJ (iF es n (f.take (i+1))) l=l)).length<((List.range n).filter fun l=>decide (fJ (iF es n (f.take i)) l=l)).length:=by
    refine aa4 (nB es n f i) (lU.2 s2) (by simpa using d) ?_ fun l k j=>?_
    . grind [AX,E2]
    . grind [AX,E2]
   omega
 have:=key f.length (zj _)
 omega
theorem iU.inner{es:List Ge}{n:Nat}{f:List Nat}(h:iU es n f){i:Nat}(hi:i<f.length) :
 (gf es n f).l[n+i]? = some (nL es n f i:Int)/\(gf es n f).r[n+i]? = some (nR es n f i:Int)/\(gf es n f).h[n+i]? = some (fJ es (fJ f i)).w/\(gf es n f).p[nL es n f i]? = some ((n+i:Nat):Int)/\(gf es n f).p[nR es n f i]? = some ((n+i:Nat):Int) /\
 fJ (gf es n f).s (n+i)=fJ (gf es n f).s (nL es n f i)+fJ (gf es n f).s (nR es n f i)/\fJ (gf es n f).s (n+i)<=n/\nL es n f i<n+i/\nR es n f i<n+i/\nL es n f i≠nR es n f i:=by
 obtain⟨o,q,t,u,x,y⟩:=Bt (es:=es) (n:=n) (f:=f) f.length
 obtain⟨b1,b2,b3,a,c,d⟩:=h.v.b i hi
 obtain⟨s1,s2,s3,z,j,k,A⟩:=h.st hi
 obtain⟨k1,g,m⟩:=h.wh hi
 refine⟨?_,?_,?_,?_,?_,a,h.v.e _ o_,j,k,fun e=>?_⟩
 . rw[<-b1];exact gy (by show n+i<(gL es n f f.length).l.length;omega)
 . rw[<-b2];exact gy (by show n+i<(gL es n f f.length).r.length;omega)
 . rw[<-b3];exact gy (by show n+i<(gL es n f f.length).h.length;omega)
 . rw[<-c];exact gy (by show nL es n f i<(gL es n f f.length).p.length;omega)
 . rw[<-d];exact gy (by show nR es n f i<(gL es n f f.length).p.length;omega)
 . rw[e,g]at k1;omega
theorem nQ{es:List Ge}{n:Nat}{f:List Nat}:(gf es n f).l.length=n+f.length/\(gf es n f).r.length=n+f.length/\(gf es n f).p.length=n+f.length/\(gf es n f).h.length=n+f.length/\(gf es n f).s.length=n+f.length:=by
 obtain⟨a,b,c,d,e,g⟩:=Bt (es:=es) (n:=n) (f:=f) f.length
 exact⟨a,b,c,d,e⟩
theorem iU.par{es:List Ge}{n:Nat}{f:List Nat}(h:iU es n f){y:Nat}(b:y<n+f.length):(gf es n f).p[y]? = some (-1)\/∃ j,j<f.length/\(gf es n f).p[y]? = some ((n+j:Nat):Int)/\(y=nL es n f j\/y=nR es n f j):=by
 have g:=(nQ (es:=es) (n:=n) (f:=f)).2.2.1
 rcases h.v.c y b with a|⟨j,a,d,e⟩
 . grind [gy,gf]
 . grind [gy,gf]
def P6(v:Value):List Value:=[v]
def nH(es:List Ge)(n:Nat)(f:List Nat)(m k:Nat):List Nat:=(List.range k).map (gQ es n f)++List.replicate (m-k) 0
theorem aa0{es:List Ge}{n m:Nat}{f:List Nat}:List.replicate m 0=nH es n f m 0:=by simp[nH]
theorem aaX{es:List Ge}{n m:Nat}{f:List Nat}:nH es n f m m=(List.range m).map (gQ es n f):=by simp[nH]
theorem aaY{es:List Ge}{n m k:Nat}{f:List Nat}(h:k<=m):(nH es n f m k).length=m:=by simp[nH];omega
theorem QW{es:List Ge}{n m k j c:Nat}{f:List Nat}(hk:k<=m)(h:j<k):(fM (nH es n f m k) k fun _=>c)[j]? = some (gQ es n f j):=by
 grind [fM,nH]
theorem QX{es:List Ge}{n m k c:Nat}{f:List Nat}(h:k<m)(d:c=gQ es n f k):fM (nH es n f m k) k (fun _=>c)=nH es n f m (k+1):=by
 have:=zA (a:=(List.range k).map (gQ es n f)) (b:=List.replicate (m-(k+1)) 0) (x:=0) (y:=c) (f:=fun _=>c) rfl
 rw[zq,nu]at this
 rw[nH,Bi h,this,nH,rF,d]
 simp
theorem aaZ{es:List Ge}{n m k c d:Nat}{f:List Nat}(h:k<m)(a:c=gQ es n f k):fM (fM (nH es n f m k) k (fun _=>d)) k (fun _=>c)=nH es n f m (k+1):=by
 rw[<-QX h a]
 unfold fM
 rw[List.set_set]
theorem St.xZ{bs:List (World×List Nat)}{L:List fT}{w w0:World}{b:Nat}{T:TypeId}{cs:List Value}(h:St bs L w)(hb:(w0,[])∈bs)(a:(blk b T cs).holds w0):(blk b T cs).holds w :=
 (blk b T cs).loc w0 w (fun c d => h.keep hb (by
  have e:c = b:=by simpa[blk]using d
  subst e
  exact(qg.1 a).1) oV) a
structure Mg where
 a:Nat
 b:Nat
 h:Int
 s:Nat
instance:Inhabited Mg:=⟨⟨0,0,0,0⟩⟩
abbrev Mg.cells(x:Mg):List Value:=[.int .i64 (x.a:Int),.int .i64 (x.b:Int),.int .i64 x.h,.int .i64 1,.int .i64 (x.s:Int)]
def J1(es:List Ge)(n:Nat)(f:List Nat)(i:Nat):Mg:=⟨nA es n f i,nB es n f i,(fJ es (fJ f i)).w,fJ (gf es n f).s (n+i)⟩
def nX(es:List Ge)(n:Nat)(f:List Nat)(k:Nat):List Mg:=(List.range k).map (J1 es n f)
theorem abN{es:List Ge}{n k:Nat}{f:List Nat}:nX es n f (k+1)=nX es n f k++[J1 es n f k]:=by unfold nX;rw[rF,qd];rfl
theorem Ri{es:List Ge}{n k:Nat}{f:List Nat}:(nX es n f k).length=k:=by simp[nX]
theorem QY{es:List Ge}{n m j:Nat}{f:List Nat}(h:j<m):((List.range m).map (gQ es n f))[j]? = some (gQ es n f j):=by rw[zx,ox h];rfl
end Go.Sx
namespace Go.Sx
open Go
structure ko (ps:List Int):Prop where
 up:∀ i,i<ps.length->fJ ps i<0\/(i:Int)<fJ ps i/\fJ ps i<(ps.length:Int)
def gp(ps:List Int)(i:Nat):Nat:=if h:(i:Int)<fJ ps i/\i<ps.length then gp ps (fJ ps i).toNat+1 else 0
termination_by ps.length-i
decreasing_by omega
def jH(ps:List Int)(k i:Nat):List Nat:=(List.range k).filter fun j=>decide (fJ ps j=(i:Int))
def n9(ps:List Int)(k:Nat):List Nat:=(List.range k).filter fun j=>decide (fJ ps j<0)
section
variable {ps:List Int} {k i j:Nat}
theorem aef(h:fJ ps k<0):n9 ps (k+1)=n9 ps k++[k]:=by simp[n9,rF,qI,h]
theorem aee(h:¬ fJ ps k<0):n9 ps (k+1)=n9 ps k:=by simp[n9,rF,qI,h]
theorem QM:jH ps (k+1) i=if fJ ps k=(i:Int)then jH ps k i++[k]else jH ps k i:=by
 unfold jH
 rw[rF,qI]
 split<;>rename_i h<;>simp[h]
theorem aaI(h:fJ ps k<0):jH ps (k+1) i=jH ps k i:=by rw[QM,if_neg o_]
theorem Rh:j∈jH ps k i↔j<k/\fJ ps j=(i:Int):=by simp[jH]
theorem Fk:j∈n9 ps k↔j<k/\fJ ps j<0:=by simp[n9]
theorem aaH:(jH ps k i).Nodup:=xw.sublist qH
theorem aed:(n9 ps k).Nodup:=xw.sublist qH
theorem aec:(n9 ps k).length<=k:=kz (tc _ _) s_
theorem QL:(jH ps k i).length<=k:=kz (tc _ _) s_
theorem Eo(h:fJ ps i<0):gp ps i=0:=by rw[gp,dif_neg o_]
theorem Ay(hp:ko ps)(a:j<ps.length)(h:fJ ps j=(i:Int)):gp ps j=gp ps i+1:=by
 have b:=hp.up j a
 rw[gp,dif_pos o_,h]
 rfl
theorem Iq:gp ps i<=ps.length-i:=by
 induction hm:ps.length-i using Nat.strongRecOn generalizing i with
 | _ m a =>
  grind [gp,fJ]
end
structure Bf (ps:List Int) (i j:Nat) (od:List Nat) (dp:List Nat):Prop where
 nd:od.Nodup
 lt:∀ x∈od,x<ps.length
 len:dp.length=ps.length
 mem:∀ x,x<ps.length->(x∈od↔fJ ps x<0\/(∃ p∈od.take i,fJ ps x=(p:Int))\/i<od.length/\x∈(jH ps ps.length (fJ od i)).take j)
 dep:∀ x∈od,fJ dp x=gp ps x
 Jj:i<=od.length
 zero:∀ x,x<ps.length->x∉od->fJ dp x=0
section
variable {ps:List Int} {i j:Nat} {od dp:List Nat}
theorem Bf.Kq(h:Bf ps i j od dp):od.length<=ps.length:=A9 _ _ h.nd h.lt
theorem Bf.start:Bf ps 0 0 (n9 ps ps.length) (List.replicate ps.length 0) where
 nd:=aed
 lt x hx:=(Fk.1 hx).1
 len:=by simp
 mem x hx:=by simp[Fk,hx]
 dep x hx:=by
  rw[Eo (Fk.1 hx).2]
  exact iK (by simp[(Fk.1 hx).1])
 Jj:=by simp
 zero x hx _:=iK (by simp[hx])
theorem Bf.new(h:Bf ps i j od dp)(hi:i<od.length){c:Nat}(e:(jH ps ps.length (fJ od i))[j]? = some c):c<ps.length/\fJ ps c=((fJ od i:Nat):Int)/\c∉od:=by
 obtain⟨d,g⟩:=Rh.1 (zd e)
 refine⟨d,g,fun hm=>?_⟩
 rcases(h.mem c d).1 hm with b|⟨p,hp,b⟩|⟨_,b⟩
 . omega
 . have l:p=fJ od i:=by omega
   subst l
   have f:=h.nd
   rw[<-tf i od]at f
   have k:fJ od i∈od.drop i:=zd (i:=0) (by rw[Dz,pM];exact gy hi)
   exact(zr.1 f).2.2 _ hp _ k rfl
 . obtain⟨q,a⟩:=List.mem_iff_getElem?.1 b
   rw[uu]at a
   split at a
   . rename_i n
     obtain⟨m,o⟩:=zh.1 a
     have:=(List.getElem?_inj m aaH).1 (a.trans e.symm)
     omega
   . cases a
theorem Bf.wh(hp:ko ps)(h:Bf ps i j od dp)(hi:i<od.length){c:Nat}(f:(jH ps ps.length (fJ od i))[j]? = some c) :
 Bf ps i (j+1) (od++[c]) (fM dp c (fun _=>fJ dp (fJ od i)+1)):=by
 obtain⟨d,g,k⟩:=h.new hi f
 have l:fJ (od++[c]) i=fJ od i:=iK (by rw[Dq hi];exact gy hi)
 refine⟨?_,?_,by rw[gx];exact h.len,?_,?_,by rw[zp];have:=h.Jj;omega,?_⟩
 . refine zr.2 ⟨h.nd,s_,?_⟩
   grind
 . intro x b
   rcases zn.1 b with a|a
   . exact h.lt x a
   . grind
 . intro x b
   rw[l,Mm o_,oU,f]
   simp only[zn,z8,Option.toList_some,zp,Dx]
   rw[h.mem x b]
   constructor
   . grind
   . grind
 . intro x b
   rcases zn.1 b with a|a
   . have n:c≠x:=fun e=>k (e▸a)
     rw[kS n]
     exact h.dep x a
   . simp only[z8]at a
     subst a
     rw[jS (by rw[h.len];exact d),Ay hp d g,h.dep _ (zd (gy hi))]
 . intro x b m
   have a:x∉od/\x≠c:=by simpa using m
   rw[kS (Ne.symm a.2)]
   exact h.zero x b a.1
theorem Bf.next(h:Bf ps i j od dp)(hi:i<od.length)(a:(jH ps ps.length (fJ od i)).length<=j):Bf ps (i+1) 0 od dp:=by
 refine⟨h.nd,h.lt,h.len,fun x b=>?_,h.dep,hi,h.zero⟩
 rw[h.mem x b,BG a,oU,gy hi]
 grind [Rh]
theorem Bf.all(hp:ko ps)(h:Bf ps od.length 0 od dp):∀ x,x<ps.length->x∈od:=by
 intro x
 induction hm:ps.length-x using Nat.strongRecOn generalizing x with
 | _ m d =>
  intro b
  rw[h.mem x b]
  rcases hp.up x b with a|⟨a,c⟩
  . exact .inl a
  . refine .inr (.inl ⟨(fJ ps x).toNat,?_,o_⟩)
    grind
theorem Bf.fin(hp:ko ps)(h:Bf ps od.length 0 od dp):od.length=ps.length/\dp=(List.range ps.length).map (gp ps):=by
 refine⟨Nat.le_antisymm h.Kq ?_,?_⟩
 . have b:=CQ (List.range ps.length) od xw fun x a=>h.all hp x (lU.1 a)
   simpa using b
 . apply mW
   intro x
   by_cases a:x<ps.length
   . rw[gy (by rw[h.len];exact a),h.dep x (h.all hp x a)]
     simp[a]
   . rw[pK (by rw[h.len];omega),pK (by simp;omega)]
end
def oI(f:Nat->Int)(n k:Nat):List Int:=(List.range k).map f++List.replicate (n-k) 0
section
variable {f:Nat->Int} {n k j:Nat}
theorem ZA(h:k<=n):(oI f n k).length=n:=by simp[oI];omega
theorem ZC:oI f n 0=List.replicate n 0:=by simp[oI]
theorem Y9:oI f n n=(List.range n).map f:=by simp[oI]
theorem ZB(h:k<n):fM (oI f n k) k (fun _=>f k)=oI f n (k+1):=by
 unfold oI fM
 rw[List.set_append_right _ _ s_,rF,qd,oT]
 simp only[zq,nu,Nat.sub_self,lV,BH]
 obtain⟨m,hm⟩:∃ m,n-k=m+1:=⟨n-k-1,o_⟩
 grind
theorem abE{α:Type}[Inhabited α]{g:Nat->α}(h:j<n):fJ ((List.range n).map g) j=g j:=iK (by simp[h])
end
def kA(ps:List Int):Nat->Nat->Int
 | 0,v=>fJ ps v
 | k+1,v=>if 0<=kA ps k v then kA ps k (kA ps k v).toNat else kA ps k v
def jw(ps:List Int)(k:Nat):List Int:=(List.range ps.length).map (kA ps k)
section
variable {ps:List Int} {k v:Nat}
theorem Js(hp:ko ps)(hv:v<ps.length):kA ps k v<0\/(v:Int)<kA ps k v/\kA ps k v<(ps.length:Int):=by
 induction k generalizing v with
 | zero=>exact hp.up v hv
 | succ k a =>
  grind [kA]
theorem EZ(h:0<=kA ps k v):kA ps (k+1) v=kA ps k (kA ps k v).toNat:=by
 grind [kA]
theorem Jt(h:¬ 0<=kA ps k v):kA ps (k+1) v=kA ps k v:=by
 grind [kA]
theorem AR:(jw ps k).length=ps.length:=by simp[jw]
theorem uT(h:v<ps.length):fJ (jw ps k) v=kA ps k v:=abE h
theorem aaB:jw ps 0=ps:=by
 apply mW
 intro j
 by_cases hj:j<ps.length
 . rw[gy hj,gy (by rw[AR];exact hj),uT hj]
   rfl
 . grind [AR]
theorem aaD(hp:ko ps)(hv:v<ps.length)(h:0<=fJ (jw ps k) v):fJ (jw ps k) (fJ (jw ps k) v).toNat=kA ps (k+1) v:=by
 rw[uT hv]at h ⊢
 rw[EZ h,uT]
 have:=Js hp hv (k:=k)
 omega
theorem aaC(hv:v<ps.length)(h:¬ 0<=fJ (jw ps k) v):fJ (jw ps k) v=kA ps (k+1) v:=by
 rw[uT hv]at h ⊢
 rw[Jt h]
theorem IZ{f:Nat->Int}{n:Nat}{x:Int}(h:v<n)(a:x=f v):fM (oI f n v) v (fun _=>x)=oI f n (v+1):=by
 rw[a];exact ZB h
end
section
variable {ps:List Int} {l:List (Value×List Int)} {k q n:Nat} {v:Value}
theorem YV{α:Type}[Inhabited α]{l:List α}(h:q<k):fJ (l.eraseIdx k) q=fJ l q:=by
 grind [fJ]
theorem aaA(a:l.length=n)(hk:k<n)(h:∀ q,q<k->(fJ l q).2=jw ps q):∀ q,q<k+1->(fJ (fM l k (fun _=>(v,jw ps k))) q).2=jw ps q:=by
 grind [jy]
end
def jP(ps hs:List Int)(T:Int)(x:Nat):Nat:=if h:((x:Int)<fJ ps x/\x<ps.length)/\fJ hs (fJ ps x).toNat<=T then jP ps hs T (fJ ps x).toNat else x
termination_by ps.length-x
decreasing_by omega
section
variable {ps hs:List Int} {T:Int} {x:Nat}
theorem Ih(hp:ko ps)(a:x<ps.length)(h:0<=fJ ps x)(b:fJ hs (fJ ps x).toNat<=T):jP ps hs T x=jP ps hs T (fJ ps x).toNat:=by
 have:=hp.up x a
 rw[jP,dif_pos ⟨⟨o_,a⟩,b⟩]
theorem Ig(h:¬ (0<=fJ ps x/\fJ hs (fJ ps x).toNat<=T)):jP ps hs T x=x:=by
 grind [jP]
theorem Oj(a:x<ps.length)(hp:ko ps):jP ps hs T x<ps.length:=by
 induction hm:ps.length-x using Nat.strongRecOn generalizing x with
 | _ m c =>
  by_cases h:0<=fJ ps x/\fJ hs (fJ ps x).toNat<=T
  . have b:=hp.up x a
    grind [Ih,fJ]
  . rw[Ig h]
    exact a
end
theorem QB{l:List (Value×List Int)}(h:l.length=13):l.flatMap iH=[(fJ l 0).1,(fJ l 1).1,(fJ l 2).1,(fJ l 3).1,(fJ l 4).1,(fJ l 5).1,(fJ l 6).1,(fJ l 7).1,(fJ l 8).1,(fJ l 9).1,(fJ l 10).1,(fJ l 11).1,(fJ l 12).1]:=by
 match l,h with
 | [a0,a1,a2,a3,a4,a5,a6,a7,a8,a9,a10,a11,a12],_=>rfl
theorem iU.RW{es:List Ge}{n:Nat}{f:List Nat}(h:iU es n f){y:Nat}(c:y<n+f.length):fJ (gf es n f).p y = -1\/(y:Int)<fJ (gf es n f).p y/\fJ (gf es n f).p y<((n+f.length:Nat):Int):=by
 rcases h.par c with a|⟨j,a,b,i⟩
 . exact .inl (iK a)
 . have e:=iK b
   obtain⟨_,_,_,_,_,_,_,d,g,_⟩:=h.inner a
   grind
theorem iU.u9{es:List Ge}{n:Nat}{f:List Nat}(h:iU es n f):ko (gf es n f).p :=
 ⟨fun i hi=>by
  have c:=(nQ (es:=es) (n:=n) (f:=f)).2.2.1
  rcases h.RW (y:=i) o_ with a|⟨a,b⟩
  . exact .inl o_
  . exact .inr ⟨a,o_⟩⟩
theorem iU.Kx{es:List Ge}{n:Nat}{f:List Nat}(h:iU es n f):∀ i,i<(gf es n f).p.length -> -1<=fJ (gf es n f).p i:=fun i hi=>by
 have c:=(nQ (es:=es) (n:=n) (f:=f)).2.2.1
 rcases h.RW (y:=i) o_ with a|⟨a,b⟩<;>omega
end Go.Sx
namespace Go.Sx
open Go
def oH{α:Type}(cf:α->List Value)(sz:Nat)(e:TypeId)(m:List (Int×(Value×List α))):fT:=gm (m.map fun p=>fL cf p.2.1 e sz p.2.2)
section
variable {α:Type} {cf:α->List Value} {bs:List (World×List Nat)} {L:List fT} {w:World} {e:TypeId} {sz:Nat} {m:List (Int×(Value×List α))} {a:Int}
theorem St.PZ{a:List (Int×(Value×List α))}(h:St bs (oH cf sz e m :: L) w)(hp:m.Perm a):St bs (oH cf sz e a :: L) w :=
 St.pack _ _ ((St.unpack h).perm ((hp.map _).append_right _))
theorem St.YZ{p:Int×(Value×List α)}(h:St bs (oH cf sz e (p :: m) :: L) w):St bs (fL cf p.2.1 e sz p.2.2 :: oH cf sz e m :: L) w:=by
 have a:St bs (([fL cf p.2.1 e sz p.2.2]++m.map fun p=>fL cf p.2.1 e sz p.2.2)++L) w:=St.unpack h
 rw[oT]at a
 have b:=a.perm (L' := (m.map fun p=>fL cf p.2.1 e sz p.2.2)++([fL cf p.2.1 e sz p.2.2]++L)) (by
  rw[<-oT,<-oT]
  exact List.Perm.append_right _ qG)
 exact(St.pack _ _ b).swap
theorem St.Wg{p:Int×(Value×List α)}(h:St bs (fL cf p.2.1 e sz p.2.2 :: oH cf sz e m :: L) w):St bs (oH cf sz e (p :: m) :: L) w:=by
 have a:St bs ((m.map fun p=>fL cf p.2.1 e sz p.2.2)++(fL cf p.2.1 e sz p.2.2 :: L)) w:=St.unpack h.swap
 refine St.pack _ _ (a.perm ?_)
 show List.Perm _ (fL cf p.2.1 e sz p.2.2 :: ((m.map fun p=>fL cf p.2.1 e sz p.2.2)++L))
 exact uz
theorem St.P3(a:Int)(h:St bs (oH cf sz e m :: L) w):St bs (fL cf (gh m a).1 e sz (gh m a).2 :: oH cf sz e (je m a) :: L) w:=by
 unfold gh
 cases hm:ir m a with
 | none =>
  rw[Rg hm]
  exact St.Ef h e sz
 | some x=>exact(h.PZ (J3 hm)).YZ
theorem St.P0{v:Value}{xs:List α}(h:St bs (fL cf v e sz xs :: oH cf sz e (je m a) :: L) w):St bs (oH cf sz e (gF m a (v,xs)) :: L) w :=
 (St.Wg (p:=(a,(v,xs))) h).PZ (J5 m a (v,xs)).symm
theorem St.Y2(h:St bs L w):St bs (oH cf sz e ([]:List (Int×(Value×List α))) :: L) w:=St.pack [] L h
end
end Go.Sx
namespace Go.Sx
open Go
structure jI where
 e:Nat
 d:Nat
instance:Inhabited jI:=⟨⟨0,0⟩⟩
def jI.cells(x:jI):List Value:=[.int .i64 x.e,.int .i64 x.d]
abbrev AM:=List (Int×(Value×List jI))
theorem P4{m:AM}{N:Nat}(h:∀ c,(gh m c).2.length<=N)(a:Int)(v:Value)(x:jI):∀ c,(gh (gF m a (v,(gh m a).2++[x])) c).2.length<=N+1:=by
 intro c
 have d:=h a
 have b:=h c
 unfold gh
 rw[yD]
 split
 . show ((gh m a).2++[x]).length<=_
   rw[zp,zb,zg]
   omega
 . exact GY b
theorem Y5:∀ c,(gh ([]:AM) c).2.length<=0:=fun c=>zj 0
end Go.Sx
namespace Go.Sx
open Go
structure Lk where
 e:Nat
 t:Nat
 deriving Inhabited
structure Pl where
 v:Nat
 e:Int
 nx:Nat
 deriving Inhabited
structure ij where
 met:List Bool
 found:List Nat
 low:List Nat
 count:Nat
 stk:List Pl
 out:List Int
def ij.enter(M:ij)(v:Nat)(e:Int):ij :=
 { M with count:=M.count+1,found:=fM M.found v (fun _=>M.count+1),low:=fM M.low v (fun _=>M.count+1),stk:=M.stk++[⟨v,e,0⟩] }
def ij.bump(M:ij):ij:={ M with stk:=fM M.stk (M.stk.length-1) fun p=>{ p with nx:=p.nx+1 } }
def ij.look(A:List (List Lk))(M:ij):ij :=
 let p:=fJ M.stk (M.stk.length-1)
 let l:=fJ (fJ A p.v) p.nx
 let a:=M.bump
 if fJ M.met l.e=true then a
 else
  let b:ij:={ a with met:=fM a.met l.e fun _=>true }
  if fJ M.found l.t=0 then b.enter l.t (l.e:Int)else { b with low:=fM b.low p.v fun _=>min (fJ M.low p.v) (fJ M.found l.t) }
def ij.pop(M:ij):ij :=
 let p:=fJ M.stk (M.stk.length-1)
 let S:=M.stk.take (M.stk.length-1)
 if S.length=0 then { M with stk:=S }
 else
  let u:=(fJ S (S.length-1)).v
  { M with stk:=S,low:=fM M.low u (fun _=>min (fJ M.low u) (fJ M.low p.v)),out:=if fJ M.low p.v<=fJ M.found u then M.out else M.out++[p.e] }
def ij.tick(A:List (List Lk))(M:ij):ij :=
 if (fJ M.stk (M.stk.length-1)).nx<(fJ A (fJ M.stk (M.stk.length-1)).v).length then M.look A else M.pop
structure k6 where
 r:Nat
 m:ij
def k6.tick(n:Nat)(A:List (List Lk))(Z:k6):k6 :=
 if Z.m.stk.length=0 then(if Z.r<n then(if fJ Z.m.found Z.r>0 then⟨Z.r+1,Z.m⟩else⟨Z.r+1,Z.m.enter Z.r (-1)⟩)else Z)else⟨Z.r,Z.m.tick A⟩
def k6.run(n:Nat)(A:List (List Lk))(Z:k6):Nat->k6
 | 0=>Z
 | k+1=>(k6.run n A Z k).tick n A
def k6.fin(n:Nat)(Z:k6):Prop:=n<=Z.r/\Z.m.stk.length=0
def ij.init(n m:Nat):ij:=⟨List.replicate m false,List.replicate n 0,List.replicate n 0,0,[],[]⟩
theorem k6.ZG{n:Nat}{A:List (List Lk)}{Z:k6}(h:Z.fin n):Z.tick n A=Z:=by
 unfold k6.tick
 rw[if_pos h.2,if_neg (by have:=h.1;omega)]
theorem k6.KX{n:Nat}{A:List (List Lk)}{Z:k6}{k:Nat}(h:(Z.run n A k).fin n):∀ d,Z.run n A (k+d)=Z.run n A k
 | 0=>rfl
 | d+1=>by
  show (Z.run n A (k+d)).tick n A=_
  rw[k6.KX h d,k6.ZG h]
theorem k6.uniq{n:Nat}{A:List (List Lk)}{Z:k6}{k j:Nat}(h:(Z.run n A k).fin n)(a:(Z.run n A j).fin n):Z.run n A k=Z.run n A j:=by
 rcases DF k j with q|q
 . have:=k6.KX h (j-k)
   rw[show k+(j-k)=j by omega]at this
   exact this.symm
 . have:=k6.KX a (k-j)
   rw[show j+(k-j)=k by omega]at this
   exact this
def mX(n m:Nat)(A:List (List Lk))(r:Nat)(M:ij):Prop:=∃ k,k6.run n A ⟨0,ij.init n m⟩ k=⟨r,M⟩
section
variable {n m r:Nat} {A:List (List Lk)} {M:ij}
theorem mX.start:mX n m A 0 (ij.init n m):=⟨0,rfl⟩
theorem mX.next(h:mX n m A r M){r2:Nat}{a:ij}(e:k6.tick n A ⟨r,M⟩=⟨r2,a⟩):mX n m A r2 a:=by
 obtain⟨k,b⟩:=h
 exact⟨k+1,by show k6.tick n A _=_;rw[b,e]⟩
theorem mX.skip(h:mX n m A r M)(a:M.stk.length=0)(c:r<n)(b:fJ M.found r>0):mX n m A (r+1) M:=h.next (by unfold k6.tick;rw[if_pos a,if_pos c,if_pos b])
theorem mX.root(h:mX n m A r M)(a:M.stk.length=0)(b:r<n)(c:fJ M.found r=0):mX n m A (r+1) (M.enter r (-1)):=h.next (by unfold k6.tick;rw[if_pos a,if_pos b,if_neg (by show ¬ fJ M.found r>0;omega)])
theorem mX.tk(h:mX n m A r M)(a:0<M.stk.length):mX n m A r (M.tick A):=h.next (by unfold k6.tick;rw[if_neg (by show ¬ M.stk.length=0;omega)])
theorem mX.uniq{a:ij}(h:mX n m A n M)(d:M.stk.length=0)(e:mX n m A n a)(f:a.stk.length=0):M=a:=by
 obtain⟨k,c⟩:=h
 obtain⟨j,b⟩:=e
 have:=k6.uniq (Z:=⟨0,ij.init n m⟩) (n:=n) (A:=A) (k:=k) (j:=j) (by rw[c];exact⟨zj _,d⟩) (by rw[b];exact⟨zj _,f⟩)
 rw[c,b]at this
 cases this
 rfl
end
structure DJ (n m:Nat) (A:List (List Lk)):Prop where
 len:A.length=n
 e:∀ v,v<n->∀ x∈fJ A v,x.e<m
 t:∀ v,v<n->∀ x∈fJ A v,x.t<n
structure ij.ok (n m:Nat) (A:List (List Lk)) (M:ij):Prop where
 ml:M.met.length=m
 fl:M.found.length=n
 ll:M.low.length=n
 cn:(M.found.filter fun x=>decide (0<x)).length=M.count
 st:M.out.length+M.stk.length<=M.count
 sv:∀ p∈M.stk,p.v<n/\p.nx<=(fJ A p.v).length/\p.e<(m:Int) /\ -1<=p.e
 se:∀ i,0<i->i<M.stk.length->0<=(fJ M.stk i).e
 ou:∀ x∈M.out,0<=x/\x<(m:Int)
 fb:∀ x∈M.found,x<=M.count
 lb:∀ x∈M.low,x<=M.count
theorem filter_le{l:List Nat}{p:Nat->Bool}:(l.filter p).length<=l.length:=tc _ _
section
variable {n m:Nat} {A:List (List Lk)} {M:ij}
theorem ij.ok.En(h:M.ok n m A):M.count<=n:=by
 have a:=h.cn
 have b:=h.fl
 have:=filter_le (l:=M.found) (p:=fun x=>decide (0<x))
 omega
theorem ij.Jo:(ij.init n m).ok n m A:=by
 refine⟨by simp[ij.init],by simp[ij.init],by simp[ij.init],?_,zj _,fun p hp=>absurd hp oV,fun i _ h=>absurd h (G1 i),fun x a=>absurd a oV,fun x a=>?_,fun x a=>?_⟩
 . show ((List.replicate n 0).filter _).length=0
   rw[BF.2 (fun x a=>by rw[(DB.1 a).2];decide)]
   rfl
 . rw[(DB.1 a).2];exact lD _
 . rw[(DB.1 a).2];exact lD _
theorem ZE{l:List Nat}{v c:Nat}(hv:v<l.length)(h:fJ l v=0)(i:0<c):((fM l v fun _=>c).filter fun x=>decide (0<x)).length=(l.filter fun x=>decide (0<x)).length+1:=by
 have g:l[v]=0:=(iK (zm hv)).symm.trans h
 have d:l=l.take v++0 :: l.drop (v+1):=by
  rw[<-g,<-zJ hv,tf]
 have j:(l.take v).length=v:=by rw[zw];omega
 have e:=zA (a:=l.take v) (b:=l.drop (v+1)) (x:=0) (y:=c) (f:=fun _=>c) rfl
 rw[<-d,j]at e
 rw[e]
 conv=>rhs;rw[d]
 simp[qI,i]
 omega
theorem ul{α:Type}[Inhabited α]{l:List α}{k:Nat}{f:α->α}{n:Nat}(h:l.length=n):(fM l k f).length=n:=gx.trans h
theorem uY{α:Type}[Inhabited α]{l:List α}{k:Nat}{f:α->α}{x:α}(h:x∈fM l k f):x∈l\/x=f (fJ l k):=Mj h
theorem nj{α:Type}[Inhabited α]{l:List α}{k:Nat}(h:k<l.length):fJ l k∈l:=zd (gy h)
theorem ij.ok.enter(h:M.ok n m A){v:Nat}{e:Int}(hv:v<n)(b:fJ M.found v=0)(c:e<(m:Int))(d : -1<=e)(g:0<M.stk.length->0<=e):(M.enter v e).ok n m A:=by
 have r:=h.st
 unfold ij.enter
 refine⟨h.ml,ul (k:=v) (f:=fun _=>M.count+1) h.fl,ul (k:=v) (f:=fun _=>M.count+1) h.ll,?_,?_,fun p hp=>?_,fun i hi j=>?_,h.ou,fun x a=>?_,fun x a=>?_⟩
 . exact(ZE (by rw[h.fl];exact hv) b (Nat.succ_pos _)).trans (congrArg (· + 1) h.cn)
 . show M.out.length+(M.stk++[_]).length<=M.count+1
   rw[zp]
   show M.out.length+(M.stk.length+1)<=_
   omega
 . rcases zn.1 hp with hp|hp
   . exact h.sv p hp
   . rw[z8]at hp
     subst hp
     exact⟨hv,lD _,c,d⟩
 . have o:i<M.stk.length+1:=by
    have:(M.stk++[(⟨v,e,0⟩:Pl)]).length=M.stk.length+1:=by simp
    rw[<-this];exact j
   show (0:Int)<=(fJ (M.stk++[(⟨v,e,0⟩:Pl)]) i).e
   by_cases q:i<M.stk.length
   . rw[show fJ (M.stk++[(⟨v,e,0⟩:Pl)]) i=fJ M.stk i from iK (by rw[Dq q,gy q])]
     exact h.se i hi q
   . rw[show fJ (M.stk++[(⟨v,e,0⟩:Pl)]) i=⟨v,e,0⟩ from iK (by rw[Mh o_,show i-M.stk.length=0 by omega];rfl)]
     exact g o_
 . rcases uY (l:=M.found) (k:=v) (f:=fun _=>M.count+1) a with a|rfl
   . exact GY (h.fb x a)
   . exact zj _
 . rcases uY (l:=M.low) (k:=v) (f:=fun _=>M.count+1) a with a|rfl
   . exact GY (h.lb x a)
   . exact zj _
theorem ij.ok.bump(h:M.ok n m A)(g:0<M.stk.length)(d:(fJ M.stk (M.stk.length-1)).nx<(fJ A (fJ M.stk (M.stk.length-1)).v).length):M.bump.ok n m A:=by
 have b:=h.sv _ (nj (show M.stk.length-1<M.stk.length by omega))
 unfold ij.bump
 refine⟨h.ml,h.fl,h.ll,h.cn,?_,fun p hp=>?_,fun i hi c=>?_,h.ou,h.fb,h.lb⟩
 . show M.out.length+(fM M.stk (M.stk.length-1) fun p:Pl=>{ p with nx:=p.nx+1 }).length<=M.count
   rw[gx]
   exact h.st
 . rcases uY (l:=M.stk) (k:=M.stk.length-1) (f:=fun p:Pl=>{ p with nx:=p.nx+1 }) hp with hp|rfl
   . exact h.sv p hp
   . exact⟨b.1,d,b.2.2⟩
 . have a:i<M.stk.length:=by
    have:(fM M.stk (M.stk.length-1) fun p=>{ p with nx:=p.nx+1 }).length=M.stk.length:=gx ..
    rw[<-this];exact c
   show 0<=(fJ (fM M.stk (M.stk.length-1) fun p=>{ p with nx:=p.nx+1 }) i).e
   rw[jy o_]
   split
   . rename_i e
     rw[e]
     exact h.se i hi a
   . exact h.se i hi a
theorem ij.ok.look(h:M.ok n m A)(d:DJ n m A)(g:0<M.stk.length)(b:(fJ M.stk (M.stk.length-1)).nx<(fJ A (fJ M.stk (M.stk.length-1)).v).length):(M.look A).ok n m A:=by
 have c:=h.sv _ (nj (show M.stk.length-1<M.stk.length by omega))
 have hb:=h.bump g b
 have hm:=nj b
 have o:=d.e _ c.1 _ hm
 have j:=d.t _ c.1 _ hm
 unfold ij.look
 simp only
 split
 . exact hb
 . have a:ij.ok n m A { M.bump with met:=fM M.bump.met (fJ (fJ A (fJ M.stk (M.stk.length-1)).v) (fJ M.stk (M.stk.length-1)).nx).e fun _=>true }:=⟨ul (k:=(fJ (fJ A (fJ M.stk (M.stk.length-1)).v) (fJ M.stk (M.stk.length-1)).nx).e) (f:=fun _=>true) hb.ml,hb.fl,hb.ll,hb.cn,hb.st,hb.sv,hb.se,hb.ou,hb.fb,hb.lb⟩
   split
   . rename_i i
     exact a.enter j i o_ o_ fun _=>by omega
   . refine⟨a.ml,a.fl,ul (k:=(fJ M.stk (M.stk.length-1)).v) (f:=fun _=>min (fJ M.low (fJ M.stk (M.stk.length-1)).v) (fJ M.found (fJ (fJ A (fJ M.stk (M.stk.length-1)).v) (fJ M.stk (M.stk.length-1)).nx).t)) a.ll,a.cn,a.st,a.sv,a.se,a.ou,a.fb,fun x b=>?_⟩
     rcases uY (l:=M.bump.low) (k:=(fJ M.stk (M.stk.length-1)).v) (f:=fun _=>min (fJ M.low (fJ M.stk (M.stk.length-1)).v) (fJ M.found (fJ (fJ A (fJ M.stk (M.stk.length-1)).v) (fJ M.stk (M.stk.length-1)).nx).t)) b with b|rfl
     . exact a.lb x b
     . exact kz (Nat.min_le_left _ _) (h.lb _ (nj (by rw[h.ll];exact c.1)))
theorem ij.ok.pop(h:M.ok n m A)(s:0<M.stk.length):M.pop.ok n m A:=by
 have u:=h.st
 have o:=h.sv _ (nj (show M.stk.length-1<M.stk.length by omega))
 have b:(M.stk.take (M.stk.length-1)).length=M.stk.length-1:=by rw[zw];omega
 have c:∀ p∈M.stk.take (M.stk.length-1),p.v<n/\p.nx<=(fJ A p.v).length/\p.e<(m:Int) /\ -1<=p.e:=fun p hp=>h.sv p (Mu hp)
 have j:∀ i,i<M.stk.length-1->fJ (M.stk.take (M.stk.length-1)) i=fJ M.stk i:=fun i hi=>iK (by rw[Dr hi,gy o_])
 have d:∀ i,0<i->i<(M.stk.take (M.stk.length-1)).length->0<=(fJ (M.stk.take (M.stk.length-1)) i).e:=fun i hi t=>by
  rw[j i o_]
  exact h.se i hi o_
 unfold ij.pop
 simp only
 split
 . exact⟨h.ml,h.fl,h.ll,h.cn,by show M.out.length+(M.stk.take (M.stk.length-1)).length<=M.count;rw[b];omega,c,d,h.ou,h.fb,h.lb⟩
 . rename_i g
   rw[b]at g
   have q:(fJ (M.stk.take (M.stk.length-1)) ((M.stk.take (M.stk.length-1)).length-1)).v<n:=(c _ (nj o_)).1
   refine⟨h.ml,h.fl,ul (k:=(fJ (M.stk.take (M.stk.length-1)) ((M.stk.take (M.stk.length-1)).length-1)).v) (f:=fun _=>min (fJ M.low ((fJ (M.stk.take (M.stk.length-1)) ((M.stk.take (M.stk.length-1)).length-1)).v)) (fJ M.low (fJ M.stk (M.stk.length-1)).v)) h.ll,h.cn,?_,c,d,fun x a=>?_,h.fb,fun x a=>?_⟩
   . show (if _ then M.out else M.out++[_]).length+(M.stk.take (M.stk.length-1)).length<=M.count
     rw[b]
     split
     . omega
     . rw[zp,Dx];omega
   . have r:x∈M.out\/x=(fJ M.stk (M.stk.length-1)).e:=by
      revert a
      show x∈(if _ then M.out else M.out++[_])->_
      split
      . exact .inl
      . intro a
        rcases zn.1 a with a|a
        . exact .inl a
        . exact .inr (z8.1 a)
     rcases r with a|rfl
     . exact h.ou x a
     . exact⟨h.se _ o_ o_,o.2.2.1⟩
   . rcases uY (l:=M.low) (k:=(fJ (M.stk.take (M.stk.length-1)) ((M.stk.take (M.stk.length-1)).length-1)).v) (f:=fun _=>min (fJ M.low ((fJ (M.stk.take (M.stk.length-1)) ((M.stk.take (M.stk.length-1)).length-1)).v)) (fJ M.low (fJ M.stk (M.stk.length-1)).v)) a with a|rfl
     . exact h.lb x a
     . exact kz (Nat.min_le_left _ _) (h.lb _ (nj (by rw[h.ll];exact q)))
theorem ij.ok.tick(h:M.ok n m A)(b:DJ n m A)(a:0<M.stk.length):(M.tick A).ok n m A:=by
 unfold ij.tick
 split
 . rename_i c;exact h.look b a c
 . exact h.pop a
end
end Go.Sx
namespace Go.Sx
open Go
structure gE where
 gN:List Int
 mem:List (List Nat)
 low:Nat
def pe:List Nat->Nat
 | []=>0
 | [x]=>x
 | x :: y :: l=>min x (pe (y :: l))
def gE.left(B:gE)(i:Nat):List Nat:=(fJ B.mem i).filter fun u=>decide (fJ B.gN u=(i:Int))
def gE.scan(B:gE):Nat->gE×Option Nat
 | 0=>(B,none)
 | f+1 =>
  if B.low<B.mem.length then
   let l:=B.left B.low
   let a:gE:={ B with mem:=fM B.mem B.low fun _=>l }
   if l.length=0 then gE.scan { a with low:=B.low+1 } f else(a,some (pe l))
  else(B,none)
def gE.take(B:gE):gE×Option Nat :=
 match B.scan (B.mem.length-B.low)with
 | (B2,some v)=>({ B2 with gN:=fM B2.gN v fun _ => -1 },some v)
 | (B2,none)=>(B2,none)
def gE.lose(B:gE)(v:Nat):gE :=
 if fJ B.gN v<=0 then B
 else
  let d:=(fJ B.gN v-1).toNat
  ⟨fM B.gN v (fun x=>x-1),fM B.mem d (fun l=>l++[v]),min B.low d⟩
def gE.q7(B:gE)(l:List Lk):gE:=l.foldl (fun B x=>B.lose x.t) B
structure jN where
 b:gE
 top:Nat
 num:List Nat
def jN.step(A:List (List Lk))(N:jN):Option jN :=
 match N.b.take with
 | (B,some v)=>some ⟨B.q7 (fJ A v),max N.top B.low,fM N.num v fun _=>max N.top B.low⟩
 | (_,none)=>none
def jN.run(A:List (List Lk)):Nat->jN->jN
 | 0,N=>N
 | k+1,N=>match N.step A with
  | some N2=>jN.run A k N2
  | none=>N
def LQ(A:List (List Lk))(n:Nat):Nat:=(List.range n).foldl (fun g v=>max g (fJ A v).length) 0
def gE.init(A:List (List Lk))(n:Nat):gE:=⟨(List.range n).map fun v=>((fJ A v).length:Int),(List.range (LQ A n+1)).map fun d=>(List.range n).filter fun v=>decide ((fJ A v).length=d),0⟩
def tT(A:List (List Lk))(n:Nat):List Nat:=(jN.run A n ⟨gE.init A n,0,List.replicate n 0⟩).num
structure gE.ok (n:Nat) (B:gE) (c:Nat):Prop where
 dl:B.gN.length=n
 dv:∀ x∈B.gN,-1<=x/\x<(B.mem.length:Int)
 mv:∀ l∈B.mem,l.length<=n+c/\∀ u∈l,u<n
 lo:B.low<=B.mem.length
theorem JI:∀ {l:List Nat},l.length≠0->pe l∈l
 | [],h=>absurd rfl h
 | [x],_=>z8.2 rfl
 | x :: y :: l,_=>by
  have a:=JI (l:=y :: l) s_
  show min x (pe (y :: l))∈_
  rcases DF x (pe (y :: l))with q|q
  . rw[xu q];exact za
  . rw[Nat.min_eq_right q];exact oS _ a
theorem Q0:∀ (l:List Nat) (x:Nat),l.length≠0->pe (l++[x])=min (pe l) x
 | [],_,h=>absurd rfl h
 | [y],x,_=>rfl
 | y :: z :: l,x,_=>by
  have a:=Q0 (z :: l) x s_
  show min y (pe ((z :: l)++[x]))=min (min y (pe (z :: l))) x
  rw[a,Nat.min_assoc]
section
variable {n c:Nat} {B:gE}
theorem gE.ok.clean(h:B.ok n c):gE.ok n { B with mem:=fM B.mem B.low fun _=>B.left B.low } c:=by
 refine⟨h.dl,fun x d=>?_,fun l a=>?_,?_⟩
 . show -1<=x/\x<((fM B.mem B.low fun _=>B.left B.low).length:Int)
   rw[gx];exact h.dv x d
 . by_cases hb:B.low<B.mem.length
   . rcases uY (l:=B.mem) (k:=B.low) (f:=fun _=>B.left B.low) a with a|rfl
     . exact h.mv l a
     . have:=h.mv _ (nj hb)
       exact⟨kz (tc _ _) this.1,fun u b=>this.2 u (z6.1 b).1⟩
   . have e:fM B.mem B.low (fun _=>B.left B.low)=B.mem:=List.set_eq_of_length_le o_
     exact h.mv l (by rw[<-e];exact a)
 . show B.low<=(fM B.mem B.low fun _=>B.left B.low).length
   rw[gx];exact h.lo
theorem gE.ok.scan:∀ (f:Nat) {B:gE},B.ok n c->(B.scan f).1.ok n c/\(B.scan f).1.mem.length=B.mem.length/\∀ v,(B.scan f).2=some v->v<n/\(B.scan f).1.low<B.mem.length
 | 0,B,h=>⟨h,rfl,fun v e=>by cases e⟩
 | f+1,B,h=>by
  unfold gE.scan
  split
  . rename_i hb
    have a:(fM B.mem B.low fun _=>B.left B.low).length=B.mem.length:=gx
    simp only
    split
    . have g:gE.ok n { B with mem:=fM B.mem B.low fun _=>B.left B.low,low:=B.low+1 } c:=⟨h.clean.dl,h.clean.dv,h.clean.mv,by show B.low+1<=(fM B.mem B.low fun _=>B.left B.low).length;rw[a];omega⟩
      have b:=gE.ok.scan f g
      refine⟨b.1,b.2.1.trans a,fun v e=>⟨(b.2.2 v e).1,?_⟩⟩
      have:=(b.2.2 v e).2
      rw[<-a];exact this
    . rename_i d
      refine⟨h.clean,a,fun v e=>?_⟩
      cases e
      have hm:=JI d
      exact⟨(h.mv _ (nj hb)).2 _ (z6.1 hm).1,hb⟩
  . exact⟨h,rfl,fun v e=>by cases e⟩
theorem gE.ok.lose(h:B.ok n c){v:Nat}(hv:v<n):(B.lose v).ok n (c+1):=by
 have hd:=h.dv _ (nj (l:=B.gN) (k:=v) (by rw[h.dl];exact hv))
 unfold gE.lose
 split
 . exact⟨h.dl,h.dv,fun l a=>⟨kz (h.mv l a).1 o_,(h.mv l a).2⟩,h.lo⟩
 . rename_i e
   simp only
   have a:(fM B.mem (fJ B.gN v-1).toNat fun l=>l++[v]).length=B.mem.length:=gx
   refine⟨ul (k:=v) (f:=fun x=>x-1) h.dl,fun x d=>?_,fun l hm=>?_,?_⟩
   . show -1<=x/\x<((fM B.mem (fJ B.gN v-1).toNat fun l=>l++[v]).length:Int)
     rw[a]
     rcases uY (l:=B.gN) (k:=v) (f:=fun x=>x-1) d with d|rfl
     . exact h.dv x d
     . exact⟨o_,o_⟩
   . rcases uY (l:=B.mem) (k:=(fJ B.gN v-1).toNat) (f:=fun l=>l++[v]) hm with hm|rfl
     . exact⟨kz (h.mv l hm).1 o_,(h.mv l hm).2⟩
     . have:=h.mv _ (nj (l:=B.mem) (k:=(fJ B.gN v-1).toNat) o_)
       refine⟨by rw[zp,Dx];omega,fun u b=>?_⟩
       rcases zn.1 b with b|b
       . exact this.2 u b
       . rw[z8.1 b];exact hv
   . show min B.low _<=(fM B.mem (fJ B.gN v-1).toNat fun l=>l++[v]).length
     rw[a]
     exact kz (Nat.min_le_left _ _) h.lo
theorem gE.ok.take(h:B.ok n c):B.take.1.ok n c/\∀ v,B.take.2=some v->v<n/\B.take.1.low<B.mem.length:=by
 have hs:=gE.ok.scan (B.mem.length-B.low) h
 unfold gE.take
 generalize B.scan (B.mem.length-B.low)=z at hs
 obtain⟨b,o⟩:=z
 cases o with
 | none=>exact⟨hs.1,fun v e=>by cases e⟩
 | some v =>
  have hv:=hs.2.2 v rfl
  refine⟨⟨ul (k:=v) (f:=fun _ => -1) hs.1.dl,fun x a=>?_,hs.1.mv,hs.1.lo⟩,fun u e=>?_⟩
  . rcases uY (l:=b.gN) (k:=v) (f:=fun _ => -1) a with a|rfl
    . exact hs.1.dv x a
    . exact⟨BO _,by show (-1:Int)<(b.mem.length:Int);omega⟩
  . cases e
    exact hv
end
end Go.Sx
namespace Go.Sx
open Go
def kV(n:Nat)(es:List Ge)(v:Nat):List Nat:=((wv n es).drop (fJ (mA n es) v)).take (fJ (mA n es) (v+1)-fJ (mA n es) v)
def E9(es:List Ge)(v i:Nat):Lk:=⟨i,if (fJ es i).v=v then(fJ es i).u else(fJ es i).v⟩
def iV(n:Nat)(es:List Ge)(v:Nat):List Lk:=(kV n es v).map (E9 es v)
def gK(n:Nat)(es:List Ge):List (List Lk):=(List.range n).map (iV n es)
section
variable {n v:Nat} {es:List Ge}
theorem vj(h:v<n):fJ (mA n es) v<=fJ (mA n es) (v+1)/\fJ (mA n es) (v+1)<=2*es.length:=by
 rw[Lm (show v<=n by omega),Lm (show v+1<=n by omega)]
 have b:=JM (iY es) v
 have a:=JL (iY es) (v+1)
 rw[tL]at a
 omega
theorem Ar(h:v<n):(kV n es v).length=fJ (mA n es) (v+1)-fJ (mA n es) v:=by
 have:=vj (es:=es) h
 unfold kV
 rw[zw,BK,JN]
 omega
theorem NS{i:Nat}(h:i∈kV n es v):i<es.length:=abo _ (List.mem_of_mem_drop (Mu h))
theorem xL:(iV n es v).length=(kV n es v).length:=zq _
theorem UY{j:Nat}(a:j<(kV n es v).length):fJ (iV n es v) j=E9 es v (fJ (kV n es v) j):=iK (by unfold iV;rw[zx,gy a];rfl)
theorem NI:(gK n es).length=n:=by simp[gK]
theorem Aq(h:v<n):fJ (gK n es) v=iV n es v:=iK (by unfold gK;rw[zx,ox h];rfl)
theorem NJ(c:mj n es):DJ n es.length (gK n es):=by
 have key:∀ v,v<n->∀ x∈fJ (gK n es) v,x.e<es.length/\x.t<n:=fun v hv x a=>by
  rw[Aq hv]at a
  obtain⟨i,hi,rfl⟩:=zy.1 a
  have b:=NS hi
  have:=c.at b
  refine⟨b,?_⟩
  show (if (fJ es i).v=v then(fJ es i).u else(fJ es i).v)<n
  split
  . exact this.1
  . exact this.2.1
 exact⟨NI,fun v hv x a=>(key v hv x a).1,fun v hv x a=>(key v hv x a).2⟩
end
end Go.Sx
namespace Go.Sx
open Go
section
variable {n m r k vv le lt:Nat} {ee:Int} {A:List (List Lk)} {N N2:ij}
def pN(n m:Nat)(A:List (List Lk))(r:Nat)(N:ij):Prop:=mX n m A r N/\N.ok n m A
theorem pN.start:pN n m A 0 (ij.init n m):=⟨mX.start,ij.Jo⟩
theorem pN.tk(h:pN n m A r N)(a:DJ n m A)(hk:N.stk.length=k+1)(e:N.tick A=N2):pN n m A r N2:=by
 subst e
 exact⟨h.1.tk o_,h.2.tick a o_⟩
theorem pN.root(h:pN n m A r N)(c:N.stk.length=0)(b:r<n)(a:fJ N.found r=0):pN n m A (r+1) (N.enter r (-1)):=⟨h.1.root c b a,h.2.enter b a o_ o_ (fun h=>by omega)⟩
theorem pN.skip(h:pN n m A r N)(a:N.stk.length=0)(b:r<n)(c:fJ N.found r≠0):pN n m A (r+1) N:=⟨h.1.skip a b o_,h.2⟩
structure tw (A:List (List Lk)) (N:ij) (k vv:Nat) (ee:Int):Prop where
 l:N.stk.length=k+1
 v:(fJ N.stk k).v=vv
 e:(fJ N.stk k).e=ee
theorem LO(a:tw A N k vv ee)(b:(fJ N.stk k).nx<(fJ A vv).length):N.tick A=N.look A:=by
 unfold ij.tick
 rw[a.l,vC,a.v,if_pos b]
theorem afO(a:tw A N k vv ee)(b:(fJ A vv)[(fJ N.stk k).nx]? = some ⟨le,lt⟩)(hm:fJ N.met le=true) :
 N.tick A=⟨N.met,N.found,N.low,N.count,fM N.stk k (fun x=>{ x with nx:=(fJ N.stk k).nx+1 }),N.out⟩:=by
 rw[LO a (zh.1 b).1]
 unfold ij.look ij.bump
 simp only[a.l,vC,a.v,iK b,hm,if_true]
 rfl
theorem afM(a:tw A N k vv ee)(b:(fJ A vv)[(fJ N.stk k).nx]? = some ⟨le,lt⟩)(hm:fJ N.met le≠true)(c:fJ N.found lt=0) :
 N.tick A=ij.enter ⟨fM N.met le (fun _=>true),N.found,N.low,N.count,fM N.stk k (fun x=>{ x with nx:=(fJ N.stk k).nx+1 }),N.out⟩ lt (le:Int):=by
 rw[LO a (zh.1 b).1]
 unfold ij.look ij.bump
 simp only[a.l,vC,a.v,iK b,hm,c,if_true,if_false]
 rfl
theorem afN(a:tw A N k vv ee)(b:(fJ A vv)[(fJ N.stk k).nx]? = some ⟨le,lt⟩)(hm:fJ N.met le≠true)(c:fJ N.found lt≠0) :
 N.tick A=⟨fM N.met le (fun _=>true),N.found,fM N.low vv (fun _=>min (fJ N.low vv) (fJ N.found lt)),N.count,fM N.stk k (fun x=>{ x with nx:=(fJ N.stk k).nx+1 }),N.out⟩:=by
 rw[LO a (zh.1 b).1]
 unfold ij.look ij.bump
 simp only[a.l,vC,a.v,iK b,hm,c,if_false]
 rfl
theorem afQ(a:tw A N k vv ee)(b:k=0)(c:¬ (fJ N.stk k).nx<(fJ A vv).length):N.tick A=⟨N.met,N.found,N.low,N.count,N.stk.take k,N.out⟩:=by
 subst b
 unfold ij.tick
 rw[a.l,vC,a.v,if_neg c]
 unfold ij.pop
 simp only[a.l,vC,List.take_zero,zg,if_true]
theorem afP{b:Bool}(a:tw A N k vv ee)(g:0<k)(f:¬ (fJ N.stk k).nx<(fJ A vv).length)(hb:b=decide (fJ N.low vv<=fJ N.found (fJ (N.stk.take k) (k-1)).v)) :
 N.tick A=⟨N.met,N.found,fM N.low (fJ (N.stk.take k) (k-1)).v (fun _=>min (fJ N.low (fJ (N.stk.take k) (k-1)).v) (fJ N.low vv)),N.count,N.stk.take k,bif b then N.out else N.out++[ee]⟩:=by
 have d:(N.stk.take k).length=k:=by rw[zw,a.l];omega
 have c:=a.e
 unfold ij.tick
 rw[a.l,vC,a.v,if_neg f]
 unfold ij.pop
 simp only[a.l,vC,d,if_neg (show ¬ k=0 by omega),a.v]
 subst hb
 subst c
 by_cases q:fJ N.low vv<=fJ N.found (fJ (N.stk.take k) (k-1)).v
 . simp[q]
 . simp[q]
theorem abn{l:List Nat}{u v:Nat}(a:u<l.length):fJ (fM l u (fun _=>min (fJ l u) (fJ l v))) v=fJ l v:=by
 rw[jy a]
 split
 . rename_i e;subst e;exact Nat.min_self _
 . rfl
theorem tw.bump{met:List Bool}{found low:List Nat}{count:Nat}{out:List Int}(h:tw A N k vv ee){c:Nat}:tw A ⟨met,found,low,count,fM N.stk k (fun x=>{ x with nx:=c }),out⟩ k vv ee:=by
 have a:=h.l
 refine⟨(gx (xs:=N.stk) (k:=k) (f:=fun x=>{ x with nx:=c })).trans a,?_,?_⟩
 . show (fJ (fM N.stk k (fun x=>{ x with nx:=c })) k).v=vv
   rw[jS o_];exact h.v
 . show (fJ (fM N.stk k (fun x=>{ x with nx:=c })) k).e=ee
   rw[jS o_];exact h.e
end
def BQ(n:Nat)(es:List Ge)(l:List Int):Prop:=∃ N,mX n es.length (gK n es) n N/\N.stk.length=0/\N.out=l
theorem BQ.uniq{n:Nat}{es:List Ge}{l a:List Int}(h:BQ n es l)(b:BQ n es a):l=a:=by
 obtain⟨N,c,d,rfl⟩:=h
 obtain⟨N2,e,f,rfl⟩:=b
 rw[c.uniq d e f]
end Go.Sx
namespace Go.Sx
open Go
theorem NQ{ys:List Int}(hs:ys.Pairwise fun a b=>a<b){i j:Nat}(hi:i<ys.length)(c:j<ys.length)(h:fJ ys i=fJ ys j):i=j:=by
 have hp:=uq.1 hs
 rw[iK (zm hi),iK (zm c)]at h
 rcases GZ i j with q|q|q
 . have:=hp i j hi c q;omega
 . exact q
 . have:=hp j i c hi q;omega
theorem Ge.ext{a b:Ge}(c:a.u=b.u)(hv:a.v=b.v)(d:a.w=b.w):a=b:=by
 cases a;cases b;simp_all
theorem kN.uniq{ids:List Int}{L:List Lv}{es c:List Ge}(hs:ids.Pairwise fun a b=>a<b)(h:kN ids L es L.length)(d:kN ids L c L.length):es=c:=by
 have e:=h.len
 have f:=d.len
 refine mW fun i=>?_
 by_cases hi:i<L.length
 . rw[gy o_,gy o_]
   have a:=h.fst i hi
   have b:=d.fst i hi
   exact congrArg some (Ge.ext (NQ hs a.ul b.ul (a.u.trans b.u.symm)) (NQ hs a.vl b.vl (a.v.trans b.v.symm)) (a.w.trans b.w.symm))
 . grind
end Go.Sx
namespace Go.Sx
open Go
structure oZ (P:Nat->Bool) (l:List Nat) (i k:Nat) (zs:List Nat):Prop where
 len:zs.length=l.length
 ki:k<=i
 il:i<=l.length
 kept:zs.take k=(l.take i).filter P
 rest:zs.drop i=l.drop i
section
variable {P:Nat->Bool} {l zs:List Nat} {i k:Nat}
theorem oZ.start:oZ P l 0 0 l:=⟨rfl,zj _,lD _,s_,rfl⟩
theorem oZ.at_(h:oZ P l i k zs)(hi:i<l.length):fJ zs i=fJ l i:=by
 have a:=congrArg (fun l=>l[0]?) h.rest
 simp only[Dz,pM]at a
 unfold fJ
 rw[a]
theorem Br{l:List Nat}{i:Nat}(hi:i<l.length):l.take (i+1)=l.take i++[fJ l i]:=by
 rw[oU,gy hi]
 rfl
theorem OH{l zs:List Nat}{i:Nat}(h:zs.drop i=l.drop i):zs.drop (i+1)=l.drop (i+1):=by
 have:=congrArg (List.drop 1) h
 rwa [zdt,zdt]at this
theorem oZ.skip(h:oZ P l i k zs)(hi:i<l.length)(hp:P (fJ l i)=false):oZ P l (i+1) k zs :=
 ⟨h.len,GY h.ki,hi,by rw[Br hi,qI,h.kept];simp[hp],OH h.rest⟩
theorem oZ.keep(h:oZ P l i k zs)(hi:i<l.length)(hp:P (fJ l i)=true){u:Nat}(d:u=fJ l i):oZ P l (i+1) (k+1) (fM zs k fun _=>u):=by
 subst d
 have c:k<zs.length:=by have:=h.len;have:=h.ki;omega
 have e:=h.ki
 refine⟨gx.trans h.len,Nat.succ_le_succ h.ki,hi,?_,?_⟩
 . rw[Br hi,qI,<-h.kept]
   have a:(fM zs k fun _=>fJ l i).take (k+1)=zs.take k++[fJ l i]:=by
    apply mW
    intro j
    rw[uu,GR,zw,xu o_]
    unfold fM
    rw[vD]
    by_cases hj:j<k
    . rw[if_pos o_,if_neg o_,if_pos hj,Dr hj]
    . by_cases hj2:j=k
      . subst hj2
        rw[if_pos o_,if_pos rfl,if_pos c,if_neg o_]
        simp
      . rw[if_neg o_,if_neg hj,pK (by simp;omega)]
   rw[a]
   simp[hp]
 . have b:(fM zs k fun _=>fJ l i).drop (i+1)=zs.drop (i+1):=by
    unfold fM
    rw[List.drop_set_of_lt o_]
   rw[b]
   exact OH h.rest
theorem oZ.aaP(h:oZ P l i k zs):((l.take i).filter P).length=k:=by
 have a:=h.len
 have b:=h.ki
 have c:=h.il
 rw[<-h.kept,zw]
 omega
theorem oZ.done(h:oZ P l l.length k zs):zs.take k=l.filter P:=by rw[h.kept,tq]
end
def lH(l:List Nat):Int:=if l.length=0 then -1 else(pe l:Int)
theorem abt:lH [] = -1:=rfl
theorem JP{l:List Nat}{x:Nat}:lH (l++[x])=if lH l<0\/(x:Int)<lH l then(x:Int)else lH l:=by
 by_cases h:l.length=0
 . obtain rfl:=xo h
   rw[if_pos (.inl (by rw[abt];omega))]
   rfl
 . have e1:lH (l++[x])=((min (pe l) x:Nat):Int):=by
    unfold lH
    rw[if_neg s_,Q0 _ _ h]
   have a:lH l=(pe l:Int):=if_neg h
   rw[e1,a]
   split<;>omega
theorem JO{l:List Nat}:lH l<0↔l.length=0:=by
 unfold lH
 split
 . rename_i h;exact⟨fun _=>h,fun _=>by omega⟩
 . rename_i h;exact⟨fun a=>by omega,fun a=>absurd a h⟩
theorem gE.aeA{B:gE}(h:B.low<B.mem.length)(a:(B.left B.low).length=0):B.scan (B.mem.length-B.low)=gE.scan ⟨B.gN,fM B.mem B.low (fun _=>B.left B.low),B.low+1⟩ ((fM B.mem B.low fun _=>B.left B.low).length-(B.low+1)):=by
 have e:B.mem.length-B.low=(B.mem.length-(B.low+1))+1:=by omega
 rw[e,gx]
 conv=>lhs;unfold gE.scan
 rw[if_pos h]
 simp only
 rw[if_pos a]
theorem gE.aez{B:gE}(h:B.low<B.mem.length)(a:(B.left B.low).length≠0):B.scan (B.mem.length-B.low)=(⟨B.gN,fM B.mem B.low (fun _=>B.left B.low),B.low⟩,some (pe (B.left B.low))):=by
 have e:B.mem.length-B.low=(B.mem.length-(B.low+1))+1:=by omega
 rw[e]
 conv=>lhs;unfold gE.scan
 rw[if_pos h]
 simp only
 rw[if_neg a]
theorem gE.aey{B:gE}(h:¬ B.low<B.mem.length):B.scan (B.mem.length-B.low)=(B,none):=by
 rw[show B.mem.length-B.low=0 by omega]
 rfl
theorem gE.afx{B a:gE}{v:Nat}(h:B.scan (B.mem.length-B.low)=(a,some v)):B.take=(⟨fM a.gN v (fun _ => -1),a.mem,a.low⟩,some v):=by
 unfold gE.take
 rw[h]
theorem gE.afv{B a:gE}(h:B.scan (B.mem.length-B.low)=(a,none)):B.take=(a,none):=by
 unfold gE.take
 rw[h]
theorem gE.abh{B:gE}{v:Nat}(h:fJ B.gN v<=0):B.lose v=B:=by unfold gE.lose;rw[if_pos h]
theorem gE.abj{B:gE}{v d:Nat}(h:¬ fJ B.gN v<=0)(hd:fJ B.gN v=(d:Int)+1):B.lose v=⟨fM B.gN v (fun _=>(d:Int)),fM B.mem d (fun l=>l++[v]),min B.low d⟩:=by
 unfold gE.lose
 rw[if_neg h]
 have e:(fJ B.gN v-1).toNat=d:=by omega
 simp only[e]
 congr 1
 show B.gN.set v (fJ B.gN v-1)=B.gN.set v (d:Int)
 rw[hd,Int.add_sub_cancel]
theorem gE.ok.more{n c a:Nat}{B:gE}(h:B.ok n c)(d:c<=a):B.ok n a:=⟨h.dl,h.dv,fun l b=>⟨kz (h.mv l b).1 o_,(h.mv l b).2⟩,h.lo⟩
theorem gE.abk{B:gE}{l:List Lk}{x:Lk}:B.q7 (l++[x])=(B.q7 l).lose x.t:=by
 unfold gE.q7
 rw[DC]
 rfl
theorem gE.abl{B:gE}{l:List Lk}{k:Nat}(h:k<l.length):B.q7 (l.take (k+1))=(B.q7 (l.take k)).lose (fJ l k).t:=by
 rw[oU,gy h]
 exact gE.abk
theorem gE.abg{B:gE}{v:Nat}:(B.lose v).mem.length=B.mem.length:=by
 unfold gE.lose
 split
 . rfl
 . simp only[gx]
theorem gE.Q7:∀ (l:List Lk) {B:gE},(B.q7 l).mem.length=B.mem.length
 | [],B=>rfl
 | x :: l,B=>(gE.Q7 l).trans gE.abg
theorem gE.ok.take_len{n c:Nat}{B:gE}(h:B.ok n c):B.take.1.mem.length=B.mem.length:=by
 have hs:=(gE.ok.scan (B.mem.length-B.low) h).2.1
 unfold gE.take
 generalize B.scan (B.mem.length-B.low)=z at hs
 obtain⟨a,o⟩:=z
 cases o with
 | none=>exact hs
 | some v=>exact hs
def k7(A:List (List Lk))(n:Nat)(k:Nat)(N:jN):Prop:=k<=n/\jN.run A n ⟨gE.init A n,0,List.replicate n 0⟩=jN.run A (n-k) N/\N.num.length=n
theorem k7.start{A:List (List Lk)}{n:Nat}:k7 A n 0 ⟨gE.init A n,0,List.replicate n 0⟩:=⟨lD _,rfl,qh⟩
theorem k7.next{A:List (List Lk)}{n k v:Nat}{N:jN}{B:gE}(h:k7 A n k N)(hk:k<n)(a:N.b.take=(B,some v)):k7 A n (k+1) ⟨B.q7 (fJ A v),max N.top B.low,fM N.num v fun _=>max N.top B.low⟩:=by
 refine⟨hk,h.2.1.trans ?_,(gx (xs:=N.num) (k:=v) (f:=fun _=>max N.top B.low)).trans h.2.2⟩
 rw[show n-k=(n-(k+1))+1 by omega]
 conv=>lhs;unfold jN.run
 unfold jN.step
 rw[a]
theorem k7.all{A:List (List Lk)}{n:Nat}{N:jN}(h:k7 A n n N):N.num=tT A n:=by
 unfold tT
 rw[h.2.1,Nat.sub_self]
 rfl
theorem k7.stop{A:List (List Lk)}{n k:Nat}{N:jN}{B:gE}(h:k7 A n k N)(a:N.b.take=(B,none)):N.num=tT A n:=by
 unfold tT
 rw[h.2.1]
 cases n-k with
 | zero=>rfl
 | succ j =>
  unfold jN.run jN.step
  rw[a]
def mK(A:List (List Lk))(n v:Nat):List Int:=(List.range n).map fun j=>if j<v then((fJ A j).length:Int)else 0
def kD(A:List (List Lk))(v:Nat):Nat:=(List.range v).foldl (fun g v=>max g (fJ A v).length) 0
section
variable {A:List (List Lk)} {n v:Nat}
theorem Ww:mK A n 0=List.replicate n 0:=by
 unfold mK
 apply mW
 intro j
 rw[zx,rD]
 by_cases h:j<n
 . rw[ox h,if_pos h];rfl
 . rw[pK (by rw[nu];omega),if_neg h];rfl
theorem Is:(mK A n v).length=n:=by simp[mK]
theorem Wv(hv:v<n):fM (mK A n v) v (fun _=>((fJ A v).length:Int))=mK A n (v+1):=by
 unfold mK fM
 apply mW
 intro j
 rw[vD,zx,zx,zq,nu]
 by_cases h:j<n
 . rw[ox h]
   by_cases e:v=j
   . subst e
     rw[if_pos rfl,if_pos h]
     simp
   . rw[if_neg e]
     show some (if j<v then _ else _)=some (if j<v+1 then _ else _)
     by_cases q:j<v
     . rw[if_pos q,if_pos o_]
     . rw[if_neg q,if_neg o_]
 . rw[pK (l:=List.range n) (by rw[nu];omega),if_neg o_]
   rfl
theorem Wt:mK A n n=(gE.init A n).gN:=by
 unfold mK gE.init
 exact Dy fun j a=>if_pos (lU.1 a)
theorem Wu{j:Nat}(a:j<n):fJ (mK A n n) j=((fJ A j).length:Int):=iK (by unfold mK;rw[zx,ox a];exact congrArg some (if_pos a))
theorem Oz(hv:v<n):fJ (mK A n (v+1)) v=((fJ A v).length:Int):=iK (by unfold mK;rw[zx,ox hv];exact congrArg some (if_pos (Nat.lt_succ_self _)))
theorem Gg:kD A (v+1)=max (kD A v) (fJ A v).length:=by
 unfold kD
 rw[rF,DC]
 rfl
theorem Gf:∀ {v j:Nat},j<v->(fJ A j).length<=kD A v
 | 0,j,h=>absurd h (G1 _)
 | v+1,j,h=>by
  rw[Gg]
  by_cases e:j=v
  . subst e;exact Nat.le_max_right _ _
  . exact kz (Gf (show j<v by omega)) (Nat.le_max_left _ _)
theorem LR{m:Nat}(h:∀ j,j<n->(fJ A j).length<=m):∀ {v:Nat},v<=n->kD A v<=m
 | 0,_=>lD _
 | v+1,hv=>by
  rw[Gg]
  exact Nat.max_le.2 ⟨LR h o_,h v o_⟩
def sJ(A:List (List Lk))(n v:Nat)(H:List (Value×List Nat)):Prop:=H.length=kD A n+1/\∀ d,d<kD A n+1->(fJ H d).2=(List.range v).filter fun j=>decide ((fJ A j).length=d)
theorem sJ.start{x:Value}:sJ A n 0 (List.replicate (kD A n+1) (x,[])):=⟨qh,fun d hd=>by rw[show fJ (List.replicate (kD A n+1) ((x,[]):Value×List Nat)) d=(x,[]) from iK (by rw[rD,if_pos hd])];rfl⟩
theorem sJ.next{H:List (Value×List Nat)}{sv:Value}{d:Nat}(h:sJ A n v H)(hv:v<n)(hd:d=(fJ A v).length):sJ A n (v+1) (fM H d fun _=>(sv,(fJ H d).2++[v])):=by
 have b:=Gf (A:=A) hv
 refine⟨gx.trans h.1,fun c a=>?_⟩
 rw[rF,qI]
 by_cases e:d=c
 . subst e
   rw[jS (by rw[h.1];omega)]
   show (fJ H d).2++[v]=_
   rw[h.2 d a]
   simp[hd]
 . rw[kS e,h.2 c a]
   simp[<-hd,e]
theorem sJ.all{H:List (Value×List Nat)}(h:sJ A n n H):H.map (·.2)=(gE.init A n).mem:=by
 unfold gE.init
 show _=(List.range (kD A n+1)).map _
 apply mW
 intro d
 rw[zx,zx]
 by_cases hd:d<kD A n+1
 . rw[gy (by rw[h.1];exact hd),ox hd]
   exact congrArg some (h.2 d hd)
 . rw[pK (by rw[h.1];omega),pK (by rw[nu];omega)]
   rfl
theorem sJ.len{H:List (Value×List Nat)}(h:sJ A n v H){d:Nat}(hd:d<kD A n+1):(fJ H d).2.length<=v:=by
 rw[h.2 d hd]
 exact kz (tc _ _) (by rw[nu];exact zj _)
theorem gE.Jo:(gE.init A n).ok n 0:=by
 refine⟨by simp[gE.init],fun x f=>?_,fun l c=>?_,lD _⟩
 . obtain⟨j,b,rfl⟩:=zy.1 f
   have g:=Gf (A:=A) (lU.1 b)
   have a:(gE.init A n).mem.length=kD A n+1:=by simp[gE.init,LQ,kD]
   rw[a]
   omega
 . obtain⟨d,_,rfl⟩:=zy.1 c
   refine⟨kz (tc _ _) (by rw[nu];omega),fun u e=>lU.1 (z6.1 e).1⟩
end
end Go.Sx
namespace Go.Sx
open Go
theorem fU.ok.copy{fO fN:Nat}{s:fU}(h:s.ok fO fN){d:AW}(f:∃ k,d.A={ s.A with ps:=k })(l:d.A.ok){e:TW}(r:e.ok)(p:∀ x,e.mem x↔s.t.mem x)(q:e.A.n=s.t.A.n){im2:IM}(hk:(im2.map Prod.fst).Nodup)
 (g:∀ a,(ir im2 a=none↔ir s.im a=none)/\(gh im2 a).2=(gh s.im a).2) (jj tb ab mb:Nat) (lv:Value) :
 fU.ok fO fN ⟨jj,tb,ab,mb,lv,s.last,d,e,s.live,im2⟩/\∀ x,fU.has ⟨jj,tb,ab,mb,lv,s.last,d,e,s.live,im2⟩ x↔s.has x:=by
 obtain⟨k,f⟩:=f
 have c:∀ j,d.A.gZ j↔s.A.gZ j:=fun j=>by rw[f];exact Iff.rfl
 have o:d.A.n=s.A.n:=by rw[f]
 have hb:d.A.begun=s.A.begun:=by rw[f]
 refine⟨⟨o.trans h.n,q.trans h.tn,h.en,h.vn,l,r,h.ll.trans hb.symm,fun i hi=>h.slot i ((c i).1 hi),h.Fa,fun i hi=>h.ne i ((c i).1 hi),fun id=>?_,hk,fun id i=>?_,fun id=>?_,fun id=>?_,
  fun i hi=>h.seq i ((c i).1 hi),fun i j hi m=>h.FU i j ((c i).1 hi) ((c j).1 m),h.sS⟩,fun x=>?_⟩
 . show e.mem id↔∃ i,d.A.gZ i/\_
   rw[p,h.mem]
   exact⟨fun⟨i,a,b⟩=>⟨i,(c i).2 a,b⟩,fun⟨i,a,b⟩=>⟨i,(c i).1 a,b⟩⟩
 . show i∈(gh im2 id).2↔d.A.gZ i/\_
   rw[(g id).2,c]
   exact h.inc id i
 . show ((gh im2 id).2).Nodup
   rw[(g id).2]
   exact h.nd id
 . show ir im2 id=none↔(gh im2 id).2=[]
   rw[(g id).1,(g id).2]
   exact h.empty id
 . exact⟨fun⟨i,a,b⟩=>⟨i,(c i).1 a,b⟩,fun⟨i,a,b⟩=>⟨i,(c i).2 a,b⟩⟩
end Go.Sx
namespace Go.Sx
open Go
def TW.Kp(t a:TW):Prop:=∀ z,t.A.gZ z->a.mem (fJ t.ids z)->a.A.gZ z/\fJ a.ids z=fJ t.ids z
theorem TW.Kp.refl(t:TW):TW.Kp t t:=fun z h _=>⟨h,rfl⟩
theorem TW.Kp.trans{t e f:TW}(h1:TW.Kp t e)(i:TW.Kp e f)(hm:∀ x,t.mem x->f.mem x->e.mem x):TW.Kp t f:=fun z h g=>by
 obtain⟨a,b⟩:=h1 z h (hm _ ⟨z,h,rfl⟩ g)
 obtain⟨c,d⟩:=i z a (by rw[b];exact g)
 exact⟨c,d.trans b⟩
theorem TW.ok.SC{t:TW}(h:t.ok){id:Int}{v2:AW}{i:Nat}(hp:AW.put t.A v2.A i){iv cv:Value}{is2:List Int}{cs2:List Nat}(c:is2=tU t.ids i id):TW.Kp t ⟨iv,cv,v2,is2,cs2⟩:=fun z a _=>by
 have e:=h.tM
 have d:i<=t.ids.length:=by rcases hp.o6 with b|b<;>omega
 refine⟨(hp.gZ z).2 (.inl a),?_⟩
 show fJ is2 z=_
 rw[c,SB d,if_neg]
 rintro rfl
 exact hp.new a
theorem TW.ok.Wq{t:TW}(h:t.ok){v2:AW}{i:Nat}(hi:t.A.gZ i)(hd:AW.del t.A v2.A i){iv cv:Value}{is2:List Int}{cs2:List Nat}(c:is2=fM t.ids i (fun _=>0))(hm:∀ x,TW.mem ⟨iv,cv,v2,is2,cs2⟩ x↔t.mem x/\x≠fJ t.ids i):TW.Kp t ⟨iv,cv,v2,is2,cs2⟩:=fun z d f=>by
 have a:z≠i:=fun e=>((hm _).1 f).2 (by rw[e])
 have b:i<t.ids.length:=by have:=hi.1;have:=h.tM;omega
 refine⟨(hd.gZ z).2 ⟨d,a⟩,?_⟩
 show fJ is2 z=_
 rw[c,jy b,if_neg fun e=>a e.symm]
theorem TW.zV.yA{t a b:TW}{u v:Int}(p:TW.zV t a u)(q:TW.zV a b v)(h1:TW.Kp t a)(c:TW.Kp a b):TW.Kp t b:=h1.trans c fun x d _=>(p.mem x).2 (.inl d)
theorem mE.yA{e im2:IM}{t a b:TW}{v:Int}{i:Nat}(f:mE e a im2 b v i)(h1:TW.Kp t a)(c:TW.Kp a b):TW.Kp t b:=h1.trans c fun x _ d=>((f.mem x).1 d).1
end Go.Sx
namespace Go.Sx
open Go
theorem Fo.top{xs:List Nd}{F:FT}(h:Fo xs F){j:Nat}(f:j≠0)(d:j<xs.length):∃ r,PR (gW (gV xs F)) j r:=by
 obtain⟨m,hd⟩:=h.dep d
 clear d
 induction hd with
 | zero=>exact absurd rfl f
 | @step T q j m c n t k s =>
  have hs:∀ v u,nK (gB xs false T) q v u->gW (gV xs F) v u:=fun v u hp=>⟨(gB xs false T,q),zy.2 ⟨(T,q),c,rfl⟩,hp⟩
  have o:=h.yS c
  have hm:j∈gB xs false T:=(oP xs false T).mem_iff.2 n
  obtain⟨g, i⟩:∃ z,(gB xs false T).head? = some z:=by
   cases e:gB xs false T with
   | nil=>rw[e]at hm;simp at hm
   | cons z l=>exact⟨z,rfl⟩
  obtain⟨a,b⟩:=PR.EU i o hs hm
  by_cases hq:q=0
  . exact⟨g, a hq⟩
  . obtain⟨r,p⟩:=s hq
    exact⟨r,b r hq p⟩
theorem Fo.aaE{xs:List Nd}{F:FT}(h:Fo xs F){j:Nat}(b:j≠0)(c:j<xs.length):Joined xs F j j:=by
 obtain⟨r,a⟩:=h.top b c
 exact⟨r,a,a⟩
section
variable {xs ys zs:List Nd} {F R R2:FT} {i j:Nat} {a b:Tr}
theorem Wx(m:Fo xs F)(n:Joined xs F i j)(h:kU xs F ys i a R)(k:kU (kB ys i) ((.nd a i .nil,0) :: R) zs j b R2)(hs:(fJ zs j).size=2):gB zs false (.nd b j .nil)=[i,j]:=by
 obtain⟨r,hi,o⟩:=n
 have d:=acR h.CG k (h.aa2 o hi fun v u q f g=>m.sY f g)
 have hv:=(k.fo.rep (.nd b j .nil,0) s_).2.2.1.size
 have e:=(oP zs false (.nd b j .nil)).length_eq
 have p:=k.seq
 rw[p]at e d ⊢
 have e1:((b.mem++j :: Tr.nil.mem).length:Int)=2:=by rw[<-hv];exact hs
 have c:(gB zs false b++[j]).length=2:=by
  rw[e]
  show (b.mem++j :: Tr.nil.mem).length=2
  omega
 cases hb:gB zs false b with
 | nil=>rw[hb]at c;simp at c
 | cons x l =>
  rw[hb]at c d
  cases l with
  | cons y l=>simp at c
  | nil =>
   simp at d
   subst d
   rfl
theorem aa7(f:Fo xs F)(h:kU xs F ys i a R)(k:kU (kB ys i) ((.nd a i .nil,0) :: R) zs j b R2)(t:¬ Joined xs F i j)(q:j≠0)(s:j<xs.length)(o:i≠0)(p:i<xs.length):∃ n,R2.Perm ((.nd a i .nil,0) :: n):=by
 rcases k.De (.nd a i .nil) s_ with ⟨c,_⟩|c
 . exact Sd c
 . exfalso
   rw[h.CG.head]at c
   obtain⟨r,g⟩:=f.top q s
   obtain⟨m, l⟩:=f.top o p
   have w:r≠m := fun e=>t ⟨m, l, e▸g⟩
   obtain⟨x,p2⟩:=h.aa3 g l w fun v u z c d=>f.sY c d
   have y:=k.top c (v:=j) (by simp[Tr.mem])
   have e:r=i:=PR.unique (P:=gW (gV (kB ys i) ((.nd a i .nil,0) :: R))) (fun v u z c d=>h.CG.fo.sY c d) x y
   exact p2 (by rw[e];simp[Tr.mem])
end
theorem fZ.lead{xs:List Nd}(h:fZ xs){i:Nat}(hi:i<xs.length):fZ (kB xs i):=h.iR hi fun x a b c d e=>⟨a,b,c,d,e⟩
theorem uV(xs:List Nd)(i:Nat):(kB xs i).length=xs.length:=gx
end Go.Sx
namespace Go.Sx
open Go
theorem RA{n k:Nat}(a:n<=1000000):fZ (mP n k):=by
 have key:∀ i,i<n+1->fJ (mP n k) i=wB i\/fJ (mP n k) i=pq:=fun i hi=>by
  rw[AZ hi]
  split
  . exact .inl rfl
  . exact .inr rfl
 refine⟨fun i hi=>?_,fun i hi=>?_,fun i hi=>?_,fun i hi=>?_,fun i hi=>?_⟩<;>rw[sV]at * <;> rcases key i hi with e|e<;>rw[e]
 all_goals first
  | exact(by decide:ia .i64 0)
  | (simp only[wB,pq];omega)
  | (show (-9223372036854775808:Int)<=0/\(0:Int)<=9223372036854775807;omega)
end Go.Sx
namespace Go.Sx
open Go
section
variable {L:List Lv} {i j:Nat} {sn:List Bool} {now:Int}
def sO(b:Bool):List Value:=[.bool b]
end
end Go.Sx
namespace Go.Sx
open Go
def gM(ps:List Int):Nat->Nat->Nat
 | 0,v=>v
 | k+1,v=>gM ps k (fJ ps v).toNat
section
variable {ps:List Int} {k j v:Nat}
theorem ue(a b:Nat):gM ps (a+b) v=gM ps b (gM ps a v):=by
 induction a generalizing v with
 | zero=>rw[lX];rfl
 | succ a c=>rw[Nat.succ_add];exact c
theorem agf:gM ps 1 v=(fJ ps v).toNat:=rfl
theorem Ep(hp:ko ps)(hv:v<ps.length):0<gp ps v↔0<=fJ ps v:=by
 constructor
 . grind [fJ,Eo]
 . intro h
   rw[Ay hp hv (i:=(fJ ps v).toNat) o_]
   omega
theorem Oy(hp:ko ps)(hv:v<ps.length)(h:0<=fJ ps v):gp ps v=gp ps (fJ ps v).toNat+1:=Ay hp hv o_
theorem qC(hp:ko ps)(hv:v<ps.length)(hk:k<=gp ps v):gM ps k v<ps.length/\gp ps (gM ps k v)=gp ps v-k/\v<=gM ps k v:=by
 induction k generalizing v with
 | zero=>exact⟨hv,rfl,zj _⟩
 | succ k d =>
  have a:=(Ep hp hv).1 o_
  have b:=hp.up v hv
  have c:=Oy hp hv a
  grind [fJ,gp,gM]
theorem agh(hp:ko ps)(hv:v<ps.length)(hk:k<gp ps v):fJ ps (gM ps k v)=((gM ps (k+1) v:Nat):Int):=by
 obtain⟨a,b,_⟩:=qC hp hv (Nat.le_of_lt hk)
 grind [Ep,ue,agf]
theorem QF(hp:ko ps)(hv:v<ps.length):(2 ^ j<=gp ps v->kA ps j v=((gM ps (2 ^ j) v:Nat):Int))/\(gp ps v<2 ^ j->kA ps j v<0):=by
 induction j generalizing v with
 | zero =>
  have a:=Ep hp hv
  constructor
  . intro h
    show fJ ps v=(((fJ ps v).toNat:Nat):Int)
    grind
  . intro h
    show fJ ps v<0
    grind
 | succ j d =>
  have e:2 ^ (j+1)=2 ^ j+2 ^ j:=by rw[DG];omega
  obtain⟨c,i⟩:=d hv
  rw[e]
  constructor
  . intro h
    have a:=c o_
    obtain⟨b,f,_⟩:=qC hp hv (k:=2 ^ j) o_
    rw[EZ o_,a,nT,(d b).1 o_,<-ue]
  . intro h
    rcases BN (gp ps v) (2 ^ j)with a|a
    . grind [Jt]
    . have b:=c a
      obtain⟨f,g,_⟩:=qC hp hv (k:=2 ^ j) a
      grind [EZ]
theorem Ju(hp:ko ps)(hv:v<ps.length)(h:2 ^ j<=gp ps v):fJ (jw ps j) v=((gM ps (2 ^ j) v:Nat):Int):=by
 rw[uT hv]
 exact(QF hp hv).1 h
theorem QE(hp:ko ps)(hv:v<ps.length)(h:gp ps v<2 ^ j):fJ (jw ps j) v<0:=by
 rw[uT hv]
 exact(QF hp hv).2 h
theorem QD(hp:ko ps)(hm:∀ i,i<ps.length -> -1<=fJ ps i)(hv:v<ps.length) : -1<=kA ps j v:=by
 induction j generalizing v with
 | zero=>exact hm v hv
 | succ j a =>
  grind [Js,kA,EZ,Jt]
end
structure pQ (ps:List Int) (a b D j s:Nat):Prop where
 le:s<=D
 ne:gM ps s a≠gM ps s b
 P5:D<s+2 ^ j\/gM ps (s+2 ^ j) a=gM ps (s+2 ^ j) b
section
variable {ps:List Int} {a b D j s:Nat}
theorem pQ.start(h:a≠b)(c:D<8192):pQ ps a b D 13 0:=⟨lD _,h,.inl (by rw[lX];exact c)⟩
theorem pQ.next(hp:ko ps)(hm:∀ i,i<ps.length -> -1<=fJ ps i)(n:a<ps.length)(hb:b<ps.length)(p:gp ps a=D)(q:gp ps b=D)(h:pQ ps a b D (j+1) s) :
 (fJ (jw ps j) (gM ps s a)=fJ (jw ps j) (gM ps s b)->pQ ps a b D j s) /\
 (fJ (jw ps j) (gM ps s a)≠fJ (jw ps j) (gM ps s b)->pQ ps a b D j (s+2 ^ j)/\fJ (jw ps j) (gM ps s a)=((gM ps (s+2 ^ j) a:Nat):Int)/\fJ (jw ps j) (gM ps s b)=((gM ps (s+2 ^ j) b:Nat):Int)):=by
 have g:=h.le
 obtain⟨a1,a2,_⟩:=qC hp n (k:=s) o_
 obtain⟨b1,b2,_⟩:=qC hp hb (k:=s) o_
 have e:2 ^ (j+1)=2 ^ j+2 ^ j:=by rw[DG];omega
 rcases BN (D-s) (2 ^ j)with l|l
 . have r:=QE hp a1 (j:=j) o_
   have nb:=QE hp b1 (j:=j) o_
   have o:=QD hp hm a1 (j:=j)
   have mb:=QD hp hm b1 (j:=j)
   rw[<-uT a1]at o
   rw[<-uT b1]at mb
   exact⟨fun _=>⟨g,h.ne,.inl o_⟩,fun c=>absurd (show fJ (jw ps j) (gM ps s a)=fJ (jw ps j) (gM ps s b) by omega) c⟩
 . have ya:=Ju hp a1 (j:=j) o_
   have d:=Ju hp b1 (j:=j) o_
   rw[<-ue]at ya d
   refine⟨fun c=>⟨g,h.ne,.inr o_⟩,fun c=>⟨⟨o_,fun m=>c (by rw[ya,d,m]),?_⟩,ya,d⟩⟩
   have f:=h.P5
   rw[e,<-lW]at f
   exact f
theorem pQ.fin(hp:ko ps)(c:a<ps.length)(f:gp ps a=D)(h:pQ ps a b D 0 s) :
 (fJ ps (gM ps s a)<0->s=D)/\(¬ fJ ps (gM ps s a)<0->s<D/\fJ ps (gM ps s a)=((gM ps (s+1) a:Nat):Int)/\gM ps (s+1) a=gM ps (s+1) b):=by
 have j:=h.le
 obtain⟨a1,a2,_⟩:=qC hp c (k:=s) o_
 have d:=Ep hp a1
 refine⟨fun e=>?_,fun e=>?_⟩
 . grind
 . have g:=d.2 o_
   refine⟨o_,agh hp c o_,?_⟩
   have i:=h.P5
   grind
end
theorem Ir{ps:List Int}(hp:ko ps){i:Nat}(hi:i<ps.length):gp ps i+i<ps.length:=by
 induction hm:ps.length-i using Nat.strongRecOn generalizing i with
 | _ m a =>
  rcases hp.up i hi with h|⟨b,c⟩
  . rw[Eo h]
    omega
  . have:=a (ps.length-(fJ ps i).toNat) o_ (i:=(fJ ps i).toNat) o_ rfl
    rw[Oy hp hi o_]
    omega
def sG(ps:List Int)(a b z:Nat)(B:Bool):Prop :=
 (B=true/\∃ s t,s<=gp ps a/\t<=gp ps b/\gM ps s a=z/\gM ps t b=z/\∀ c t', c <= gp ps a->t' <= gp ps b->gM ps c a=gM ps t' b->s<=c) \/
 (B=false/\z=0/\∀ s t,s<=gp ps a->t<=gp ps b->gM ps s a≠gM ps t b)
section
variable {ps:List Int} {a b A B D s:Nat}
theorem JW(hp:ko ps)(d:a<ps.length)(hb:b<ps.length){s t:Nat}(hs:s<=gp ps a)(e:t<=gp ps b)(h:gM ps s a=gM ps t b) :
 ∃ m,m<=min (gp ps a) (gp ps b)/\s=gp ps a-min (gp ps a) (gp ps b)+m/\gM ps m (gM ps (gp ps a-min (gp ps a) (gp ps b)) a)=gM ps m (gM ps (gp ps b-min (gp ps a) (gp ps b)) b):=by
 have c:=(qC hp d hs).2.1
 have f:=(qC hp hb e).2.1
 rw[h]at c
 refine⟨min (gp ps a) (gp ps b)-(gp ps a-s),o_,o_,?_⟩
 rw[<-ue,<-ue,show gp ps a-min (gp ps a) (gp ps b)+(min (gp ps a) (gp ps b)-(gp ps a-s))=s by omega,show gp ps b-min (gp ps a) (gp ps b)+(min (gp ps a) (gp ps b)-(gp ps a-s))=t by omega,h]
theorem VX(hp:ko ps)(c:a<ps.length)(hb:b<ps.length)(h:gM ps (gp ps a-min (gp ps a) (gp ps b)) a=gM ps (gp ps b-min (gp ps a) (gp ps b)) b) :
 sG ps a b (gM ps (gp ps a-min (gp ps a) (gp ps b)) a) true :=
 .inl ⟨rfl,_,_,Nat.sub_le _ _,Nat.sub_le _ _,rfl,h.symm,fun g t' hs d e=>by
  obtain⟨m,_,f,_⟩:=JW hp c hb hs d e
  omega⟩
theorem pQ.apart{j:Nat}(h:pQ ps A B D j s){m:Nat}(hm:gM ps m A=gM ps m B):s<m:=by
 apply Nat.lt_of_not_le
 intro a
 apply h.ne
 rw[show s=m+(s-m) by omega,ue,ue,hm]
theorem VZ(hp:ko ps)(i:a<ps.length)(hb:b<ps.length)(d:A=gM ps (gp ps a-min (gp ps a) (gp ps b)) a)(f:B=gM ps (gp ps b-min (gp ps a) (gp ps b)) b)
 (h:pQ ps A B (min (gp ps a) (gp ps b)) 0 s) (h1:s<min (gp ps a) (gp ps b)) (g:gM ps (s+1) A=gM ps (s+1) B):sG ps a b (gM ps (s+1) A) true:=by
 refine .inl ⟨rfl,gp ps a-min (gp ps a) (gp ps b)+(s+1),gp ps b-min (gp ps a) (gp ps b)+(s+1),o_,o_,by rw[ue,<-d],by rw[ue,<-f,g],fun l t' hs j e=>?_⟩
 obtain⟨m,_,k,c⟩:=JW hp i hb hs j e
 rw[<-d,<-f]at c
 have:=h.apart c
 omega
theorem VY(hp:ko ps)(g:a<ps.length)(hb:b<ps.length)(d:A=gM ps (gp ps a-min (gp ps a) (gp ps b)) a)(f:B=gM ps (gp ps b-min (gp ps a) (gp ps b)) b)
 (h:pQ ps A B (min (gp ps a) (gp ps b)) 0 s) (h1:s=min (gp ps a) (gp ps b)):sG ps a b 0 false:=by
 refine .inr ⟨rfl,rfl,fun l t' hs i e=>?_⟩
 obtain⟨m,j,k,c⟩:=JW hp g hb hs i e
 rw[<-d,<-f]at c
 have:=h.apart c
 omega
end
end Go.Sx
namespace Go.Sx
open Go
theorem U3{y:Nat}(h:0<y):(2*y) &&& (2*y-1)=2*(y &&& (y-1)):=by
 apply Nat.eq_of_testBit_eq
 intro i
 rw[Nat.testBit_and]
 cases i with
 | zero=>simp[Nat.testBit_zero]
 | succ i=>rw[DD,DD,DD,show 2*y / 2=y by omega,show (2*y-1) / 2=y-1 by omega,show 2*(y &&& (y-1)) / 2=y &&& (y-1) by omega,Nat.testBit_and]
theorem U4{m:Nat}:(2*m+1) &&& (2*m+1-1)=2*m:=by
 rw[vC]
 apply Nat.eq_of_testBit_eq
 intro i
 rw[Nat.testBit_and]
 cases i with
 | zero=>simp[Nat.testBit_zero]
 | succ i=>rw[DD,DD,show (2*m+1) / 2=m by omega,show 2*m / 2=m by omega,Bool.and_self]
theorem U5(k m:Nat):(2 ^ k*(2*m+1)) &&& (2 ^ k*(2*m+1)-1)=2 ^ k*(2*m+1)-2 ^ k:=by
 induction k with
 | zero=>rw[Nat.pow_zero,Nat.one_mul,U4];omega
 | succ k b =>
  have a:0<2 ^ k*(2*m+1):=Nat.mul_pos (Nat.pow_pos d_) o_
  have e:2 ^ (k+1)*(2*m+1)=2*(2 ^ k*(2*m+1)):=by rw[DG,Nat.mul_comm (2 ^ k) 2,Nat.mul_assoc]
  rw[e,U3 a,b,DG]
  omega
theorem Im{x:Nat}(c:x≠0)(h:x<2 ^ 64):x &&& (x-1)=x-2 ^ Lib.ctz 64 x/\2 ^ Lib.ctz 64 x<=x:=by
 obtain⟨m,hm,d⟩:=Lib.ctzFrom_spec 64 x o_ h
 have e:Lib.ctz 64 x=Lib.ctzFrom 64 x:=by simp[Lib.ctz,c]
 rw[e]
 have a:=U5 (Lib.ctzFrom 64 x) m
 rw[<-hm]at a
 refine⟨a,?_⟩
 have b:2 ^ Lib.ctzFrom 64 x*1<=2 ^ Lib.ctzFrom 64 x*(2*m+1):=BD _ o_
 rw[<-hm,sD]at b
 exact b
theorem Wj{x:Nat}(a:x≠0)(h:x<8192):Lib.ctz 64 x<13:=by
 have c:=(Im a (oB h d_)).2
 apply Nat.lt_of_not_le
 intro b
 have d:2 ^ 13<=2 ^ Lib.ctz 64 x:=Nat.pow_le_pow_right d_ b
 have e:(2:Nat) ^ 13=8192:=by decide
 omega
structure BT (ps:List Int) (v0 d0 d v:Nat):Prop where
 le:d<=d0
 at_:v=gM ps (d0-d) v0
theorem BT.next{ps:List Int}{b a d v:Nat}(hp:ko ps)(hv:b<ps.length)(hd:a<=gp ps b)(i:a<8192)(h:BT ps b a d v)(e:d≠0) :
 v<ps.length/\fJ (jw ps (Lib.ctz 64 d)) v=((gM ps (2 ^ Lib.ctz 64 d) v:Nat):Int)/\BT ps b a (d &&& (d-1)) (gM ps (2 ^ Lib.ctz 64 d) v):=by
 have g:=h.le
 obtain⟨c,l⟩:=Im e (Nat.lt_of_le_of_lt g (oB i d_))
 obtain⟨a1,a2,_⟩:=qC hp hv (k:=a-d) o_
 rw[<-h.at_]at a1 a2
 have f:=Ju hp a1 (j:=Lib.ctz 64 d)
 generalize 2 ^ Lib.ctz 64 d=E at *
 refine⟨a1,f o_,by rw[c];omega,?_⟩
 rw[c,show a-(d-E)=(a-d)+E by omega,ue,<-h.at_]
end Go.Sx
namespace Go.Sx
open Go
theorem fU.Ia{fO fN:Nat}{s:fU}(h:s.ok fO fN)(l:s.t.A.ok){u v:Int}(g:u≠v){L:List Lv}{K:List Int}(z:L.length<fN)(n:∀ x,s.has x->x∈L)
 (m:∀ x,s.has x->x.u∈K/\x.v∈K) (q:u∈K) (hv:v∈K) (hk:K.length<=fO):s.gJ fO fN u v=0:=by
 have k:((s.A.list s.A.begun).map fun i:Nat=>(i:Int)).length<=(L.map Lv.slot).length:=Ba _ _ (by
  rw[List.Nodup,List.pairwise_map]
  exact(s.A.CI _).imp fun {a b} B e=>by omega) fun j p=>by
  obtain⟨i,hi,rfl⟩:=zy.1 p
  have f:=(h.lE.pn i).1 hi
  exact zy.2 ⟨_,n _ ⟨i,f,rfl⟩,h.slot i f⟩
 rw[zq,zq,h.lE.AU]at k
 obtain⟨c,k1,C,w⟩:=TW.HX h.tok l g
 have y:c.length<=K.length:=Ba c K k1 fun x r=>by
  rcases(w x).1 r with hm|rfl|rfl
  . obtain⟨i,hi,o⟩:=(h.mem x).1 hm
    have d:=m _ ⟨i,hi,rfl⟩
    rcases o with e|e
    . rw[<-e];exact d.1
    . rw[<-e];exact d.2
  . exact q
  . exact hv
 exact fU.Av g o_ o_
structure WW.Ins (c:WC) (s s2:WW) (x:Lv):Prop where
 has:∃ i:Nat,∀ y,s2.u.has y↔(s.u.has y/\x.t<y.exp)\/y=⟨(i:Int),s.u.last+1,x.u,x.v,x.wt,x.t,x.t+c.win⟩
 last:s2.u.last=s.u.last+1
 now:s2.now=x.t
 added:s2.added=s.added+1
structure WW.UL (c:WC) (s s2:WW) (x:Lv) (e:Int):Prop where
 step:WW.Step s s2 x
 ins:e=0->WW.Ins c s s2 x
 room:s.u.gJ c.fO c.fN x.u x.v=0->e=0
abbrev cW:WC:=⟨10,4,4,4⟩
abbrev wE(i:Nat)(q u v w t:Int):Lv:=⟨(i:Int),q,u,v,w,t,t+10⟩
section
variable {s s1 s2 s3:WW}
theorem agU(b:∀ y,¬ s.u.has y)(c:s.u.last=0)(h:WW.Ins cW s s1 ⟨0,0,1,2,5,0,0⟩):(∃ i,∀ y,s1.u.has y↔y=wE i 1 1 2 5 0)/\s1.u.last=1:=by
 obtain⟨⟨i,hi⟩,a,_,_⟩:=h
 rw[c]at a hi
 exact⟨⟨i,fun y=>(hi y).trans ⟨fun h=>h.elim (fun h=>absurd h.1 (b y)) id,.inr⟩⟩,a⟩
theorem agV{i:Nat}(c:∀ y,s1.u.has y↔y=wE i 1 1 2 5 0)(d:s1.u.last=1)(h:WW.Ins cW s1 s2 ⟨0,0,2,3,7,4,0⟩):(∃ j,∀ y,s2.u.has y↔y=wE i 1 1 2 5 0\/y=wE j 2 2 3 7 4)/\s2.u.last=2:=by
 obtain⟨⟨j,b⟩,a,_,_⟩:=h
 rw[d]at a b
 refine⟨⟨j,fun y=>(b y).trans (or_congr_left ?_)⟩,a⟩
 rw[c]
 exact⟨fun h=>h.1,fun h=>⟨h,by rw[h];show (4:Int)<0+10;decide⟩⟩
theorem agW{i j:Nat}(b:∀ y,s2.u.has y↔y=wE i 1 1 2 5 0\/y=wE j 2 2 3 7 4)(c:s2.u.last=2)(h:WW.Ins cW s2 s3 ⟨0,0,1,3,9,6,0⟩) :
 ∃ k,∀ y,s3.u.has y↔(y=wE i 1 1 2 5 0\/y=wE j 2 2 3 7 4)\/y=wE k 3 1 3 9 6:=by
 obtain⟨⟨k,a⟩,_,_,_⟩:=h
 rw[c]at a
 refine⟨k,fun y=>(a y).trans (or_congr_left ?_)⟩
 rw[b]
 refine⟨fun h=>h.1,fun h=>⟨h,?_⟩⟩
 rcases h with rfl|rfl
 . exact(by decide:(6:Int)<0+10)
 . exact(by decide:(6:Int)<4+10)
def mu:List Ge:=[⟨0,1,5⟩,⟨1,2,7⟩,⟨0,2,9⟩]
theorem agY{fO fN:Nat}(U:s3.u.ok fO fN){i j k:Nat}(h:∀ y,s3.u.has y↔(y=wE i 1 1 2 5 0\/y=wE j 2 2 3 7 4)\/y=wE k 3 1 3 9 6){K:List Int}{L:List Lv}{es:List Ge}
 (R:s3.u.mo K) (S:s3.u.kL L) (s:kN K L es L.length):K=[1,2,3]/\L.length=3/\es=mu:=by
 have e1:L=[wE i 1 1 2 5 0,wE j 2 2 3 7 4,wE k 3 1 3 9 6]:=S.uniq ⟨fun x=>by rw[h];simp[or_assoc],s_⟩
 have P:K=[1,2,3]:=R.uniq ⟨s_,fun x=>by
  rw[U.mem]
  constructor
  . intro l
    simp only[ze,oV,or_false]at l
    rcases l with rfl|rfl|rfl
    . obtain⟨n,c,e⟩:=(h (wE i 1 1 2 5 0)).2 (.inl (.inl rfl));exact⟨n,c,by rw[e];exact .inl rfl⟩
    . obtain⟨n,c,e⟩:=(h (wE i 1 1 2 5 0)).2 (.inl (.inl rfl));exact⟨n,c,by rw[e];exact .inr rfl⟩
    . obtain⟨n,c,e⟩:=(h (wE j 2 2 3 7 4)).2 (.inl (.inr rfl));exact⟨n,c,by rw[e];exact .inr rfl⟩
  . rintro⟨n,c,m⟩
    rcases(h _).1 ⟨n,c,rfl⟩with (e|e)|e<;>rw[e]at m<;>rcases m with rfl|rfl<;>simp⟩
 subst e1 P
 refine⟨rfl,rfl,?_⟩
 have T:=s.len
 have f:∀ n:Nat,n<3->MC [1,2,3] (fJ [wE i 1 1 2 5 0,wE j 2 2 3 7 4,wE k 3 1 3 9 6] n) (fJ es n):=fun n c=>s.fst n c
 have g:∀ a:Nat,a<3->∀ x:Int,fJ ([1,2,3]:List Int) a=x->(a:Int)+1=x:=fun a m x l=>by
  match a,m with
  | 0,_=>exact l
  | 1,_=>exact l
  | 2,_=>exact l
 match es,T,f with
 | [a,b,d],_,f =>
  have fa:=f 0 d_
  have fb:=f 1 d_
  have Q:=f 2 d_
  obtain⟨a1,a2,a3,t,v⟩:=fa
  obtain⟨b1,b2,b3,A,B⟩:=fb
  obtain⟨F,G,H,I,J⟩:=Q
  have w:=g _ a1 _ a3;have z:=g _ a2 _ t
  have C:=g _ b1 _ b3;have D:=g _ b2 _ A
  have M:=g _ F _ H;have N:=g _ G _ I
  obtain⟨o,p,aw⟩:=a
  obtain⟨q,bv,E⟩:=b
  obtain⟨r,dv,O⟩:=d
  change (o:Int)+1=1 at w;change (p:Int)+1=2 at z;change aw=5 at v
  change (q:Int)+1=2 at C;change (bv:Int)+1=3 at D;change E=7 at B
  change (r:Int)+1=1 at M;change (dv:Int)+1=3 at N;change O=9 at J
  have:o=0:=by omega
  have:p=1:=by omega
  have:q=1:=by omega
  have:bv=2:=by omega
  have:r=0:=by omega
  have:dv=2:=by omega
  subst_vars
  rfl
end
end Go.Sx
namespace Go.Sx
open Go
theorem agX:oC mu 3 [0,1]:=⟨[0,1,2],⟨List.Perm.refl _,d_⟩,d_⟩
theorem Ux:(gf mu 3 [0,1]).p=[3,3,4,4,-1]/\(gf mu 3 [0,1]).h=[0,0,0,5,7]/\(gf mu 3 [0,1]).s=[1,1,1,2,3]:=by decide
theorem Mb{es:List Ge}{n:Nat}{f:List Nat}(h:iU es n f)(a:es=mu)(b:n=3):f=[0,1]:=by
 subst a b
 exact h.f.uniq agX
section
variable {f:List Nat} (h:iU mu 3 f)
include h
theorem Uy:gQ mu 3 f (jP (gf mu 3 f).p (gf mu 3 f).h 7 2)=0/\fJ (gf mu 3 f).s (jP (gf mu 3 f).p (gf mu 3 f).h 7 2)=3:=by
 have hp:=h.u9
 obtain rfl:=Mb h rfl rfl
 obtain⟨e1,a,b⟩:=Ux
 rw[e1]at hp
 rw[e1,a,b,Ih hp d_ d_ d_]
 show gQ mu 3 [0,1] (jP _ _ 7 4)=0/\fJ _ (jP _ _ 7 4)=3
 rw[Ig d_]
 decide
theorem ag0{z:Nat}{B:Bool}(k:sG (gf mu 3 f).p 0 2 z B):B=true/\fJ (gf mu 3 f).h z=7:=by
 have hp:=h.u9
 obtain rfl:=Mb h rfl rfl
 obtain⟨e1,m,q⟩:=Ux
 rw[e1]at hp k
 rw[m]
 have d:gp [3,3,4,4,-1] 4=0:=Eo d_
 have l:gp [3,3,4,4,-1] 3=1:=by rw[Ay hp (j:=3) (i:=4) d_ d_,d]
 have b:gp [3,3,4,4,-1] 0=2:=by rw[Ay hp (j:=0) (i:=3) d_ d_,l]
 have c:gp [3,3,4,4,-1] 2=1:=by rw[Ay hp (j:=2) (i:=4) d_ d_,d]
 rcases k with ⟨rfl,s,t,e,g,n,a,_⟩|⟨_,_,o⟩
 . rw[b]at e
   rw[c]at g
   refine⟨rfl,?_⟩
   subst n
   match s,e,t,g,a with
   | 0,_,0,_,a=>exact absurd a d_
   | 0,_,1,_,a=>exact absurd a d_
   | 1,_,0,_,a=>exact absurd a d_
   | 1,_,1,_,a=>exact absurd a d_
   | 2,_,0,_,a=>exact absurd a d_
   | 2,_,1,_,_=>decide
 . exact absurd d_ (o 2 1 (by rw[b];exact zj _) (by rw[c];exact zj _))
theorem agZ:f=[0,1]/\(nX mu 3 f f.length).map (fun m=>(m.a,m.b,m.h))=[(0,1,5),(0,2,7)]:=by
 obtain rfl:=Mb h rfl rfl
 exact⟨rfl,d_⟩
end
end Go.Sx
namespace Go.Sx
open Go
def FI(l:List Oper)(pre:List (List Nat))(mem:List Nat):Bool :=
 FD l pre &&
 (l.all fun o => !EW o.op) &&
 ((List.range l.length).all fun j=>(l[j]?).all fun o=>o.after.toList.all fun e => !Region.binds .any e||decide (e.on<j)) &&
 ((
  List.range l.length).all fun j=>(List.range j).all fun i =>
  match l[i]?,l[j]? with
  | some x,some y => !(nt l.toArray x y||nt l.toArray y x)||(pre.getD j []).contains i
  | _,_=>true) &&
 (mem.all fun m=>decide (m<l.length))
def okD(pre:List (List Nat))(mem:List Nat)(i:Nat)(d:List Nat):Bool :=
 !(d.contains i)&&mem.all fun m=>(!((pre.getD i []).contains m)||d.contains m)&&(!(d.contains m) || !((pre.getD m []).contains i))
def tO(mem d:List Nat)(i:Nat):List Nat:=mem.filter fun j=>d.contains j||j==i
section
variable {Γ:Type} (P:Program) (ops:Array Oper) (Q:Exit->Act->World->Prop) (n:Nat) (ds:List Deferred) (s0:List (Nat×Value))
def mD(l0:List Oper)(pre:List (List Nat))(mem:List Nat)(V:List (Γ->Value))(M:List Nat->Γ->World->Prop):Nat->(Γ->List (Nat×Value))->List Oper->List (Γ->Value)->Prop
 | i,s,o :: l,v :: vs =>
  (
   bif mem.contains i then ∀ d,okD pre mem i d=true->∀ g w,M d g w->ny P ops Q n ds s0 l0 o (s g) (fun v' w' => ∃ a, M (tO mem d i) a w' /\ v' = v a /\ mq pre i g a 0 V) w
   else ∀ d,okD pre mem i d=true->∀ g w,M d g w->mF P ops n o (s g) (v g) (M d g) w) /\
  mD l0 pre mem V M (i+1) (fun g=>kT o.dst (v g) (s g)) l vs
 | _,_,[],[]=>True
 | _,_,_,_=>False
end
section
variable {Γ:Type} {r:Option Nat} {P:Program} {Q:Exit->Act->World->Prop} {n:Nat} {ds:List Deferred} {s0:List (Nat×Value)} {l:List Oper} {pre:List (List Nat)} {mem:List Nat} {V:List (Γ->Value)} {M:List Nat->Γ->World->Prop}
theorem mD.get{l0:List Oper}:∀ (l:List Oper) (vs:List (Γ->Value)) (b:Nat) (s:Γ->List (Nat×Value)),mD P l0.toArray Q n ds s0 l0 pre mem V M b s l vs->l.length=vs.length /\
 ∀ k o,l[k]? = some o->∃ v,vs[k]? = some v /\
  (
   bif mem.contains (b+k)then ∀ d,okD pre mem (b+k) d=true->∀ g w,M d g w->ny P l0.toArray Q n ds s0 l0 o (ja (fun j=>decide (j<b+k)) b l (vs.map (· g)) (s g)) (fun v' w' => ∃ f, M (tO mem d (b+k)) f w' /\ v' = v f /\ mq pre (b+k) g f 0 V) w
   else ∀ d,okD pre mem (b+k) d=true->∀ g w,M d g w->mF P l0.toArray n o (ja (fun j=>decide (j<b+k)) b l (vs.map (· g)) (s g)) (v g) (M d g) w):=by
 intro l
 induction l with
 | nil=>intro vs b s h;cases vs with|nil=>exact⟨rfl,fun k o c=>by simp at c⟩|cons v vs=>exact h.elim
 | cons o l m =>
  intro vs b s h
  cases vs with
  | nil=>exact h.elim
  | cons v vs =>
   obtain⟨q,r⟩:=h
   obtain⟨e,t⟩:=m vs (b+1) _ r
   refine⟨by simp[e],fun k y c=>?_⟩
   cases k with
   | zero =>
    simp at c
    subst c
    refine⟨v,rfl,?_⟩
    have hs:∀ g,ja (fun j=>decide (j<b+0)) b (o :: l) ((v :: vs).map (· g)) (s g)=s g:=by
     intro g
     have key:∀ (l:List Oper) (a:List Value) (i:Nat) (s:List (Nat×Value)),b<=i->ja (fun j=>decide (j<b+0)) i l a s=s:=by
      intro l
      induction l with
      | nil=>intro a i s _;cases a<;>rfl
      | cons o l m=>intro a i s hi;cases a with|nil=>rfl|cons u a=>simp only[ja];rw[show decide (i<b+0)=false by simp;omega];exact m a (i+1) s o_
     exact key _ _ _ _ (zj _)
    simp only[hs]
    exact q
   | succ k =>
    obtain⟨v', x, p⟩:=t k y (by simpa using c)
    refine⟨v', by simpa using x, ?_⟩
    rw[show b+1+k=b+(k+1) by omega]at p
    have hs:∀ g,ja (fun j=>decide (j<b+(k+1))) b (o :: l) ((v :: vs).map (· g)) (s g)=ja (fun j=>decide (j<b+(k+1))) (b+1) l (vs.map (· g)) (kT o.dst (v g) (s g)):=by
     intro g
     simp only[lV,ja]
     rw[show decide (b<b+(k+1))=true by simp]
     rfl
    simp only[hs]
    exact p
theorem contains_filter{S:Nat->Bool}{mem:List Nat}{j:Nat}(a:j∈mem):(mem.filter S).contains j=S j:=by
 cases h:S j with
 | true=>simp[h,a]
 | false=>simp[h]
theorem RL{S:Nat->Bool}{i:Nat}(d:(mem.all fun m=>decide (m<l.length))=true)(a:∀ k,(pre.getD i []).contains k=true->S k=true)(e:∀ k,k<l.length->(pre.getD k []).contains i=true->S k=false)(b:S i=false):okD pre mem i (mem.filter S)=true:=by
 simp only[okD,mC,GX,zk]
 refine⟨by simp[b],fun m hm=>⟨?_,?_⟩⟩
 . rw[contains_filter hm]
   cases h:(pre.getD i []).contains m with
   | true=>simp[a m h]
   | false=>rfl
 . rw[contains_filter hm]
   have c:m<l.length:=of_decide_eq_true (zk.1 d m hm)
   cases h:(pre.getD m []).contains i with
   | true=>simp[e m c h]
   | false=>simp
theorem SO{id:Nat}{w:World}(hm:P.follows .mixedOrders=true)(pre:List (List Nat))(mem:List Nat)(ay:FI l pre mem=true)(V:List (Γ->Value))(M:List Nat->Γ->World->Prop)(g0:Γ)(sE:Γ->List (Nat×Value))
 (h0:M [] g0 w.drew) (hO:mD P l.toArray Q n ds s0 l pre mem V M 0 (fun _=>s0) l V) (hE:∀ g,ja (fun _=>true) 0 l (V.map (· g)) s0=sE g)
 (aI:∀ g w', M mem g w' -> Q .normal (Fr n (sE g) ds) w'):WP r P (.region id l.toArray true) Q (Fr n s0 ds) w:=by
 simp only[FI,mC]at ay
 obtain⟨⟨⟨⟨ap,aQ⟩,aF⟩,aH⟩,al⟩:=ay
 obtain⟨aW,av⟩:=mD.get (l0:=l) l V 0 (fun _=>s0) hO
 simp only[lX]at av
 -- conflicts are ordered
 have ae:∀ i j x y,l[i]? = some x->l[j]? = some y->i<j->(nt l.toArray x y=true\/nt l.toArray y x=true)->(pre.getD j []).contains i=true:=by
  intro i j x y X hy ak h
  have p:j<l.length:=(zh.1 hy).1
  have z:=zk.1 (zk.1 aH j (lU.2 p)) i (lU.2 ak)
  simp only[X,hy]at z
  rcases tj.1 z with A|A
  . exfalso
    have N:(nt l.toArray x y||nt l.toArray y x)=true:=by
     rcases h with h|h<;>simp[h]
    rw[N]at A
    cases A
  . exact A
 refine wpIn_region_any hm ?_
 have aY:l.toArray.size=l.length:=by simp
 -- the invariant
 let c:Array Bool->Nat->Bool:=fun a i=>a.getD i false
 have aV:∀ (fuel:Nat) (a:Array Bool) (g:Γ) (w:World),a.size=l.length->a.toList.countP (! ·)<=fuel->Down l (c a)->M (mem.filter (c a)) g w ->
  wpAnyIn (FW r) 0 P .any l.toArray Q fuel a (Fr n (ja (c a) 0 l (V.map (· g)) s0) ds) w:=by
  intro fuel
  have fin:∀ (a:Array Bool) (g:Γ) (w:World),a.size=l.length->(∀ i,i<l.length->c a i=true)->M (mem.filter (c a)) g w->Q .normal (Fr n (ja (c a) 0 l (V.map (· g)) s0) ds) w:=by
   intro a g w hs U E
   have e1:mem.filter (c a)=mem:=zO.2 fun m aO => U m (by simpa using of_decide_eq_true (zk.1 al m aO))
   rw[e1]at E
   have e2:Fr n (ja (c a) 0 l (V.map (· g)) s0) ds=Fr n (sE g) ds:=by
    rw[<-hE g]
    refine vF ds fun t=>?_
    rw[pg,pg]
    congr 1
    refine AS l 0 _ _ rfl fun j o p _=>⟨?_,fun _=>rfl⟩
    rw[lX]
    exact U j (zh.1 p).1
   rw[e2]
   exact aI g w E
  have aB:∀ (a:Array Bool),a.size=l.length->Region.ready .any l.toArray a=[]->∀ i,i<l.length->c a i=true:=by
   intro a hs q i
   induction i using Nat.strongRecOn with
   | _ i ih =>
    intro hi
    cases O:c a i with
    | true=>rfl
    | false =>
     exfalso
     have:i∈Region.ready .any l.toArray a:=by
      rw[mem_ready]
      refine⟨?_,l[i],by simp[hi],fun e C hb=>?_⟩
      . have:i<a.size:=by omega
        simp only[c]at O
        simp[this]at O ⊢
        exact O
      . have z:=zk.1 aF i (lU.2 hi)
        rw[zm hi]at z
        simp only[Option.all_some,zk]at z
        have A:=z e (by simpa using C)
        rw[hb,Bool.not_true,Bool.false_or,decide_eq_true_eq]at A
        exact ih e.on A o_
     rw[q]at this
     cases this
  induction fuel with
  | zero =>
   intro a g w hs O hd E
   have hz:∀ x∈a.toList,x=true:=by
    intro x X
    have:=BC.1 (Nat.le_zero.1 O) x X
    simpa using this
   have U:∀ i,i<l.length->c a i=true:=by
    intro i hi
    have aj : i<a.size:=by omega
    simp only[c]
    simp[aj]
    exact hz _ s_
   refine⟨?_,fin a g w hs U E⟩
   cases q:Region.ready .any l.toArray a with
   | nil=>rfl
   | cons i rs =>
    have:i∈Region.ready .any l.toArray a:=by rw[q];simp
    rw[mem_ready]at this
    obtain⟨z,o,ho,_⟩:=this
    have hi:i<l.length:=by simpa using(qg.1 ho).1
    have:=U i hi
    simp only[c]at this
    have aj : i<a.size:=by omega
    simp[aj]at z this
    rw[z]at this
    cases this
  | succ fuel ih =>
   intro a g w hs O hd E
   refine⟨fun q=>fin a g w hs (aB a hs q) E,fun i hi=>?_⟩
   obtain⟨ac,o,ho,ar⟩:=mem_ready.1 hi
   have D : l[i]? = some o:=by simpa using ho
   have W:i<l.length:=(zh.1 D).1
   have Z : i<a.size:=by omega
   have H:c a i=false:=by
    simp only[c];simp[Z]at ac ⊢;exact ac
   -- the set behind it
   let S:=c a
   let J := c (a.setIfInBounds i true)
   have H:S i=false:=H
   have hd:Down l S:=hd
   have G : ∀ j,J j=(S j||j==i):=fun j=>I5 a i j Z
   have ai : Down l J := ⟨fun j B p Y e C hb=>by
    rw[G]at Y ⊢
    rcases tj.1 Y with h|h
    . rw[show S e.on=true from hd.closed j B p h e C hb];rfl
    . have:j=i:=by simpa using h
      subst this
      have:B=o:=Option.some.inj (p.symm.trans D)
      subst this
      rw[show S e.on=true from ar e C hb];rfl⟩
   have az:=fun j=>CU (S:=S) ap hd j
   have aP := fun j=>CU (S:=J) ap ai j
   -- what waits for i has not come up
   have R:∀ k,k<l.length->(pre.getD k []).contains i=true->S k=false:=by
    intro k I aM
    cases T:S k with
    | false=>rfl
    | true=>have:=az k T I i aM;rw[H]at this;cases this
   -- what i waits for has
   have ad:∀ k,(pre.getD i []).contains k=true->S k=true:=by
    intro k I
    have z:=aP i (by rw[G];simp) W k I
    rw[G]at z
    rcases tj.1 z with h|h
    . exact h
    . exfalso
      have e:k=i:=by simpa using h
      subst e
      have:=R k W I
      -- k is in fQ own list: then it has come up before itself
      have A:=zk.1 (zk.1 ap k (lU.2 W)) k (by simpa using I)
      rw[zm W]at A
      simp only[Option.any_some,List.any_eq_true,mC,decide_eq_true_eq,zQ,beq_iff_eq]at A
      obtain⟨e,C,⟨hb,aX⟩,N⟩:=A
      have aE:S e.on=true:=by
       have:l[k]=o:=by rw[zm W]at D; exact Option.some.inj D
       rw[this]at C
       exact ar e (by simpa using C) hb
      rcases N with N|N
      . omega
      . have:=az e.on aE o_ k (by simpa using N)
        rw[H]at this;cases this
   -- the slots that it looks at hold what they hold in the order of the text
   have agree:∀ t,t∈o.looksAt l.toArray->look (ja S 0 l (V.map (· g)) s0) t=look (ja (fun j=>decide (j<i)) 0 l (V.map (· g)) s0) t:=by
    intro t F
    rw[pg,pg]
    congr 1
    refine AS l 0 _ _ rfl fun j B p L=>⟨?_,fun _=>rfl⟩
    rw[lX]
    have aA:nt l.toArray B o=true:=by simp[nt,L,F]
    rcases GZ j i with h|h|h
    . simp[h,ad j (ae j i B o p D h (.inl aA))]
    . subst h;simp[H,S]
    . have:=R j (zh.1 p).1 (ae i j o B D p h (.inr aA))
      simp[this];omega
   have au:execOp (ev n (ja S 0 l (V.map (· g)) s0)) o=execOp (ev n (ja (fun j=>decide (j<i)) 0 l (V.map (· g)) s0)) o:=by
    refine execOp_congr o (fun cs b e=>?_) fun x X=>?_
    . have:=zk.1 aQ o (zd D)
      rw[e]at this
      simp[EW]at this
    . cases x with
      | tmp t =>
       simp only[ev]
       rw[agree t (ur _ (GV.2 ⟨.tmp t,by simpa using X,rfl⟩))]
      | _=>rfl
   have ab:gC l.toArray n (ja S 0 l (V.map (· g)) s0) o.guard=gC l.toArray n (ja (fun j=>decide (j<i)) 0 l (V.map (· g)) s0) o.guard:=by
    cases hg:o.guard with
    | none=>rfl
    | some gd =>
     obtain⟨jg,aZ⟩:=gd
     simp only[gC]
     have e:vW l.toArray.toList jg=(l.toArray[jg]?).bind (·.dst):=by rw[It];simp
     rw[e]
     cases hdg:(l.toArray[jg]?).bind (·.dst)with
     | none=>rfl
     | some d =>
      simp only[ev]
      rw[agree d (zL _ (by rw[hg];simp only;rw[hdg];simp))]
   -- the frame behind it
   have aq:(a.setIfInBounds i true).toList.countP (! ·)<=fuel:=by
    have:(a.setIfInBounds i true).toList.countP (! ·)+1<=a.toList.countP (! ·):=by
     rw[Md]
     have aw:i<a.toList.length:=by simpa using Z
     have aJ:a.toList[i]=false:=by simp[Z]at ac;simpa using ac
     have e:=tf i a.toList
     have e2:a.toList=a.toList.take i++false :: a.toList.drop (i+1):=by
      conv=>lhs;rw[<-e,zJ aw,aJ]
     have e3:a.toList.set i true=a.toList.take i++true :: a.toList.drop (i+1):=by
      rw[Ml,if_pos aw]
     rw[e3]
     conv=>rhs;rw[e2]
     simp[List.countP_append,BJ]
     omega
    omega
   have frame:∀ (s : Γ) (v:Γ->Value),V[i]? = some v->(∀ k u,V[k]? = some u->S k=true->u s = u g) ->
    (Fr n (ja S 0 l (V.map (· g)) s0) ds).put o.dst (v s)=Fr n (ja J 0 l (V.map (· s)) s0) ds:=by
    intro s v hv aR
    rw[zU]
    refine vF ds fun t=>?_
    rw[JK,pg,pg]
    by_cases hdt:o.dst=some t
    . rw[if_pos hdt]
      have:ni J t 0 l (V.map (· s))=some (v s):=by
       refine QO l 0 i _ o (v s) D hdt (by simp[hv]) (by rw[lX,G];simp) fun j B ak p L=>?_
       rw[lX,G]
       have aU:nt l.toArray o B=true:=by simp[nt,hdt,L]
       have:=R j (zh.1 p).1 (ae i j o B D p ak (.inl aU))
       simp[this];omega
      rw[this];rfl
    . rw[if_neg hdt]
      congr 1
      refine AS l 0 _ _ s_ fun j B p L=>?_
      rw[lX,G]
      have aL:¬ j=i:=by
       rintro rfl
       have:B=o:=Option.some.inj (p.symm.trans D)
       subst this
       exact hdt L
      refine⟨by simp[aL],fun Y=>?_⟩
      have ax:j<V.length:=by have:=(zh.1 p).1;omega
      simp only[zx,zm ax,vE]
      rw[aR j _ (zm ax) Y]
   obtain⟨v,hv,aa⟩:=av i o D
   unfold wpOpIn
   rw[ho]
   simp only
   by_cases himem:i∈mem
   . -- an operation on memory
     have ah:mem.contains i=true:=by simpa using himem
     rw[ah]at aa
     have ao:okD pre mem i (mem.filter S)=true:=RL al ad R H
     have aK:tO mem (mem.filter S) i=mem.filter J := by
      unfold tO
      refine ux fun j p=>?_
      rw[G]
      have:(mem.filter S).contains j=S j:=contains_filter p
      rw[this]
     have aD : M (mem.filter S) g w:=E
     have next:∀ v' w', (∃ s, M (tO mem (mem.filter S) i) s w' /\ v' = v s /\ mq pre i g s 0 V) ->
      wpAnyIn (FW r) 0 P .any l.toArray Q fuel (a.setIfInBounds i true) ((Fr n (ja S 0 l (V.map (· g)) s0) ds).put o.dst v') w' := by
      rintro v' w' ⟨s, af,rfl,aS⟩
      have:=ih (a.setIfInBounds i true) s w' (by simpa using hs) aq ai (by rw[show mem.filter (c (a.setIfInBounds i true))=tO mem (mem.filter S) i from aK.symm];exact af)
      rw[frame s v hv ?_]
      . exact this
      . intro k u I T
        refine mq.get V 0 aS k u I ?_
        rw[lX]
        have aN:k<l.length:=by have:=(zh.1 I).1;omega
        have z:(pre.getD k []).contains i=false:=by
         cases h:(pre.getD k []).contains i with
         | false=>rfl
         | true=>have:=R k aN h;rw[T]at this;cases this
        have A:¬ k=i:=by rintro rfl;rw[H]at T;cases T
        rw[z];simp[A]
     rcases aa _ ao g w aD with ⟨F,am,ag⟩|⟨F,K⟩
     . rw[rz,ab,F,if_pos rfl]
       refine⟨fun _ _=>trivial,?_⟩
       rw[semAt_eq (wD am),pR, au]
       rcases ag with ⟨v', w', q,K⟩|⟨w', q,K⟩|⟨f,args,q,hC⟩
       . rw[q];exact next v' w' K
       . rw[q];exact next undef w' K
       . rw[q]
         refine⟨fun h=>by simp[FW]at h,uK.2 (Calls.mono hC ?_)⟩
         intro e w' C
         cases e with
         | returned v' => exact next v' w' C
         | panicked ch =>
          refine C _ fun t aT => ?_
          rw[pg,CF l 0 _ (fun j B p L=>absurd L (aT B (zd p)))]
          rfl
         | outgrown=>exact C
     . rw[rz,ab,F]
       exact⟨fun _ _=>trivial,next undef w K⟩
   . have ah:mem.contains i=false:=by simpa using himem
     rw[ah]at aa
     have aG : mem.filter J = mem.filter S:=by
      refine ux fun j p=>?_
      rw[G]
      have:¬ j=i:=by rintro rfl;exact himem p
      simp[this]
     have ao:okD pre mem i (mem.filter S)=true:=RL al ad R H
     have next:∀ w', M (mem.filter S) g w' -> wpAnyIn (FW r) 0 P .any l.toArray Q fuel (a.setIfInBounds i true) ((Fr n (ja S 0 l (V.map (· g)) s0) ds).put o.dst (v g)) w' := by
      intro w' af
      have:=ih (a.setIfInBounds i true) g w' (by simpa using hs) aq ai (by rw[show mem.filter (c (a.setIfInBounds i true))=mem.filter S from aG];exact af)
      rw[frame g v hv (fun _ _ _ _=>rfl)]
      exact this
     rcases aa _ ao g w E with ⟨F,am,ag⟩|⟨F,K⟩
     . rw[rz,ab,F,if_pos rfl]
       refine⟨fun _ _=>trivial,?_⟩
       rw[semAt_eq (wD am),pR, au]
       rcases ag with q|⟨f,args,q,hC⟩
       . rw[q];exact next w E
       . rw[q]
         refine⟨fun h=>by simp[FW]at h,uK.2 (Calls.mono hC ?_)⟩
         rintro e w' ⟨v', rfl,rfl,aC⟩
         exact next w' aC
     . rw[rz,ab,F]
       exact⟨fun _ _=>trivial,by rw[<-K];exact next w E⟩
 have e0:Fr n s0 ds=Fr n (ja (c (Array.replicate l.toArray.size false)) 0 l (V.map (· g0)) s0) ds:=by
  refine vF ds fun t=>?_
  rw[pg,CF l 0 _ (fun j o _ _=>?_)]
  . rfl
  . simp only[c];exact uP _ _
 have hz:mem.filter (c (Array.replicate l.toArray.size false))=[]:=BF.2 fun j _=>by
  simp only[c];rw[uP];simp
 rw[e0]
 refine aV _ _ g0 _ s_ (kz Mr s_) ⟨fun j o _ h=>?_⟩ (by rw[hz];exact h0)
 exfalso
 simp only[c]at h
 rw[uP]at h
 cases h
end
def CA:List Nat->List Nat->Bool
 | [],[]=>true
 | a :: l,b :: m=>Nat.beq a b&&CA l m
 | _,_=>false
theorem PN:∀ {l m:List Nat},CA l m=true->l=m
 | [],[],_=>rfl
 | a :: l,b :: m,h=>by
  simp only[CA,mC]at h
  rw[zM h.1,PN h.2]
 | [],_ :: _,h=>by cases h
 | _ :: _,[],h=>by cases h
def uX{α:Type}:List (List Nat×α)->List Nat->Option α
 | [],_=>none
 | (k,a) :: l,d=>bif CA k d then some a else uX l d
section
variable {Γ:Type} {r:Option Nat} {P:Program} {ops:Array Oper} {Q:Exit->Act->World->Prop} {n:Nat} {ds:List Deferred} {s0:List (Nat×Value)} {l0 l:List Oper} {pre:List (List Nat)} {mem:List Nat} {V vs:List (Γ->Value)} {v:Γ->Value}
variable {bs:List (World×List Nat)} {Ls:List (List Nat×((Γ->List fT)×(Γ->World->Prop)))} {i:Nat} {s:Γ->List (Nat×Value)} {o:Oper} {L L' : Γ->List fT} {F F' : Γ->World->Prop}
def qm(bs:List (World×List Nat))(Ls:List (List Nat×((Γ->List fT)×(Γ->World->Prop))))(d:List Nat)(g:Γ)(w:World):Prop :=
 match uX Ls d with
 | some (L,F)=>St bs (L g) w/\F g w
 | none=>False
def zS(C:List Nat->(Γ->List fT)->(Γ->World->Prop)->Prop):List (List Nat×((Γ->List fT)×(Γ->World->Prop)))->Prop
 | []=>True
 | (d,L,F) :: r=>C d L F/\zS C r
theorem zS.get{C:List Nat->(Γ->List fT)->(Γ->World->Prop)->Prop}:∀ {Ls:List (List Nat×((Γ->List fT)×(Γ->World->Prop)))} {d:List Nat},zS C Ls->uX Ls d=some (L,F)->C d L F
 | [],_,_,h=>by cases h
 | (k,L0,F0) :: r,d,hf,h=>by
  simp only[uX]at h
  cases hk:CA k d with
  | true =>
   rw[hk]at h
   simp only[cond_true,Option.some.injEq,Prod.mk.injEq]at h
   obtain⟨rfl,rfl⟩:=h
   rw[<-PN hk]
   exact hf.1
  | false =>
   rw[hk]at h
   exact zS.get hf.2 h
theorem RH:mD P ops Q n ds s0 l0 pre mem V (qm bs Ls) i s [] []:=trivial
theorem nJ(hm:mem.contains i=false)(h:∀ g w C,mF P ops n o (s g) (v g) C w)(K:mD P ops Q n ds s0 l0 pre mem V (qm bs Ls) (i+1) (fun g=>kT o.dst (v g) (s g)) l vs) :
 mD P ops Q n ds s0 l0 pre mem V (qm bs Ls) i s (o :: l) (v :: vs):=by
 refine⟨?_,K⟩
 rw[hm]
 intro d _ g w e
 rcases h g w (qm bs Ls d g)with ⟨b,c,a|a⟩|a
 . exact .inl ⟨b,c,.inl a⟩
 . exact .inl ⟨b,c,.inr a⟩
 . exact .inr a
theorem Bc(hm:mem.contains i=false)(h:zS (fun d L F=>bif okD pre mem i d then ∀ g w,St bs (L g) w->F g w->mF P ops n o (s g) (v g) (fun w' => St bs (L g) w' /\ F g w') w else True) Ls)
 (K:mD P ops Q n ds s0 l0 pre mem V (qm bs Ls) (i+1) (fun g=>kT o.dst (v g) (s g)) l vs):mD P ops Q n ds s0 l0 pre mem V (qm bs Ls) i s (o :: l) (v :: vs):=by
 refine⟨?_,K⟩
 rw[hm]
 intro d hd g w a
 unfold qm at a ⊢
 cases hl:uX Ls d with
 | none=>rw[hl]at a;exact a.elim
 | some p =>
  obtain⟨L,F⟩:=p
  rw[hl]at a
  have b:=h.get hl
  simp only[hd,cond_true]at b
  exact b g w a.1 a.2
theorem Bb(hm:mem.contains i=true)
 (h:zS (fun d L F=>bif okD pre mem i d then ∃ L' F', uX Ls (tO mem d i)=some (L', F')/\∀ g w,St bs (L g) w->F g w->ny P ops Q n ds s0 l0 o (s g) (fun v' w' => ∃ b, (St bs (L' b) w' /\ F' b w')/\v' = v b /\ mq pre i g b 0 V) w else True) Ls)
 (K:mD P ops Q n ds s0 l0 pre mem V (qm bs Ls) (i+1) (fun g=>kT o.dst (v g) (s g)) l vs):mD P ops Q n ds s0 l0 pre mem V (qm bs Ls) i s (o :: l) (v :: vs):=by
 refine⟨?_,K⟩
 rw[hm]
 intro d hd g w a
 unfold qm at a ⊢
 cases hl:uX Ls d with
 | none=>rw[hl]at a;exact a.elim
 | some p =>
  obtain⟨L,F⟩:=p
  rw[hl]at a
  have c:=h.get hl
  simp only[hd,cond_true]at c
  obtain⟨L', F', f, e⟩:=c
  rw[f]
  exact e g w a.1 a.2
theorem SS{id:Nat}{w:World}(hm:P.follows .mixedOrders=true)(pre:List (List Nat))(mem:List Nat)(j:FI l pre mem=true)(V:List (Γ->Value))(Ls:List (List Nat×((Γ->List fT)×(Γ->World->Prop))))(a:Γ)
 (sE:Γ->List (Nat×Value)) (d:uX Ls []=some (L,F)) (k:St bs (L a) w) (c:∀ w', gw [] w w' -> F a w') (f:mD P l.toArray Q n ds s0 l pre mem V (qm bs Ls) 0 (fun _=>s0) l V)
 (b:∀ g,ja (fun _=>true) 0 l (V.map (· g)) s0=sE g) (e:uX Ls mem=some (L', F'))
 (i:∀ g w', St bs (L' g) w' -> F' g w' -> Q .normal (Fr n (sE g) ds) w'):WP r P (.region id l.toArray true) Q (Fr n s0 ds) w :=
 SO hm pre mem j V (qm bs Ls) a sE (by unfold qm;rw[d];exact⟨k.grow (gw.drew [] w),c _ (gw.drew [] w)⟩) f b fun g w' h=>by
  unfold qm at h
  rw[e]at h
  exact i g w' h.1 h.2
end
end Go.Sx
namespace Go.Sx
open Go
def sj(g:Nat->Nat)(i b:Nat):Nat->Nat:=fun j=>if j=i then b else g j
def q8(jf:List (Nat×(Nat->fT)))(c:Nat->Bool)(g:Nat->Nat):List fT:=jf.filterMap fun p=>if c p.1 then some (p.2 (g p.1))else none
theorem Rq{g:Nat->Nat}:∀ jf:List (Nat×(Nat->fT)),q8 jf (fun _=>false) g=[]
 | []=>rfl
 | p :: jf=>by rw[q8,rC];exact Rq jf
theorem Ro{c:Nat->Bool}{g:Nat->Nat}:∀ jf:List (Nat×(Nat->fT)),(∀ p∈jf,c p.1=true)->q8 jf c g=jf.map fun p=>p.2 (g p.1)
 | [],_=>rfl
 | p :: jf,h=>by
  have:=Ro jf (g:=g) fun x a=>h x (by simp[a])
  unfold q8 at *
  rw[rC,h p s_]
  simp[this]
theorem Rr{c c' : Nat->Bool}{g:Nat->Nat}{i b:Nat}:∀ jf:List (Nat×(Nat->fT)),(∀ p∈jf,p.1≠i)->(∀ p∈jf,c' p.1=(c p.1||p.1==i))->q8 jf c' (sj g i b)=q8 jf c g
 | [],_,_=>rfl
 | p :: jf,h,hc=>by
  have e:=Rr (g:=g) (b:=b) jf (fun x a=>h x (by simp[a])) (fun x a=>hc x (by simp[a]))
  have d:=h p s_
  have f:c' p.1=c p.1:=by rw[hc p s_];simp[d]
  unfold q8 at *
  rw[rC,rC,e,f]
  simp[sj,d]
theorem Rp{c c' : Nat->Bool}{g:Nat->Nat}{i b:Nat}{R:Nat->fT}:∀ jf:List (Nat×(Nat->fT)),(i,R)∈jf->(jf.map (·.1)).Nodup->c i=false->(∀ p∈jf,c' p.1=(c p.1||p.1==i))->(R b :: q8 jf c g).Perm (q8 jf c' (sj g i b))
 | [],h,_,_,_=>by simp at h
 | p :: jf,h,hn,hi,hc=>by
  rw[lV,zu]at hn
  rcases ze.1 h with rfl|h
  . have d:=Rr (g:=g) (b:=b) jf (fun x a e=>hn.1 (by rw[show (i,R).1=x.1 from e.symm];exact List.mem_map_of_mem a)) (fun x a=>hc x (by simp[a]))
    have j:c' i=true:=by rw[hc (i,R) s_];simp
    unfold q8 at *
    rw[rC,rC,d]
    simp only[hi,j]
    simp[sj]
  . have d:=Rp (g:=g) (b:=b) jf h hn.2 hi fun x a=>hc x (by simp[a])
    have k:p.1≠i:=fun e=>hn.1 (e▸List.mem_map_of_mem (f:=(·.1)) h)
    have j:c' p.1=c p.1:=by rw[hc p s_];simp[k]
    unfold q8 at *
    rw[rC,rC,j]
    cases c p.1 with
    | false=>simpa using d
    | true =>
     simp only[if_true,sj,k,if_false]
     exact(List.Perm.swap _ _ _).trans (d.cons _)
section
variable {r:Option Nat} {P:Program} {ops:Array Oper} {Q:Exit->Act->World->Prop} {n:Nat} {ds:List Deferred} {s0:List (Nat×Value)} {l0 l:List Oper} {pre:List (List Nat)} {mem:List Nat} {V vs:List ((Nat->Nat)->Value)} {v:(Nat->Nat)->Value}
variable {bs:List (World×List Nat)} {i q:Nat} {s:(Nat->Nat)->List (Nat×Value)} {o:Oper} {L0:List fT} {LE:(Nat->Nat)->List fT} {jf:List (Nat×(Nat->fT))} {R:Nat->fT} {val:Nat->Value}
def rJ(bs:List (World×List Nat))(jf:List (Nat×(Nat->fT)))(L0:List fT)(q:Nat)(LE:(Nat->Nat)->List fT)(d:List Nat)(g:Nat->Nat)(w:World):Prop :=
 if d.contains q=true then St bs (LE g) w else St bs (q8 jf (fun j=>d.contains j) g++L0) w
def AV(pre:List (List Nat))(mem:List Nat)(jf:List (Nat×(Nat->fT)))(q:Nat):Prop:=(jf.map (·.1)).Nodup/\(∀ p∈jf,mem.contains p.1=true/\(pre.getD q []).contains p.1=true/\p.1≠q)/\mem.contains q=true
theorem J4{is:List Nat}(h:jf.map (·.1)=is)(h1:(decide is.Nodup&&is.all (fun j=>mem.contains j&&(pre.getD q []).contains j && !(j==q))&&mem.contains q)=true):AV pre mem jf q:=by
 simp only[mC,decide_eq_true_eq,zk]at h1
 refine⟨h▸h1.1.1,fun p hp=>?_,h1.2⟩
 have:=h1.1.2 p.1 (h▸List.mem_map_of_mem hp)
 exact⟨this.1.1,this.1.2,by simpa using this.2⟩
theorem Kk{M:List Nat->(Nat->Nat)->World->Prop}:mD P ops Q n ds s0 l0 pre mem V M i s [] []:=trivial
theorem mR{M:List Nat->(Nat->Nat)->World->Prop}(hm:mem.contains i=false)(h:∀ g w C,mF P ops n o (s g) (v g) C w)(K:mD P ops Q n ds s0 l0 pre mem V M (i+1) (fun g=>kT o.dst (v g) (s g)) l vs) :
 mD P ops Q n ds s0 l0 pre mem V M i s (o :: l) (v :: vs):=by
 refine⟨?_,K⟩
 rw[hm]
 intro d _ g w e
 rcases h g w (M d g)with ⟨b,c,a|a⟩|a
 . exact .inl ⟨b,c,.inl a⟩
 . exact .inl ⟨b,c,.inr a⟩
 . exact .inr a
theorem Jp{d:List Nat}{j:Nat}(h:mem.contains j=true):(tO mem d i).contains j=(d.contains j||j==i):=by
 unfold tO
 exact contains_filter (S:=fun j=>d.contains j||j==i) (by simpa using h)
theorem Ko{d:List Nat}{m:Nat}(h:okD pre mem i d=true)(hm:mem.contains m=true):d.contains i=false/\((pre.getD i []).contains m=true->d.contains m=true)/\((pre.getD m []).contains i=true->d.contains m=false):=by
 unfold okD at h
 simp only[mC,zk,zQ,GX]at h
 have b:=h.2 m (by simpa using hm)
 refine⟨h.1,fun e=>?_,fun e=>?_⟩
 . rcases b.1 with a|a
   . rw[e]at a;cases a
   . exact a
 . rcases b.2 with a|a
   . exact a
   . rw[e]at a;cases a
theorem sW(hk:AV pre mem jf q)(hp:(i,R)∈jf)(hv:∀ g b,v (sj g i b)=val b)(h:∀ g w L,St bs L w->∀ N,(∀ b w', St bs (R b :: L) w' -> N (val b) w')->ny P ops Q n ds s0 l0 o (s g) N w)
 (hs:∀ g b,mq pre i g (sj g i b) 0 V) (K:mD P ops Q n ds s0 l0 pre mem V (rJ bs jf L0 q LE) (i+1) (fun g=>kT o.dst (v g) (s g)) l vs) :
 mD P ops Q n ds s0 l0 pre mem V (rJ bs jf L0 q LE) i s (o :: l) (v :: vs):=by
 obtain⟨m,r,t⟩:=hk.2.1 _ hp
 refine⟨?_,K⟩
 rw[m]
 intro d hd g w a
 have f:=Ko hd hk.2.2
 have k:=f.2.2 r
 unfold rJ at a
 rw[if_neg (by rw[k];decide)]at a
 refine h g w _ a _ fun b w' x => ⟨sj g i b,?_,(hv g b).symm,hs g b⟩
 unfold rJ
 rw[if_neg (by rw[Jp hk.2.2,k];simp;exact fun e=>t e.symm)]
 exact x.perm ((Rp (c:=fun j=>d.contains j) (c' := fun j=>(tO mem d i).contains j) jf hp hk.1 f.1 fun p u => Jp (hk.2.1 p u).1).append_right L0)
theorem Kj(hk:AV pre mem jf q)(hv:∀ g b,v (sj g q b)=val b)(h:∀ g w,St bs ((jf.map fun p=>p.2 (g p.1))++L0) w->∀ N,(∀ b w', St bs (LE (sj g q b)) w' -> N (val b) w')->ny P ops Q n ds s0 l0 o (s g) N w)
 (hs:∀ g b,mq pre q g (sj g q b) 0 V) (K:mD P ops Q n ds s0 l0 pre mem V (rJ bs jf L0 q LE) (q+1) (fun g=>kT o.dst (v g) (s g)) l vs) :
 mD P ops Q n ds s0 l0 pre mem V (rJ bs jf L0 q LE) q s (o :: l) (v :: vs):=by
 refine⟨?_,K⟩
 rw[hk.2.2]
 intro d hd g w a
 have e:=(Ko hd hk.2.2).1
 unfold rJ at a
 rw[if_neg (by rw[e];decide),Ro (c:=fun j=>d.contains j) jf fun p hp=>(Ko hd (hk.2.1 p hp).1).2.1 (hk.2.1 p hp).2.1]at a
 refine h g w a _ fun b w' f => ⟨sj g q b,?_,(hv g b).symm,hs g b⟩
 unfold rJ
 rw[if_pos (by rw[Jp hk.2.2];simp)]
 exact f
theorem KO{id:Nat}{w:World}(hm:P.follows .mixedOrders=true)(pre:List (List Nat))(mem:List Nat)(jf:List (Nat×(Nat->fT)))(q:Nat)(e:FI l pre mem=true)(f:mem.contains q=true)(V:List ((Nat->Nat)->Value))(LE:(Nat->Nat)->List fT)(sE:(Nat->Nat)->List (Nat×Value))
 (i:St bs L0 w) (c:mD P l.toArray Q n ds s0 l pre mem V (rJ bs jf L0 q LE) 0 (fun _=>s0) l V) (b:∀ g,ja (fun _=>true) 0 l (V.map (· g)) s0=sE g)
 (d:∀ g w', St bs (LE g) w' -> Q .normal (Fr n (sE g) ds) w'):WP r P (.region id l.toArray true) Q (Fr n s0 ds) w :=
 SO hm pre mem e V (rJ bs jf L0 q LE) (fun _=>0) sE (by unfold rJ;rw[if_neg s_];have a:q8 jf (fun j=>([]:List Nat).contains j) (fun _=>0)=[]:=Rq (g:=fun _=>0) jf;rw[a];exact i.grow (gw.drew [] w)) c b fun g w' h=>by
  unfold rJ at h
  rw[if_pos f]at h
  exact d g w' h
end
end Go.Sx
namespace Go.Sx
open Go
def Gw(w w' : World):Prop:=∃ q os,w' = Go.Sort.grow (w.drewN q) os
theorem Gw.drew(w:World):Gw w w.drew:=⟨1,#[],by rw[Go.Sort.grow_empty];rfl⟩
theorem Gw.alloc{w w' : World}(h:Gw w w')(o:Obj):Gw w (w'.alloc o):=by
 obtain⟨q,os,rfl⟩:=h
 exact⟨q,os ++ #[o],by rw[Go.Sort.alloc_eq_grow,Go.Sort.grow_grow]⟩
section
variable {Γ:Type} {r:Option Nat} {P:Program} {ops:Array Oper} {Q:Exit->Act->World->Prop} {n:Nat} {ds:List Deferred} {s0 s:List (Nat×Value)} {l:List Oper} {bs:List (World×List Nat)} {L:List fT} {w w0:World} {dd:Option Nat} {t e:TypeId} {ty:TypeId} {pos:String} {af:Array Edge} {g:Option (Nat×Bool)} {Nx:Value->World->Prop} {z:Value} {sz by_:Nat}
variable {L0 L' : Γ->List fT} {F F' : Γ->World->Prop}
theorem ad9{id:Nat}{w:World}(hm:P.follows .mixedOrders=true)(pre:List (List Nat))(mem:List Nat)(j:FH l pre mem=true)(V:List (Γ->Value))(Ls:List ((Γ->List fT)×(Γ->World->Prop)))(a:Γ)
 (sE:Γ->List (Nat×Value)) (e:Ls[0]? = some (L0,F)) (k:St bs (L0 a) w) (d:F a w.drew) (f:lY P l.toArray Q n ds s0 l pre mem V (jC bs Ls) 0 (fun _=>s0) l V)
 (c:∀ g,ja (fun _=>true) 0 l (V.map (· g)) s0=sE g) (b:Ls[mem.length]? = some (L', F'))
 (i:∀ g w', St bs (L' g) w' -> F' g w' -> Q .normal (Fr n (sE g) ds) w'):WP r P (.region id l.toArray true) Q (Fr n s0 ds) w :=
 SN hm pre mem j V (jC bs Ls) a sE ((jC.at e).2 ⟨k.grow (gw.drew [] w),d⟩) f c fun g w' h=>i g w' ((jC.at b).1 h).1 ((jC.at b).1 h).2
theorem abz{len:Nat}{ps:List (Nat×Operand)}{vs cs:List Value}(d:Gw w0 w)(h:gC ops n s g=true)(hp:ps.map (fun q=>(q.1,ev n s q.2))=idx 0 vs)(k:P.underlying t=some (.slice e))(hi:TI P e sz by_ z)
 (i:vs.length=len) (hv:∀ v∈vs,v.cells.size=sz) (hcs:vs.flatMap (·.cells.toList)=cs) (c:Nat.ble (len*sz) 16777216=true) (a:Nat.ble len 16777216=true) (j:St bs L w)
 (K:∀ b w', St bs (row (.slice (some ⟨b,0,none⟩) len len) e sz len cs :: L) w' -> Gw w0 w' -> Nx (.slice (some ⟨b,0,none⟩) len len) w') :
 ny P ops Q n ds s0 l ⟨dd,.buildSlice t len ps.toArray,ty,pos,af,g⟩ s Nx w:=by
 subst i hcs
 have f:(vs.flatMap (·.cells.toList)).length=vs.length*sz:=by
  clear hp c a K
  induction vs with
  | nil=>simp
  | cons v vs o=>simp only[z7,zp,zb,tg,hv v s_,o (fun u m=>hv u (by simp[m])),rG];omega
 refine Fp h rfl (N3 hp k hi ?_ (pL c)) (K _ _ (Rz j e sz _ _ f (by have:=pL a;simp only[maxLen];omega)) (d.alloc _))
 rw[P9 sz vs 0 _ hv s_]
 simp
end
end Go.Sx
namespace Go.Sx
open Go
def Au(dl:List Nat):List Deferred:=dl.map fun d=>⟨.collected d,#[]⟩
def sQ(dl:List Nat):fT:=gm (dl.map fun d=>jK d (some []))
section
variable {r:Option Nat} {P:Program} {Q:Exit->Act->World->Prop} {n:Nat} {s:List (Nat×Value)} {w w' : World}
def My{α:Type}(n:Nat)(D:α->List Nat)(pre:α->List (Nat×Value))(C:α->World->Prop)(μ:α->Nat)(m:Nat)(a:Act)(w:World):Prop :=
 ∃ x s,a=Fr n s (Au (D x))/\Holds s (pre x)/\C x w/\μ x<m
theorem NM{α:Type}{D:α->List Nat}{pre:α->List (Nat×Value)}{C:α->World->Prop}{μ:α->Nat}{m:Nat}(x:α)(h:Holds s (pre x))(a:C x w)(hm:μ x<m):My n D pre C μ m (Fr n s (Au (D x))) w :=
 ⟨x,s,rfl,h,a,hm⟩
theorem Q8{α:Type}{c:Code}(D:α->List Nat)(pre:α->List (Nat×Value))(C:α->World->Prop)(μ:α->Nat)(h:α)(q:Holds s (pre h))(t:C h w)
 (H:∀ x I w', C x w' -> WP r P c (Exit.then (My n D pre C μ (μ x)) Q) (Fr n (pre x++I) (Au (D x))) w'):WP r P (.loop c) Q (Fr n s (Au (D h))) w:=by
 intro b k cs E hb i
 have key:∀ j x s w,μ x=j->Holds s (pre x)->C x w ->
  ∃ e a' w', Q e a' w' /\ ArrivesIn (Machine.fenced P (FW r)) P (lone (b.atR (Fr n s (Au (D x))) (.code c :: .inLoop c :: k)) cs w) b k cs e a' w' := by
  intro j
  induction j using Nat.strongRecOn with
  | _ j G =>
   intro x s w A hs v
   obtain⟨e,g,f,d,a⟩:=H x s w v b (.inLoop c :: k) cs E hb i
   rw[<-MA (pre x) hs]at a
   cases e with
   | normal =>
    obtain⟨m,J,rfl,F,u,z⟩:=d
    obtain⟨p,o,K,B,y⟩:=G (μ m) (A▸z) m J f rfl F u
    exact⟨p,o,K,B,.of_steps (StepsIn.trans a (.one (fenced_calm hb i rfl) stepR_inLoop)) y⟩
   | exit id=>exact⟨_,g,f,d,.pass (x:=.inLoop c) rfl (fun _ _=>.inl s_) a⟩
   | goto l=>exact⟨_,g,f,d,.pass (x:=.inLoop c) rfl (fun _ _=>.inl s_) a⟩
   | ret=>exact⟨_,g,f,d,.pass (x:=.inLoop c) rfl (fun _ _=>.inl s_) a⟩
   | panic ch=>exact⟨_,g,f,d,.pass (x:=.inLoop c) rfl (fun _ _=>.inl s_) a⟩
   | outgrown=>exact⟨_,g,f,d,.pass (x:=.inLoop c) rfl (fun _ _=>.inl s_) a⟩
 obtain⟨e,a', w', d,a⟩:=key _ h s w rfl q t
 exact⟨e,a', w', d,.of_steps (.one (fenced_calm hb i rfl) stepR_loop) a⟩
variable {bs:List (World×List Nat)} {L:List fT} {d:Nat} {dl:List Nat} {fn:Func} {tmps:Array Value} {RR:Ending->World->Prop}
theorem St.OB(h:St bs L w):St bs (sQ [] :: L) w:=St.pack [] L h
theorem St.OC(h:St bs (jK d (some []) :: sQ dl :: L) w):St bs (sQ (d :: dl) :: L) w:=by
 have a:St bs ((dl.map fun d=>jK d (some []))++(jK d (some []) :: L)) w:=St.unpack h.swap
 exact St.pack _ _ (a.perm uz)
theorem E7:∀ (dl:List Nat) {w:World},St bs (sQ dl :: L) w->(∀ w', St bs L w' -> ∃ v,(results fn tmps).run P w' = .ok v w' /\ RR (.returned v) w')->LeavesInM (FW none) 0 P fn tmps RR (Au dl) .returning w
 | [],w,hst,K=>K w (St.unpack (A:=[]) hst)
 | d :: dl,w,hst,K=>by
  have a:St bs (jK d (some []) :: ((dl.map fun d=>jK d (some []))++L)) w:=St.unpack hst
  refine⟨s_,.inl ⟨d,_,rfl,run_takeDeferred (a.own _ za),E7 dl ?_ K⟩⟩
  have b:=(a.SA (i:=0) rfl none).sub (Mp _ _)
  exact St.pack _ _ b
end
end Go.Sx
namespace Go.Sx
open Go
def yL(b:Bool)(rc:Loop):Loop:=if b then { rc with state:=.done,pending:=some .ret } else rc
section
variable {P:Program} {ops:Array Oper} {Q:Exit->Act->World->Prop} {rest:List Oper} {n:Nat} {s:List (Nat×Value)} {ds:List Deferred} {w:World}
variable {x:Operand} {l:Nat} {bs:List (World×List Nat)} {L LL:List fT} {i:Nat} {rc:Loop}
theorem OK{R:Ending->World->Prop}{a:Act}(i:Nat)(b:St bs L w)(hi:L[i]? = some (iT l { rc with state:=.busy }))(c:L.set i (iT l (yL true rc))=LL)(K:∀ w', St bs LL w' -> R (.returned (.bool false)) w'):roundPost P l R .ret a w:=by
 refine⟨_,_,run_endRound (some .ret) (b.yC hi),K _ ?_⟩
 subst c
 exact b.CV hi _
theorem rfx{f:FuncId}{fi ca:List Value}{ps:List Nat}{a c:Code}{α:Type}(j:α->List fT)(C:α->Prop)(stop:α->Bool)(A:St bs L w)(B:ev n s x = .func (.func f) fi.toArray ca.toArray)(t:gi P f)
 (h1:∀ fn dd l o rc,rc=(⟨.ready,none,fn,(Fr n s ds).tmps,ps.toArray,a,c,dd⟩:Loop)->St bs (iT l rc :: jK dd (some []) :: L) o ->
  CR P f (fi++[Value.func (.yield l) #[] #[]]++ca).toArray o (fun _ p=>∃ z,C z/\St bs (iT l (yL (stop z) rc) :: jK dd (some []) :: j z) p))
 (q:∀ z dd g,C z->stop z=false->St bs (jK dd (some []) :: j z) g->Q .normal (Fr n s (⟨.collected dd,#[]⟩ :: ds)) g)
 (r:∀ z dd g,C z->stop z=true->St bs (jK dd (some []) :: j z) g->Q .ret (Fr n s (⟨.collected dd,#[]⟩ :: ds)) g):WP none P (.rangeFunc x ps.toArray a c) Q (Fr n s ds) w:=by
 refine wpIn_rangeFunc fun fn _=>?_
 have u:St bs (jK w.heap.size (some []) :: L) (w.alloc (.deferred (some []))) :=
  A.sN (gw.alloc [] w _) (fun b hb=>by simp[jK]at hb;omega) (by simp[jK]) (fun b hb=>by simp[jK]at hb;simp;omega) (World.alloc_heap_new w _)
 have y:St bs (iT (w.heap.size+1) ⟨.ready,none,fn,(Fr n s ds).tmps,ps.toArray,a,c,w.heap.size⟩ :: jK w.heap.size (some []) :: L) ((w.alloc (.deferred (some []))).alloc (.loop ⟨.ready,none,fn,(Fr n s ds).tmps,ps.toArray,a,c,w.heap.size⟩)) :=
  u.sN (gw.alloc [] _ _) (fun b hb=>by simp[iT]at hb;simp;omega) (by simp[iT]) (fun b hb=>by simp[iT]at hb;simp;omega) (by have:=World.alloc_heap_new (w.alloc (.deferred (some []))) (.loop ⟨.ready,none,fn,(Fr n s ds).tmps,ps.toArray,a,c,w.heap.size⟩);simpa[iT]using this)
 refine⟨w.heap.size+1,_,_,⟨.fn (.func f) ca.toArray,(fi++[Value.func (.yield (w.heap.size+1)) #[] #[]]).toArray⟩,((w.alloc (.deferred (some []))).alloc (.loop ⟨.ready,none,fn,(Fr n s ds).tmps,ps.toArray,a,c,w.heap.size⟩)),f,(fi++[Value.func (.yield (w.heap.size+1)) #[] #[]]++ca).toArray,((w.alloc (.deferred (some []))).alloc (.loop ⟨.ready,none,fn,(Fr n s ds).tmps,ps.toArray,a,c,w.heap.size⟩)),run_enterLoop_outer fn _ _ _ _,?_,fun _ _=>trivial,?_,fun h=>by simp[FW]at h,?_⟩
 . rw[pR]
   simp only[resolve,rangeCall,Deferred.ofValue,B]
   simp[ev]
 . have:=t ((fi++[Value.func (.yield (w.heap.size+1)) #[] #[]]++ca).toArray) ((w.alloc (.deferred (some []))).alloc (.loop ⟨.ready,none,fn,(Fr n s ds).tmps,ps.toArray,a,c,w.heap.size⟩))
   simp only[invoke]
   simpa using this
 . refine uK.2 (Calls.mono (h1 fn w.heap.size (w.heap.size+1) _ _ rfl y) ?_)
   rintro e p ⟨v,rfl,z,k,d⟩
   have m:=fun D => (d.CV (i:=0) rfl D).sub (Mp _ _)
   cases hz:stop z with
   | false =>
    rw[hz]at d
    refine⟨none,_,run_endLoop (d.yC (i:=0) rfl) (by simp[yL]),?_⟩
    exact q z w.heap.size _ k hz (m _)
   | true =>
    rw[hz]at d
    refine⟨some .ret,_,run_endLoop (d.yC (i:=0) rfl) (by simp[yL]),?_⟩
    exact wpIn_ret (r z w.heap.size _ k hz (m _))
end
end Go.Sx
namespace Go.Sx
open Go
section
variable {α:Type} {sz:Nat} {cf:α->List Value} {w w' : World} {v u:Value} {xs:List α} {bs:List (World×List Nat)} {L:List fT} {R:fT}
theorem St.rr{e:TypeId}(h:St bs L w)(i:Nat)(hi:L[i]? = some (fL cf v e sz xs))(a:∀ x:α,(cf x).length=sz:=by exact fun _=>rfl):gY sz cf (fun b=>v.ownBlock=some b) w v xs:=St.yO h hi a
theorem St.oR(h:St bs L w)(i:Nat)(hi:L[i]? = some R):Own R w:=St.Kr h hi
theorem St.bc{b o:Nat}{T:TypeId}{cs:List Value}(h:St bs L w)(i:Nat)(hi:L[i]? = some (blk b T cs))(hv:cs[o]? = some v):w.cell? ⟨b,o,none⟩=some v:=St.rU h hi hv
theorem rO{p:Prop}(h:p:=by first|rfl|omega):p:=h
theorem iW{p:Prop}(h:p:=by rw[oh o_];omega):p:=h
theorem sT{p:Prop}(h:p:=by repeat (first|exact afc|refine lu rfl ?_|refine lu trivial ?_)):p:=h
end
end Go.Sx
