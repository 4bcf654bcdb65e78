/- Plain lemmas: rules for walking through code, one for each operation, over any program; an evaluator of closed calls with its soundness; and plain mathematics. No conditions. -/
import Derived.Test.YtoceanggliccgaaGreatDoorFb
import Derived.Test.YtoceanggliccgaaGreatDoorFa
import Derived.Lib.TrailingZeros
import Derived.Sort.Grow
import Derived.Deep.Draws
import Derived.Shelf.GgSortFunc.InsertionK
set_option linter.unusedVariables false
set_option linter.unusedSectionVars false
set_option linter.unusedSimpArgs false
namespace Go.Sx
open Go
theorem v8(b:Nat){a:Nat}(h:a<=9223372036854775807):IntKind.i64.wrap ((a:Int).tdiv (b:Int))=((a / b:Nat):Int):=by
 have:a / b<=a:=Nat.div_le_self _ _
 rw[Int.tdiv_eq_ediv_of_nonneg o_,show (a:Int) / (b:Int)=((a / b:Nat):Int) from rfl]
 generalize a / b=c at this
 rw[IntKind.wrap_i64]
 omega
theorem CV(b:Nat){a:Nat}:(a:Int).tmod (b:Int)=((a%b:Nat):Int):=by
 rw[yP o_];rfl
def ja(x y:Int):Int:=if x<y then -1 else if y<x then 1 else 0
theorem NS(x y:Int):gR .i64 (ja x y):=by
 show (-9223372036854775808:Int)<=_/\_<=(9223372036854775807:Int)
 unfold ja
 (repeat' split)<;>omega
def l7:List Int->Int
 | []=>0
 | x :: l=>if x=0 then l7 l else x
theorem Rc{xs:List Int}{k:Nat}(h:∀ j x,j<k->xs[j]? = some x->x=0):l7 xs=l7 (xs.drop k):=by
 induction xs generalizing k with
 | nil=>simp[l7]
 | cons y xs c =>
  cases k with
  | zero=>rfl
  | succ k =>
   have a:=h 0 y o_ rfl
   simp only[l7,if_pos a,List.drop_succ_cons]
   exact c fun j x d b=>h (j+1) x o_ (by simpa using b)
theorem Ra{xs:List Int}{k:Nat}{x:Int}(h:∀ j x,j<k->xs[j]? = some x->x=0)(c:xs[k]? = some x)(a:x≠0):l7 xs=x:=by
 rw[Rc h]
 have:=(ze.1 c)
 obtain⟨b,e⟩:=this
 rw[yS b,e]
 simp[l7,a]
theorem Rb{xs:List Int}{k:Nat}(h:∀ j x,j<k->xs[j]? = some x->x=0)(hk:k=xs.length):l7 xs=0:=by
 rw[Rc h,hk]
 simp[l7]
theorem Re{xs:List Int}{k:Nat}{y:Int}(h:∀ j x,j<k->xs[j]? = some x->x=0)(c:xs[k]? = some y)(b:y=0):∀ j x,j<k+1->xs[j]? = some x->x=0:=by
 intro j x d a
 by_cases e:j=k
 . subst e
   rw[c]at a
   cases a
   exact b
 . exact h j x o_ a
theorem Rg(a b:gF):l7 [ja a.key b.key,ja a.ix b.ix]=qd a b:=by
 unfold l7 l7 l7 ja qd
 (repeat' split)<;>omega
structure jq (n:Nat) (ps:List (Option Nat)) (pl:List Nat):Prop where
 len:pl.length=64*ps.length
 room:n<=pl.length
 zero:∀ j,ps[j]? = some none->∀ i,i / 64=j->fJ pl i=0
 val:∀ i,fJ pl i<=65536
 n:n<=65536
 top:ps.length<=1000000
theorem jq.at{n:Nat}{ps:List (Option Nat)}{pl:List Nat}(h:jq n ps pl){i:Nat}(hi:i<n):i / 64<ps.length:=by
 have a:=h.len
 have b:=h.room
 omega
theorem jq.UZ{n:Nat}{ps:List (Option Nat)}{pl:List Nat}(h:jq n ps pl){j:Nat}(b:ps[j]? = some none):List.replicate 64 (Value.int .i64 0)=((pl.drop (64*j)).take 64).flatMap (fun(x:Nat)=>[.int .i64 (x:Int)]):=by
 have g:=(ze.1 b).1
 have i:=h.len
 have e:(pl.drop (64*j)).take 64=List.replicate 64 0:=by
  rw[List.eq_replicate_iff]
  refine⟨by rw[zy,uZ];omega,fun x f=>?_⟩
  obtain⟨q,d,rfl⟩:=GB.1 f
  rw[zy,uZ]at d
  have a:=h.zero j b (64*j+q) o_
  have c:64*j+q<pl.length:=by omega
  simp only[fJ,zk c,Dw]at a
  simp[a]
 rw[e]
 rfl
theorem jq.set{n:Nat}{ps:List (Option Nat)}{pl:List Nat}(h:jq n ps pl){i p b:Nat}(hi:i<n)(hp:p<=65536)(hb:ps[i / 64]? = some (some b)):jq n ps (jc pl i p):=by
 have d:=h.room
 refine⟨by simp only[jc,gC];exact h.len,by simp only[jc,gC];exact d,fun j a q c=>?_,fun q=>?_,h.n,h.top⟩
 . unfold jc
   rw[iS o_,if_neg (fun e=>by subst e;rw[c]at hb;rw[a]at hb;cases hb)]
   exact h.zero j a q c
 . unfold jc
   rw[iS o_]
   split
   . exact hp
   . exact h.val q
theorem jq.made{n:Nat}{ps:List (Option Nat)}{pl:List Nat}(h:jq n ps pl){j b:Nat}:jq n (ps.set j (some b)) pl:=by
 refine⟨by rw[List.length_set];exact h.len,h.room,fun q a=>?_,h.val,h.n,by rw[List.length_set];exact h.top⟩
 rw[rS]at a
 split at a
 . split at a<;>cases a
 . exact h.zero q a
instance:Inhabited (Option Nat):=⟨none⟩
abbrev fV(x:Nat):List Value:=[.int .i64 (x:Int)]
theorem paN{p:Nat}(h:p<=65536):IntKind.i64.wrap (((p:Int)-1).tdiv 2)=((pa p:Nat):Int):=by
 cases p with
 | zero=>rfl
 | succ p =>
  have e:((p+1:Nat):Int)-1=(p:Int):=by omega
  rw[e]
  have:=v8 2 (a:=p) o_
  exact this
def rq(xs:List gF)(p:Nat):Int:=if 0<p/\iE (fJ xs p) (fJ xs (pa p))then(pa p:Int)else -1
def nC(xs:List gF)(p:Nat):Int:=if jt xs p=p then -1 else(jt xs p:Int)
theorem T8{xs:List gF}{p:Nat}(h:rq xs p ≠ -1):rq xs p=((pa p:Nat):Int)/\0<p/\iE (fJ xs p) (fJ xs (pa p)):=by
 unfold rq at h ⊢
 split
 . rename_i a;exact⟨rfl,a⟩
 . rename_i a;rw[if_neg a]at h;exact absurd rfl h
theorem T9{xs:List gF}{p:Nat}(h:rq xs p = -1):¬ (0<p/\iE (fJ xs p) (fJ xs (pa p))):=by
 intro a
 unfold rq at h
 rw[if_pos a]at h
 omega
theorem Uz{xs:List gF}{p:Nat}(h:nC xs p ≠ -1):nC xs p=((jt xs p:Nat):Int)/\jt xs p≠p:=by
 unfold nC at h ⊢
 split
 . rename_i a;rw[if_pos a]at h;exact absurd rfl h
 . rename_i a;exact⟨rfl,a⟩
theorem UA{xs:List gF}{p:Nat}(h:nC xs p = -1):jt xs p=p:=by
 unfold nC at h
 split at h
 . assumption
 . omega
structure nW (n:Nat) (xs ys:List gF) (ps qs:List (Option Nat)) (pl:List Nat):Prop where
 hp:Hp n ys pl
 gN:jq n qs pl
 len:ys.length=xs.length
 mem:∀ e,e∈ys↔e∈xs
 oM:qs.length=ps.length
theorem nW.swap{n:Nat}{xs ys:List gF}{ps c a:List (Option Nat)}{pl:List Nat}{p q:Nat}(h:nW n xs ys ps c pl)(hp:p<ys.length)(b:q<ys.length)(f:a.length=c.length)
 (d:jq n a (jc (jc pl (fJ (iF ys p q) p).ix (p+1)) (fJ (iF ys p q) q).ix (q+1))):nW n xs (iF ys p q) ps a (jc (jc pl (fJ (iF ys p q) p).ix (p+1)) (fJ (iF ys p q) q).ix (q+1)) :=
 ⟨h.hp.swap hp b,d,by rw[mE,h.len],fun e=>(KJ hp b e).trans (h.mem e),f.trans h.oM⟩
theorem nW.refl{n:Nat}{xs:List gF}{ps:List (Option Nat)}{pl:List Nat}(h:Hp n xs pl)(a:jq n ps pl):nW n xs xs ps ps pl:=⟨h,a,rfl,fun _=>Iff.rfl,rfl⟩
theorem nW.trans{n:Nat}{xs ys zs:List gF}{ps b c:List (Option Nat)}{pl a:List Nat}(h:nW n xs ys ps b pl)(k:nW n ys zs b c a):nW n xs zs ps c a :=
 ⟨k.hp,k.gN,k.len.trans h.len,fun e=>(k.mem e).trans (h.mem e),k.oM.trans h.oM⟩
theorem jq.copy{n k:Nat}{ps b:List (Option Nat)}{pl:List Nat}(h:jq n ps pl)(c:qu ps b k)(hk:k=ps.length):jq n b pl :=
 ⟨by rw[c.len];exact h.len,h.room,fun j a i hi=>h.zero j (c.done j (by have:=(ze.1 a).1;have:=c.len;omega) a) i hi,h.val,h.n,by rw[c.len];exact h.top⟩
theorem jq.new{n m:Nat}(b:n<=65536)(hm:m=(n+63) / 64):jq n (List.replicate m none) (List.replicate (64*m) 0):=by
 have a:∀ i,fJ (List.replicate (64*m) 0) i=0:=fun i=>by
  unfold fJ
  rw[sI]
  split<;>rfl
 exact⟨s_,by simp;omega,fun j _ i _=>a i,fun i=>by rw[a];omega,b,by simp;omega⟩
theorem Hp.new{n m:Nat}(hm:m=(n+63) / 64):Hp n [] (List.replicate (64*m) 0):=by
 have a:∀ i,fJ (List.replicate (64*m) 0) i=0:=fun i=>by
  unfold fJ
  rw[sI]
  split<;>rfl
 exact⟨fun p hp=>by simp at hp,fun p hp=>by simp at hp,fun p hp=>by simp at hp,fun i p _ hp=>by rw[a]at hp;omega,by simp;omega,s_⟩
theorem Ord.nil:Ord []:=fun j _ a=>by simp at a
end Go.Sx
namespace Go.Sx
open Go
def lN{α:Type}(cf:α->List Value)(e:TypeId)(l:List (Value×List α)):fT:=gj (l.map fun p=>fL cf p.1 e 1 p.2)
abbrev xC(e:TypeId)(l:List (Value×List Nat)):fT:=lN fV e l
theorem set_perm{α:Type}:∀ (l:List α) (i:Nat) (x:α),i<l.length->(l.set i x).Perm (x :: l.eraseIdx i)
 | y :: l,0,x,_=>List.Perm.refl _
 | y :: l,i+1,x,h=>((set_perm l i x (by simpa using h)).cons y).trans (List.Perm.swap _ _ _)
 | [],i,x,h=>by simp at h
theorem Pv{α:Type}[Inhabited α]{l:List α}{i:Nat}(h:i<l.length):l.Perm (fJ l i :: l.eraseIdx i):=by
 have a:=set_perm l i (fJ l i) h
 have b:l.set i (fJ l i)=l:=by
  apply nS
  intro j
  rw[rS]
  split
  . rename_i c
    subst c
    exact(gB h).symm
  . rfl
 rwa [b]at a
abbrev kJ{α:Type}(p:Value×List α):List Value:=[p.1]
instance {α:Type}:Inhabited (Value×List α):=⟨(.slice none 0 0,[])⟩
section
variable {α:Type} {cf:α->List Value} {bs:List (World×List Nat)} {L:List fT} {w:World} {e:TypeId} {l:List (Value×List α)} {i:Nat}
theorem St.Jg{a:List (Value×List α)}(h:St bs (lN cf e l :: L) w)(hp:l.Perm a):St bs (lN cf e a :: L) w :=
 St.pack _ _ ((St.unpack h).perm ((hp.map _).append_right _))
theorem St.aal{p:Value×List α}(h:St bs (lN cf e (p :: l) :: L) w):St bs (fL cf p.1 e 1 p.2 :: lN cf e l :: L) w:=by
 have a:St bs (([fL cf p.1 e 1 p.2]++l.map fun p=>fL cf p.1 e 1 p.2)++L) w:=St.unpack h
 rw[ox]at a
 have b:=a.perm (L' := (l.map fun p=>fL cf p.1 e 1 p.2)++([fL cf p.1 e 1 p.2]++L)) (by
  rw[<-ox,<-ox]
  exact List.Perm.append_right _ qp)
 exact(St.pack _ _ b).swap
theorem St.HV{p:Value×List α}(h:St bs (fL cf p.1 e 1 p.2 :: lN cf e l :: L) w):St bs (lN cf e (p :: l) :: L) w:=by
 have a:St bs ((l.map fun p=>fL cf p.1 e 1 p.2)++(fL cf p.1 e 1 p.2 :: L)) w:=St.unpack h.swap
 refine St.pack _ _ (a.perm ?_)
 show List.Perm _ (fL cf p.1 e 1 p.2 :: ((l.map fun p=>fL cf p.1 e 1 p.2)++L))
 exact tT
theorem St.Cq(i:Nat)(h:St bs (lN cf e l :: L) w)(hi:i<l.length):St bs (fL cf (fJ l i).1 e 1 (fJ l i).2 :: lN cf e (l.eraseIdx i) :: L) w :=
 (h.Jg (Pv hi)).aal
theorem St.Qh{v:Value}{xs:List α}(h:St bs (fL cf v e 1 xs :: lN cf e (l.eraseIdx i) :: L) w)(hi:i<l.length):St bs (lN cf e (fN l i (fun _=>(v,xs))) :: L) w :=
 (St.HV (p:=(v,xs)) h).Jg (set_perm l i (v,xs) hi).symm
theorem St.Jf(h:St bs (fL cf (fJ l i).1 e 1 (fJ l i).2 :: lN cf e (l.eraseIdx i) :: L) w)(hi:i<l.length):St bs (lN cf e l :: L) w :=
 (St.HV (p:=fJ l i) h).Jg (Pv hi).symm
theorem St.aam(h:St bs L w):St bs (lN cf e [] :: L) w:=St.pack [] L h
theorem St.Qg(n:Nat)(h:St bs L w):St bs (lN cf e (List.replicate n (.slice none 0 0,[])) :: L) w:=by
 induction n with
 | zero=>exact h.aam
 | succ n a=>exact St.HV (p:=(.slice none 0 0,[])) (St.D8 a e 1)
theorem vO{a b v:Value}(hi:i<l.length)(hv:(fJ l i).1=v):(a :: b :: l.flatMap kJ)[2+i]? = some v:=by
 have h:=vI (cf:=kJ) (sz:=1) (fun _=>rfl) l i 0 (fJ l i) v (gB hi) (by rw[<-hv];rfl)
 rw[rW,qt]at h
 rw[Nat.add_comm]
 exact h
theorem Jd{a b v:Value}{xs:List α}(hi:i<l.length):setAt (a :: b :: l.flatMap kJ) (2+i) [v]=a :: b :: (fN l i (fun _=>(v,xs))).flatMap kJ:=by
 have h:=Fy (cf:=kJ) (sz:=1) (off:=0) (vs:=[v]) (f:=fun _=>(v,xs)) (fun _=>rfl) hi rfl (zj _)
 rw[rW,qt]at h
 have c:=Sk (a:=[a,b]) (b:=l.flatMap kJ) (vs:=[v]) (o:=i)
 rw[h]at c
 exact c
theorem ZW{a b:Value}(hi:i<l.length):2+i+1<=(a :: b :: l.flatMap kJ).length:=by
 rw[zd,zd,rA (sz:=1) (fun _=>rfl)]
 omega
end
end Go.Sx
namespace Go.Sx
open Go
structure gP where
 st:Int
 after:Int
 times:Int
 deriving Inhabited
def gP.cells(x:gP):List Value:=[.int .i64 x.st,.int .i64 x.after,.int .u64 x.times]
structure As where
 n:Nat
 begun:Nat
 used:Nat
 last:Int
 sl:List gP
 fl:List Nat
 ps:List (Option Nat)
def BH(sl:List gP):Int->List Nat->Prop
 | l,[]=>l = -1
 | l,i :: r=>l=(i:Int)/\BH sl (fJ sl i).after r
def As.gX(A:As)(i:Nat):Prop:=i<A.begun/\i∉A.fl
structure As.ok (A:As):Prop where
 n:A.n<=65536
 le:A.begun<=A.n
 oM:A.ps.length=(A.begun+63) / 64
 ps:∀ j,j<A.ps.length->∃ b,A.ps[j]? = some (some b)
 sl:A.sl.length=64*A.ps.length
 nodup:A.fl.Nodup
 fl:∀ i∈A.fl,i<A.begun
 chain:BH A.sl A.last A.fl
 st:∀ i,i<A.begun->(fJ A.sl i).st=if i∈A.fl then 2 else 1
 used:A.used+A.fl.length=A.begun
theorem CK:∀ (L M:List Nat),L.Nodup->(∀ j∈L,j∈M)->L.length<=M.length
 | [],_,_,_=>by simp
 | x :: L,M,hn,h=>by
  have b:=h x s_
  have c:=CK L (M.erase x) (zt.1 hn).2 (fun j a=>(List.mem_erase_of_ne (fun e=>(zt.1 hn).1 (by rw[<-e];exact a))).2 (h j (by simp[a])))
  rw[Lu b]at c
  have:=LB b
  simp only[zd]
  omega
theorem AS(n:Nat)(L:List Nat)(b:L.Nodup)(h:∀ j∈L,j<n):L.length<=n:=by
 have:=CK L (List.range n) b (fun j a=>zz.2 (h j a))
 simpa using this
theorem As.ok.room{A:As}(h:A.ok){i:Nat}(hi:i<A.begun):i<A.sl.length/\i / 64<A.ps.length:=by
 have a:=h.sl
 have b:=h.oM
 omega
theorem As.ok.at{A:As}(h:A.ok){i:Nat}(hi:i<A.begun):∃ b,A.ps[i / 64]? = some (some b):=h.ps _ (h.room hi).2
theorem BH.congr{sl a : List gP}:∀ {r:List Nat} {l:Int},BH sl l r->(∀ i∈r,(fJ a i).after=(fJ sl i).after)->BH a l r
 | [],_,h,_=>h
 | i :: r,l,h,he=>⟨h.1,by rw[he i s_];exact h.2.congr fun j b=>he j (by simp[b])⟩
def tk(x:gP):gP:=⟨1,-1,IntKind.u64.wrap (x.times+1)⟩
theorem K7{sl:List gP}{i:Nat}(hi:i<sl.length){t:Int}(a:t=IntKind.u64.wrap ((fJ sl i).times+1)):fN (fN (fN sl i (fun x=>{ x with st:=1 })) i (fun x=>{ x with after := -1 })) i (fun x=>{ x with times:=t })=fN sl i tk:=by
 subst a
 have e:∀ (l:List gP) (f g:gP->gP),i<l.length->fN (fN l i f) i g=fN l i (fun x=>g (f x)):=fun l f g h=>by
  have e:=ko (f:=f) h
  unfold fN at e ⊢
  rw[e,List.set_set]
 rw[e _ _ _ hi,e _ _ _ hi]
 rfl
theorem As.ok.pop{A:As}(h:A.ok){i:Nat}{r:List Nat}(d:A.fl=i :: r) :
 As.ok ⟨A.n,A.begun,A.used+1,(fJ A.sl i).after,fN A.sl i tk,r,A.ps⟩/\(∀ j,As.gX ⟨A.n,A.begun,A.used+1,(fJ A.sl i).after,fN A.sl i tk,r,A.ps⟩ j↔A.gX j\/j=i)/\¬ A.gX i/\i<A.begun/\A.last=(i:Int):=by
 have o:=h.chain
 have g:=h.nodup
 rw[d]at o g
 rw[zt]at g
 have p:i<A.begun:=h.fl i (by rw[d];simp)
 have t:=(h.room p).1
 have m:=fun j=>iS (xs:=A.sl) (k:=i) (j:=j) (f:=tk) t
 refine⟨⟨h.n,h.le,h.oM,h.ps,by simp only[gC];exact h.sl,g.2,fun j l=>h.fl j (by rw[d];simp[l]),?_,fun j l=>?_,?_⟩,fun j=>?_,fun m=>m.2 (by rw[d];simp),p,o.1⟩
 . refine o.2.congr fun j l=>?_
   rw[m,if_neg (fun e=>g.1 (by rw[e];exact l))]
 . simp only
   rw[m]
   split
   . rename_i e
     subst e
     rw[if_neg g.1]
     rfl
   . rename_i e
     have:=h.st j l
     rw[this,d]
     simp only[zb]
     by_cases h1:j∈r
     . rw[if_pos (.inr h1),if_pos h1]
     . rw[if_neg (fun q=>q.elim (fun s=>e s.symm) h1),if_neg h1]
 . have:=h.used
   rw[d]at this
   simp only[zd]at this
   show A.used+1+r.length=A.begun
   omega
 . simp only[As.gX,d,zb,not_or]
   constructor
   . rintro⟨a,b⟩
     by_cases e:j=i
     . exact .inr e
     . exact .inl ⟨a,e,b⟩
   . rintro(⟨a,b,c⟩|rfl)
     . exact⟨a,c⟩
     . exact⟨p,g.1⟩
theorem As.ok.fresh{A:As}(h:A.ok)(a:A.fl=[])(v:A.begun<A.n){ps2:List (Option Nat)}{sl2:List gP}{b:Nat}(hb:(A.begun%64=0/\ps2=A.ps++[some b]/\sl2=A.sl++List.replicate 64 ⟨0,0,0⟩)\/(A.begun%64≠0/\ps2=A.ps/\sl2=A.sl)) :
 As.ok ⟨A.n,A.begun+1,A.used+1,A.last,fN sl2 A.begun tk,[],ps2⟩/\(∀ j,As.gX ⟨A.n,A.begun+1,A.used+1,A.last,fN sl2 A.begun tk,[],ps2⟩ j↔A.gX j\/j=A.begun)/\¬ A.gX A.begun/\A.last = -1/\A.begun<sl2.length/\∃ c,ps2[A.begun / 64]? = some (some c):=by
 have g:=h.chain
 have q:=h.sl
 have u:=h.oM
 rw[a]at g
 have r:ps2.length=(A.begun+1+63) / 64/\sl2.length=64*ps2.length/\(∀ j,j<ps2.length->∃ b,ps2[j]? = some (some b))/\∀ j,j<A.begun->fJ sl2 j=fJ A.sl j:=by
  rcases hb with ⟨e,rfl,rfl⟩|⟨e,rfl,rfl⟩
  . refine⟨by simp;omega,by simp;omega,fun j d=>?_,fun j d=>?_⟩
    . rw[BB]
      split
      . exact h.ps j (by assumption)
      . simp at d
        have:j-A.ps.length=0:=by omega
        rw[this]
        exact⟨b,rfl⟩
    . unfold fJ
      rw[sH o_]
  . exact⟨o_,q,h.ps,fun j _=>rfl⟩
 obtain⟨s,p2,p,t⟩:=r
 have o:A.begun<sl2.length:=by omega
 have l:=fun j=>iS (xs:=sl2) (k:=A.begun) (j:=j) (f:=tk) o
 refine⟨⟨h.n,by show A.begun+1<=A.n;omega,s,p,by simp only[gC];exact p2,wR,fun i hi=>by simp at hi,g,fun j d=>?_,?_⟩,fun j=>?_,fun l=>absurd l.1 o_,g,o,p _ o_⟩
 . simp only[oB,if_false]
   rw[l]
   split
   . rfl
   . rename_i e
     have m : j<A.begun:=by
      have:j<A.begun+1:=d
      omega
     rw[t j m, h.st j m, a]
     simp
 . have:=h.used
   rw[a]at this
   simp at this ⊢
   omega
 . simp only[As.gX,a,oB,not_false_eq_true,and_true]
   omega
theorem As.ok.full{A:As}(h:A.ok)(b:A.used<A.n):(∃ i r,A.fl=i :: r)\/(A.fl=[]/\A.begun<A.n):=by
 have a:=h.used
 cases hf:A.fl with
 | cons i r=>exact .inl ⟨i,r,rfl⟩
 | nil =>
  rw[hf]at a
  simp at a
  exact .inr ⟨rfl,o_⟩
theorem As.ok.free{A:As}(h:A.ok){i:Nat}(hi:A.gX i){sl2:List gP}(hs:sl2=fN (fN A.sl i (fun x=>{ x with st:=2 })) i (fun x=>{ x with after:=A.last })) :
 As.ok ⟨A.n,A.begun,A.used-1,(i:Int),sl2,i :: A.fl,A.ps⟩/\(∀ j,As.gX ⟨A.n,A.begun,A.used-1,(i:Int),sl2,i :: A.fl,A.ps⟩ j↔A.gX j/\j≠i)/\0<A.used:=by
 obtain⟨g,k⟩:=hi
 have m:=(h.room g).1
 have f:=h.used
 have s:0<A.used:=by
  have r:(i :: A.fl).length<=A.begun:=by
   have q:(i :: A.fl).Nodup:=zt.2 ⟨k,h.nodup⟩
   exact AS A.begun _ q fun j d=>by
    rcases zb.1 d with rfl|d
    . exact g
    . exact h.fl j d
  simp only[zd]at r
  omega
 have l:∀ j,fJ sl2 j=if i=j then { fJ A.sl i with st:=2,after:=A.last } else fJ A.sl j:=fun j=>by
  subst hs
  rw[iS (by rw[gC];exact m)]
  by_cases e:i=j
  . rw[if_pos e,if_pos e,ko m]
  . rw[if_neg e,if_neg e,j5 e]
 refine⟨⟨h.n,h.le,h.oM,h.ps,by rw[hs];simp only[gC];exact h.sl,zt.2 ⟨k,h.nodup⟩,fun j d=>?_,⟨rfl,?_⟩,fun j d=>?_,by simp only[zd];omega⟩,fun j=>?_,s⟩
 . rcases zb.1 d with rfl|d
   . exact g
   . exact h.fl j d
 . rw[l,if_pos rfl]
   refine h.chain.congr fun j d=>?_
   rw[l,if_neg (fun e=>k (by rw[e];exact d))]
 . simp only
   rw[l]
   split
   . rename_i e
     subst e
     simp
   . rename_i e
     rw[h.st j d]
     simp only[zb]
     by_cases f:j∈A.fl
     . rw[if_pos f,if_pos (.inr f)]
     . rw[if_neg f,if_neg (fun o=>o.elim (fun p=>e p.symm) f)]
 . simp only[As.gX,zb,not_or]
   constructor
   . rintro⟨a,b,c⟩;exact⟨⟨a,c⟩,b⟩
   . rintro⟨⟨a,c⟩,b⟩;exact⟨a,b,c⟩
def As.list(A:As)(k:Nat):List Nat:=(List.range k).filter fun i=>decide ((fJ A.sl i).st=1)
theorem As.Qu(A:As)(k:Nat):A.list (k+1)=if (fJ A.sl k).st=1 then A.list k++[k]else A.list k:=by
 unfold As.list
 rw[sL,wQ]
 split
 . rename_i h;simp[h]
 . rename_i h;simp[h]
theorem As.Qt(A:As):∀ k,(A.list k).length<=k:=fun k=>by
 have:=yU (fun i=>decide ((fJ A.sl i).st=1)) (List.range k)
 simpa[As.list]using this
theorem As.ok.oL{A:As}(h:A.ok)(i:Nat):i∈A.list A.begun↔A.gX i:=by
 simp only[As.list,mV,zz,decide_eq_true_eq,As.gX]
 constructor
 . rintro⟨a,b⟩
   refine⟨a,fun c=>?_⟩
   rw[h.st i a,if_pos c]at b
   omega
 . rintro⟨a,b⟩
   exact⟨a,by rw[h.st i a,if_neg b]⟩
theorem As.CC(A:As)(k:Nat):(A.list k).Pairwise (· < ·):=List.Pairwise.filter _ GA
theorem As.ok.AJ{A:As}(h:A.ok):(A.list A.begun).length=A.used:=by
 have i:(A.list A.begun++A.fl).Nodup:=by
  rw[zr]
  refine⟨(A.CC _).imp (fun h=>Nat.ne_of_lt h),h.nodup,fun a g b hb e=>?_⟩
  subst e
  exact((h.oL a).1 g).2 hb
 have d:(A.list A.begun++A.fl).length<=A.begun:=AS _ _ i fun j c=>by
  rcases zo.1 c with c|c
  . exact((h.oL j).1 c).1
  . exact h.fl j c
 have f:(List.range A.begun).length<=(A.list A.begun++A.fl).length:=by
  refine CK _ _ u5 fun j c=>?_
  rw[zz]at c
  by_cases e:j∈A.fl
  . exact yV _ e
  . exact yW _ ((h.oL j).2 ⟨c,e⟩)
 have k:=h.used
 simp only[zq,qq]at d f
 omega
def As.new(n:Nat):As:=⟨n,0,0,-1,[],[],[]⟩
theorem As.tv{n:Nat}(b:n<=65536):(As.new n).ok :=
 ⟨b,mU _,by simp[As.new],fun j a=>by simp[As.new]at a,rfl,wR,fun i hi=>by simp[As.new]at hi,rfl,fun i hi=>by simp[As.new]at hi,rfl⟩
theorem As.ok.copy{A:As}(h:A.ok){a:List (Option Nat)}(c:a.length=A.ps.length)(d:∀ j,j<a.length->∃ b,a[j]? = some (some b)):As.ok { A with ps:=a } :=
 ⟨h.n,h.le,by show a.length=_;rw[c];exact h.oM,d,by show A.sl.length=_;rw[h.sl,c],h.nodup,h.fl,h.chain,h.st,h.used⟩
theorem aeG{α:Type}(l:List α)(B k:Nat):l.take (B*k)++(l.drop (B*k)).take B=l.take (B*(k+1)):=by
 rw[BF,rW,List.take_add]
structure wT (qs:List (Option Nat)) (k:Nat):Prop where
 len:qs.length=k
 all:∀ j,j<qs.length->∃ b,qs[j]? = some (some b)
theorem wT.start:wT [] 0:=⟨rfl,fun j a=>by simp at a⟩
theorem wT.next{a:List (Option Nat)}{k b:Nat}(h:wT a k):wT (a++[some b]) (k+1) :=
 ⟨by simp[h.len],fun j c=>by
  rw[BB]
  split
  . exact h.all j (by assumption)
  . simp at c
    have:j-a.length=0:=by omega
    rw[this]
    exact⟨b,rfl⟩⟩
theorem U0{α:Type}{l:List α}{B m k:Nat}(a:l.length=B*m)(hk:k<m):((l.drop (B*k)).take B).length=B/\(l.take (B*k)).length=B*k:=by
 have:B*(k+1)<=B*m:=BD _ hk
 rw[BF]at this
 rw[zy,uZ,zy]
 omega
end Go.Sx
namespace Go.Sx
open Go
def ig(n c:Nat):Nat:=if c+1=n then 0 else c+1
def dst(n a b:Nat):Nat:=if a<=b then b-a else b+n-a
theorem JO{n c:Nat}(h:c<n):ig n c<n:=by unfold ig;split<;>omega
theorem abI{n c:Nat}(h:c<n):(c+1)%n=ig n c:=by
 unfold ig
 split
 . rename_i e;rw[e,Nat.mod_self]
 . exact Nat.mod_eq_of_lt o_
theorem En{n a b:Nat}(c:a<n)(hb:b<n):dst n a b<n:=by unfold dst;split<;>omega
theorem uu(n a:Nat):dst n a a=0:=by simp[dst]
theorem Ep{n a b:Nat}(c:a<n)(hb:b<n):dst n a b=0↔a=b:=by unfold dst;split<;>omega
theorem VX{n a c:Nat}(b:a<n)(d:c<n)(h:ig n c≠a):dst n a (ig n c)=dst n a c+1:=by
 unfold dst ig at *
 split at h<;>split<;>(try split)<;>(try split)<;>omega
theorem Eo{n z c:Nat}(b:z<n)(a:c<n)(h:c≠z):dst n (ig n c) z+1=dst n c z:=by
 unfold dst ig at *
 (repeat' split)<;>omega
theorem Em{n a b c:Nat}(d:a<n)(hb:b<n)(e:c<n)(h:dst n a b=dst n a c):b=c:=by
 unfold dst at h
 (repeat' split at h)<;>omega
abbrev qY(n a b q:Nat):Prop:=dst n a q<dst n a b
def q7(n:Nat)(cs:List Nat)(hm:Nat->Nat):Prop:=∀ c i q,c<n->q<n->fJ cs c=i+1->qY n (hm i) c q->fJ cs q≠0
def ux(n:Nat)(cs:List Nat)(ok:Nat->Bool):Nat->Nat->Nat×Bool
 | 0,_=>(0,false)
 | f+1,c=>if fJ cs c=0 then(c,false)else if ok (fJ cs c-1)then(c,true)else ux n cs ok f (ig n c)
theorem Pn{n:Nat}{cs:List Nat}{ok:Nat->Bool}{z:Nat}(i:z<n)(j:fJ cs z=0):∀ (f c:Nat),c<n->dst n c z<f -> 
 ∃ r,r<n/\dst n c r<=dst n c z/\(∀ q,q<n->dst n c q<dst n c r->fJ cs q≠0/\ok (fJ cs q-1)=false)/\((ux n cs ok f c=(r,false)/\fJ cs r=0)\/(ux n cs ok f c=(r,true)/\fJ cs r≠0/\ok (fJ cs r-1)=true)):=by
 intro f
 induction f with
 | zero=>intro c _ h;omega
 | succ f o =>
  intro c a s
  unfold ux
  by_cases h1:fJ cs c=0
  . exact⟨c,a,by rw[uu];omega,fun q _ b=>by rw[uu]at b;omega,.inl ⟨by rw[if_pos h1],h1⟩⟩
  . rw[if_neg h1]
    by_cases h2:ok (fJ cs c-1)=true
    . exact⟨c,a,by rw[uu];omega,fun q _ b=>by rw[uu]at b;omega,.inr ⟨by rw[if_pos h2],h1,h2⟩⟩
    . rw[if_neg h2]
      have k:c≠z:=fun e=>h1 (by rw[e];exact j)
      have hs:=Eo i a k
      obtain⟨r,g,hd,b,m⟩:=o (ig n c) (JO a) o_
      have l:c≠r:=by
       intro e
       subst e
       have e1:dst n (ig n c) c=n-1:=by unfold dst ig;(repeat' split)<;>omega
       have p:dst n (ig n c) z<n-1:=by
        have:=En a i
        omega
       omega
      have u:=Eo g a l
      refine⟨r,g,o_,fun q d t=>?_,m⟩
      by_cases hqc:c=q
      . subst hqc
        exact⟨h1,by simpa using h2⟩
      . have v:=Eo d a hqc
        exact b q d o_
theorem Yy{n:Nat}{cs:List Nat}{ok:Nat->Bool}{hm:Nat->Nat}{p i:Nat}(m:q7 n cs hm)(hp:p<n)(hi:fJ cs p=i+1)(b:hm i<n)(o:ok i=true)(t:∀ q j,q<n->fJ cs q=j+1->ok j=true->q=p)(u:∃ z,z<n/\fJ cs z=0):ux n cs ok n (hm i)=(p,true):=by
 obtain⟨z,k,v⟩:=u
 obtain⟨r,c,hd,s,h⟩:=Pn (ok:=ok) k v n (hm i) b (En b k)
 rcases h with ⟨d,a⟩|⟨d,a,l⟩
 . exfalso
   rcases wS (dst n (hm i) r) (dst n (hm i) p)with f|f
   . exact m p i r hp c hi f a
   . rcases wS (dst n (hm i) p) (dst n (hm i) r)with g|g
     . have:=(s p hp g).2
       rw[hi,Nat.add_sub_cancel,o]at this
       cases this
     . have e:=Em b c hp o_
       rw[e,hi]at a
       omega
 . have:=t r (fJ cs r-1) c o_ l
   rw[d,this]
theorem Yx{n:Nat}{cs:List Nat}{ok:Nat->Bool}{c:Nat}(e:c<n)(i:∀ q j,q<n->fJ cs q=j+1->ok j=false)(o:∃ z,z<n/\fJ cs z=0):∃ r,r<n/\ux n cs ok n c=(r,false)/\fJ cs r=0/\∀ q,q<n->qY n c r q->fJ cs q≠0:=by
 obtain⟨z,g,p⟩:=o
 obtain⟨r,f,hd,k,h⟩:=Pn (ok:=ok) g p n c e (En e g)
 rcases h with ⟨a,b⟩|⟨a,b,d⟩
 . exact⟨r,f,a,b,fun q m l=>(k q m l).1⟩
 . have:=i r (fJ cs r-1) f o_
   rw[this]at d
   cases d
theorem q7.put{n:Nat}{cs:List Nat}{hm:Nat->Nat}{r i:Nat}(h:q7 n cs hm)(s:cs.length=n)(u:r<n)(o:fJ cs r=0)(m:∀ q,q<n->qY n (hm i) r q->fJ cs q≠0)(p:hm i<n):q7 n (fN cs r (fun _=>i+1)) hm:=by
 intro c j q g d a b
 have l:=fun q=>iS (xs:=cs) (k:=r) (j:=q) (f:=fun _=>i+1) o_
 rw[l]at a ⊢
 split
 . omega
 . rename_i t
   split at a
   . rename_i e
     have:j=i:=by omega
     subst this
     subst e
     exact m q d b
   . exact h c j q g d a b
structure oS (n:Nat) (hm:Nat->Nat) (i0:Nat) (cs0 cs:List Nat) (hole c z:Nat):Prop where
 len:cs.length=n
 vL:hole<n
 NR:c<n
 DB:z<n
 home:∀ p i,p<n->p≠hole->fJ cs p=i+1->hm i<n
 inj:∀ p q,p<n->q<n->p≠hole->q≠hole->fJ cs p≠0->fJ cs p=fJ cs q->p=q
 mem:∀ i,(∃ p,p<n/\p≠hole/\fJ cs p=i+1)↔i≠i0/\∃ p,p<n/\fJ cs0 p=i+1
 way:∀ p i q,p<n->q<n->p≠hole->q≠hole->fJ cs p=i+1->qY n (hm i) p q->fJ cs q≠0
 Rp:∀ p i,p<n->p≠hole->fJ cs p=i+1->qY n (hm i) p hole->dst n hole c<dst n hole p
 zero:fJ cs z=0
 zc:dst n hole c<dst n hole z
theorem oS.start{n:Nat}{hm:Nat->Nat}{i0:Nat}{cs:List Nat}{hole z:Nat}(j:q7 n cs hm)(l:cs.length=n)(b:hole<n)(hi:fJ cs hole=i0+1)(g:z<n)(h:fJ cs z=0)(k:∀ p i,p<n->fJ cs p=i+1->hm i<n)
 (f:∀ p q,p<n->q<n->fJ cs p≠0->fJ cs p=fJ cs q->p=q):oS n hm i0 cs cs hole hole z:=by
 have o:hole≠z:=fun e=>by rw[e,h]at hi;omega
 refine⟨l,b,b,g,fun p i hp _=>k p i hp,fun p q hp d _ _=>f p q hp d,fun i=>⟨?_,?_⟩,fun p i q hp d _ _ a m=>j p i q hp d a m,fun p i hp c _ _=>?_,h,?_⟩
 . rintro⟨p,hp,c,a⟩
   refine⟨fun e=>c (f p hole hp b o_ (by rw[a,hi,e])),p,hp,a⟩
 . rintro⟨c,p,hp,a⟩
   exact⟨p,hp,fun e=>c (by rw[e,hi]at a;omega),a⟩
 . rw[uu]
   have:=mt (Ep b hp).1 (fun e=>c e.symm)
   omega
 . rw[uu]
   have:=mt (Ep b g).1 o
   omega
section
variable {n:Nat} {hm:Nat->Nat} {i0:Nat} {cs0 cs:List Nat} {hole c z:Nat}
theorem oS.next(h:oS n hm i0 cs0 cs hole c z):ig n c<n/\ig n c≠hole/\dst n hole (ig n c)=dst n hole c+1/\c≠z/\dst n (ig n c) z<dst n c z:=by
 have i:=h.zc
 have a:=h.NR
 have b:=h.vL
 have d:=h.DB
 have f:c≠z:=fun e=>by rw[e]at i;omega
 have hs:=Eo d a f
 have g:ig n c≠hole:=by
  intro e
  have:dst n hole c=n-1:=by rw[<-e];unfold dst ig;(repeat' split)<;>omega
  have:=En b d
  omega
 exact⟨JO a,g,VX b a g,f,o_⟩
theorem oS.skip(h:oS n hm i0 cs0 cs hole c z){i:Nat}(hi:fJ cs (ig n c)=i+1)(k:dst n (hm i) (ig n c)<dst n hole (ig n c)):oS n hm i0 cs0 cs hole (ig n c) z:=by
 obtain⟨a,m,o,q,r⟩:=h.next
 refine⟨h.len,h.vL,a,h.DB,h.home,h.inj,h.mem,h.way,fun p j hp b f d=>?_,h.zero,?_⟩
 . have s:=h.Rp p j hp b f d
   have:p≠ig n c:=by
    intro e
    subst e
    have:j=i:=by omega
    subst this
    have t:=h.home _ _ a b f
    have l:=h.vL
    unfold qY dst at *
    (repeat' split at d)<;>(repeat' split at k)<;>omega
   have g:dst n hole p≠dst n hole (ig n c):=fun e=>this (Em h.vL hp a e)
   omega
 . have:z≠ig n c:=fun e=>by
    have:=h.zero
    rw[e,hi]at this
    omega
   have g:dst n hole z≠dst n hole (ig n c):=fun e=>this (Em h.vL h.DB a e)
   have:=h.zc
   omega
theorem oS.move(h:oS n hm i0 cs0 cs hole c z){i:Nat}(hi:fJ cs (ig n c)=i+1)(w:¬ dst n (hm i) (ig n c)<dst n hole (ig n c)):oS n hm i0 cs0 (fN cs hole (fun _=>i+1)) (ig n c) (ig n c) z:=by
 obtain⟨b,g,E,F,G⟩:=h.next
 have y:=h.len
 have v:=h.vL
 have x:=h.home _ _ b g hi
 have d:=fun q=>iS (xs:=cs) (k:=hole) (j:=q) (f:=fun _=>i+1) o_
 have C:hole≠z:=fun e=>by
  have:=h.zc
  rw[<-e,uu]at this
  omega
 have D:z≠ig n c:=fun e=>by
  have:=h.zero
  rw[e,hi]at this
  omega
 have B:qY n (hm i) (ig n c) hole:=by
  unfold qY dst at *
  (repeat' split at w)<;>(repeat' split)<;>omega
 refine⟨by rw[gC];exact y,b,b,h.DB,fun p j hp m a=>?_,fun p q hp o t u s l=>?_,fun j=>?_,fun p j q hp o t u a r=>?_,fun p j hp m a r=>?_,?_,?_⟩
 . rw[d]at a
   split at a
   . have:j=i:=by omega
     subst this
     exact x
   . rename_i A
     exact h.home p j hp (fun e=>A e.symm) a
 . rw[d]at s l
   rw[d]at l
   by_cases e1:hole=p
   . by_cases e2:hole=q
     . omega
     . rw[if_pos e1,if_neg e2]at l
       have:=h.inj q (ig n c) o b (fun e=>e2 e.symm) g o_ o_
       exact absurd this u
   . by_cases e2:hole=q
     . rw[if_neg e1,if_pos e2]at l
       have:=h.inj p (ig n c) hp b (fun e=>e1 e.symm) g o_ o_
       exact absurd this t
     . rw[if_neg e1,if_neg e2]at l
       rw[if_neg e1]at s
       exact h.inj p q hp o (fun e=>e1 e.symm) (fun e=>e2 e.symm) s l
 . rw[<-h.mem j]
   constructor
   . rintro⟨p,hp,m,a⟩
     rw[d]at a
     by_cases e1:hole=p
     . rw[if_pos e1]at a
       exact⟨ig n c,b,g,o_⟩
     . rw[if_neg e1]at a
       exact⟨p,hp,fun e=>e1 e.symm,a⟩
   . rintro⟨p,hp,m,a⟩
     by_cases e1:p=ig n c
     . refine⟨hole,v,fun e=>g e.symm,?_⟩
       rw[d,if_pos rfl]
       rw[e1,hi]at a
       omega
     . refine⟨p,hp,e1,?_⟩
       rw[d,if_neg (fun e=>m e.symm)]
       exact a
 . rw[d]at a ⊢
   by_cases e2:hole=q
   . rw[if_pos e2];omega
   . rw[if_neg e2]
     by_cases e1:hole=p
     . rw[if_pos e1]at a
       have:j=i:=by omega
       subst this
       subst e1
       exact h.way (ig n c) j q b o g (fun e=>e2 e.symm) hi (Nat.lt_trans r B)
     . rw[if_neg e1]at a
       exact h.way p j q hp o (fun e=>e1 e.symm) (fun e=>e2 e.symm) a r
 . rw[uu]
   have:=mt (Ep b hp).1 (fun e=>m e.symm)
   omega
 . rw[d,if_neg C]
   exact h.zero
 . rw[uu]
   have:=mt (Ep b h.DB).1 (fun e=>D e.symm)
   omega
theorem oS.done(h:oS n hm i0 cs0 cs hole c z)(o:fJ cs (ig n c)=0)(F:∃ p,p<n/\fJ cs0 p=i0+1) :
 q7 n (fN cs hole (fun _=>0)) hm/\(∀ p q,p<n->q<n->fJ (fN cs hole (fun _=>0)) p≠0->fJ (fN cs hole (fun _=>0)) p=fJ (fN cs hole (fun _=>0)) q->p=q) /\
 (∀ i,(∃ p,p<n/\fJ (fN cs hole (fun _=>0)) p=i+1)↔i≠i0/\∃ p,p<n/\fJ cs0 p=i+1):=by
 obtain⟨r,t,u,D,v⟩:=h.next
 have G:=h.len
 have B:=h.vL
 have d:=fun q=>iS (xs:=cs) (k:=hole) (j:=q) (f:=fun _=>0) o_
 refine⟨fun p i q hp m a l=>?_,fun p q hp m g b=>?_,fun i=>?_⟩
 . rw[d]at a ⊢
   by_cases e1:hole=p
   . rw[if_pos e1]at a;omega
   . rw[if_neg e1]at a
     have E:=h.home p i hp (fun e=>e1 e.symm) a
     by_cases e2:hole=q
     . exfalso
       subst e2
       have w:=h.Rp p i hp (fun e=>e1 e.symm) a l
       have x:p≠ig n c:=fun e=>by rw[e,o]at a;omega
       have y:dst n hole p≠dst n hole (ig n c):=fun e=>x (Em B hp r e)
       have A:qY n (hm i) p (ig n c):=by
        have s:dst n hole (ig n c)<dst n hole p:=by omega
        clear w y u v
        unfold qY dst at *
        (repeat' split at l)<;>(repeat' split at s)<;>(repeat' split)<;>omega
       exact h.way p i (ig n c) hp r (fun e=>e1 e.symm) t a A o
     . rw[if_neg e2]
       exact h.way p i q hp m (fun e=>e1 e.symm) (fun e=>e2 e.symm) a l
 . rw[d]at g b
   rw[d]at b
   by_cases e1:hole=p
   . rw[if_pos e1]at g;omega
   . rw[if_neg e1]at g b
     by_cases e2:hole=q
     . rw[if_pos e2]at b;omega
     . rw[if_neg e2]at b
       exact h.inj p q hp m (fun e=>e1 e.symm) (fun e=>e2 e.symm) g b
 . rw[<-h.mem i]
   constructor
   . rintro⟨p,hp,a⟩
     rw[d]at a
     by_cases e1:hole=p
     . rw[if_pos e1]at a;omega
     . rw[if_neg e1]at a
       exact⟨p,hp,fun e=>e1 e.symm,a⟩
   . rintro⟨p,hp,C,a⟩
     exact⟨p,hp,by rw[d,if_neg (fun e=>C e.symm)];exact a⟩
end
end Go.Sx
namespace Go.Sx
open Go
structure AW where
 bv:Value
 A:As
structure AW.put (A A2:As) (i:Nat):Prop where
 n:A2.n=A.n
 used:A2.used=A.used+1
 gX:∀ j,A2.gX j↔A.gX j\/j=i
 new:¬ A.gX i
 pn:(i<A.begun/\A2.begun=A.begun)\/(i=A.begun/\A2.begun=A.begun+1)
structure AW.del (A A2:As) (i:Nat):Prop where
 n:A2.n=A.n
 pn:A2.begun=A.begun
 used:A2.used=A.used-1
 pos:0<A.used
 gX:∀ j,A2.gX j↔A.gX j/\j≠i
def kN(a:Int):Int:=(sY .xor .u64 a (a.fdiv (2 ^ 33))).getD 0
def lX(c a:Int):Int:=IntKind.u64.wrap (a*c)
def AA(id:Int):Int:=kN (lX 14181476777654086739 (kN (lX 18397679294719823053 (kN id))))
def kG(n:Nat)(id:Int):Nat:=(AA id%(n:Int)).toNat
theorem xz{n:Nat}{id:Int}(h:0<n):kG n id<n:=by
 have a:=Int.emod_lt_of_pos (AA id) (show (0:Int)<n by omega)
 have b:=Dk (AA id) (show (n:Int)≠0 by omega)
 unfold kG
 omega
theorem ZB{n:Nat}{id:Int}(h:0<n):AA id%(n:Int)=(kG n id:Int):=by
 have a:=Dk (AA id) (show (n:Int)≠0 by omega)
 unfold kG
 omega
def P2(n:Nat):Prop:=∃ k,k<=40/\n=2 ^ k
theorem P2.pos{n:Nat}(h:P2 n):0<n:=by
 obtain⟨k,_,rfl⟩:=h
 exact Nat.two_pow_pos k
theorem P2.le{n:Nat}(h:P2 n):n<=1099511627776:=by
 obtain⟨k,a,rfl⟩:=h
 calc 2 ^ k<=2 ^ 40:=LN d_ a
  _=1099511627776:=by decide
theorem P2.Tk{n:Nat}(h:P2 n)(x:Int):((BitVec.ofInt 64 x) &&& (BitVec.ofInt 64 ((n:Int)-1))).toNat=(x%(n:Int)).toNat:=by
 have g:=h.pos
 have f:=h.le
 obtain⟨k,d,rfl⟩:=h
 rw[BitVec.toNat_and,BitVec.toNat_ofInt,BitVec.toNat_ofInt]
 have e:(((2 ^ k:Nat):Int)-1)%((2 ^ 64:Nat):Int)=((2 ^ k-1:Nat):Int):=by
  rw[Int.emod_eq_of_lt o_ o_]
  omega
 rw[e,mc,Nat.and_two_pow_sub_one_eq_mod]
 have hd:(((2 ^ k:Nat):Int)) ∣ ((2 ^ 64:Nat):Int):=by
  refine Int.natCast_dvd_natCast.2 (Nat.pow_dvd_pow 2 o_)
 have a:0<=x%((2 ^ 64:Nat):Int):=Dk _ d_
 have b:=Int.emod_emod_of_dvd x hd
 have c:((x%((2 ^ 64:Nat):Int)).toNat%2 ^ k:Nat)=((x%((2 ^ 64:Nat):Int))%((2 ^ k:Nat):Int)).toNat:=by
  obtain⟨m,hm⟩:=Int.eq_ofNat_of_zero_le a
  rw[hm]
  simp only[mc]
  rw[<-Int.natCast_emod,mc]
 rw[c,b]
theorem P2.Nj{n:Nat}(h:P2 n)(x:Int):sY .and .i64 x ((n:Int)-1)=some (x%(n:Int)):=by
 have a:=Int.emod_lt_of_pos x (show (0:Int)<n by have:=h.pos;omega)
 have b:=Dk x (show (n:Int)≠0 by have:=h.pos;omega)
 have c:=h.le
 have e:=h.Tk x
 show some (IntKind.i64.wrap (((BitVec.ofInt 64 x) &&& (BitVec.ofInt 64 ((n:Int)-1))).toNat:Int))=_
 rw[e,ot o_]
 congr 1
 omega
theorem P2.Um{n:Nat}(h:P2 n)(x:Int):sY .and .u64 x ((n:Int)-1)=some (x%(n:Int)):=by
 have a:=Int.emod_lt_of_pos x (show (0:Int)<n by have:=h.pos;omega)
 have b:=Dk x (show (n:Int)≠0 by have:=h.pos;omega)
 have c:=h.le
 have e:=h.Tk x
 show some (IntKind.u64.wrap (((BitVec.ofInt 64 x) &&& (BitVec.ofInt 64 ((n:Int)-1))).toNat:Int))=_
 rw[e,F5 o_]
 congr 1
 omega
theorem P2.nx{n c:Nat}(h:P2 n)(a:c<n):sY .and .i64 ((c:Int)+1) ((n:Int)-1)=some ((ig n c:Nat):Int):=by
 rw[h.Nj,<-abI a]
 rfl
theorem P2.dst{n a b:Nat}(h:P2 n)(c:a<n)(hb:b<n):sY .and .i64 ((b:Int)-(a:Int)) ((n:Int)-1)=some ((dst n a b:Nat):Int):=by
 rw[h.Nj]
 congr 1
 unfold Sx.dst
 split
 . rw[Int.emod_eq_of_lt o_ o_]
   omega
 . rw[show (b:Int)-(a:Int)=((b:Int)-a+n)+n*(-1) by omega,Int.add_mul_emod_self_left,Int.emod_eq_of_lt o_ o_]
   omega
theorem Lo(a:Int):sY .xor .u64 a (a.fdiv (2 ^ 33))=some (kN a):=rfl
theorem P2.home{n:Nat}(h:P2 n)(id:Int):sY .and .u64 (AA id) ((n:Int)-1)=some ((kG n id:Nat):Int):=by
 rw[h.Um,ZB h.pos]
def gV(x:Int):List Value:=[.int .u64 x]
structure TW where
 iv:Value
 cv:Value
 w:AW
 ids:List Int
 cs:List Nat
abbrev TW.A(t:TW):As:=t.w.A
abbrev TW.n(t:TW):Nat:=t.cs.length
structure TW.ok (t:TW):Prop where
 p2:P2 t.n
 top:t.n<=1000000
 two:2<=t.n
 room:2*t.A.n<=t.n
 an:t.A.n<=65536
 vM:t.ids.length=t.A.begun
 ids:∀ i,gR .u64 (fJ t.ids i)
 cell:∀ i,(∃ p,p<t.n/\fJ t.cs p=i+1)↔t.A.gX i
 inj:∀ p q,p<t.n->q<t.n->fJ t.cs p≠0->fJ t.cs p=fJ t.cs q->p=q
 uniq:∀ i j,t.A.gX i->t.A.gX j->fJ t.ids i=fJ t.ids j->i=j
 Fu:q7 t.n t.cs (fun i=>kG t.n (fJ t.ids i))
 pn:t.A.begun<=t.A.n
 ul:t.A.used<=t.A.n
structure TW.Sz (n:Nat):Prop where
 p2:P2 n
 two:2<=n
 top:n<=1000000
theorem TW.ok.sz{t:TW}(h:t.ok):TW.Sz t.n:=⟨h.p2,h.two,h.top⟩
def TW.mem(t:TW)(id:Int):Prop:=∃ i,t.A.gX i/\fJ t.ids i=id
theorem TW.ok.val{t:TW}(h:t.ok){p i:Nat}(hp:p<t.n)(c:fJ t.cs p=i+1):t.A.gX i/\i<t.A.begun/\i<t.ids.length/\i<t.A.n:=by
 have a:=(h.cell i).1 ⟨p,hp,c⟩
 have b:=a.1
 have d:=h.vM
 have e:=h.pn
 exact⟨a,b,o_,o_⟩
theorem TW.ok.zero{t:TW}(h:t.ok):∃ z,z<t.n/\fJ t.cs z=0:=by
 by_cases hz:∃ z,z<t.n/\fJ t.cs z=0
 . exact hz
 . exfalso
   have a:∀ p,p<t.n->fJ t.cs p≠0:=fun p hp c=>hz ⟨p,hp,c⟩
   have d:((List.range t.n).map fun p=>fJ t.cs p-1).length<=t.A.n:=by
    refine AS _ _ ?_ ?_
    . unfold List.Nodup
      rw[GF]
      refine List.Pairwise.imp_of_mem ?_ (GA (n:=t.n))
      intro p q hp b g e
      rw[zz]at hp b
      have a1:=a p hp
      have a2:=a q b
      have:=h.inj p q hp b a1 o_
      omega
    . intro j f
      obtain⟨p,hp,rfl⟩:=z7.1 f
      rw[zz]at hp
      have a1:=a p hp
      exact(h.val hp (i:=fJ t.cs p-1) o_).2.2.2
   rw[zn,qq]at d
   have:=h.room
   have:=h.two
   omega
def TW.find(t:TW)(id:Int):Nat×Bool:=ux t.n t.cs (fun i=>fJ t.ids i==id) t.n (kG t.n id)
theorem TW.ok.IC{t:TW}(h:t.ok){i:Nat}(hi:t.A.gX i):∃ p,p<t.n/\fJ t.cs p=i+1/\t.find (fJ t.ids i)=(p,true):=by
 obtain⟨p,hp,a⟩:=(h.cell i).2 hi
 refine⟨p,hp,a,?_⟩
 refine Yy (hm:=fun i=>kG t.n (fJ t.ids i)) h.Fu hp a (xz (by have:=h.two;omega)) s_ ?_ h.zero
 intro q j b c e
 have d:=(h.val b c).1
 have:=h.uniq j i d hi (by simpa using e)
 subst this
 exact h.inj q p b hp o_ o_
theorem TW.ok.Po{t:TW}(h:t.ok){id:Int}(c:¬ t.mem id):∃ r,r<t.n/\t.find id=(r,false)/\fJ t.cs r=0/\∀ q,q<t.n->qY t.n (kG t.n id) r q->fJ t.cs q≠0:=by
 refine Yx (xz (by have:=h.two;omega)) ?_ h.zero
 intro q j d a
 have b:=(h.val d a).1
 have:fJ t.ids j≠id:=fun e=>c ⟨j,b,e⟩
 simpa using this
def xQ(ids:List Int)(i:Nat)(id:Int):List Int:=fN (if i=ids.length then ids++[0]else ids) i (fun _=>id)
theorem acF{ids:List Int}{i:Nat}{id:Int}(h:i<=ids.length)(j:Nat):fJ (xQ ids i id) j=if i=j then id else fJ ids j:=by
 unfold xQ
 split
 . rename_i e
   rw[iS (by simp[e])]
   split
   . rfl
   . rename_i b
     simp only[fJ,BB]
     split
     . rfl
     . have a:(ids[j]? : Option Int)=none:=zw o_
       rw[a]
       cases hj:([0]:List Int)[j-ids.length]? with
       | none=>rfl
       | some x => 
        have:=ze.1 hj
        simp at this
        omega
 . rw[iS o_]
theorem acG{ids:List Int}{i:Nat}{id:Int}(h:i<=ids.length):(xQ ids i id).length=if i=ids.length then ids.length+1 else ids.length:=by
 unfold xQ
 rw[gC]
 split<;>simp
section
variable {t:TW}
theorem TW.ok.put(h:t.ok){id:Int}(G:¬ t.mem id)(M:gR .u64 id){v2:AW}{i r:Nat}(B:v2.A.ok)(hp:AW.put t.A v2.A i)(C:r<t.n)(D:fJ t.cs r=0)(Q:∀ q,q<t.n->qY t.n (kG t.n id) r q->fJ t.cs q≠0)(iv cv:Value){is2:List Int}{cs2:List Nat}(E:is2=xQ t.ids i id)(hcs:cs2=fN t.cs r (fun _=>i+1)) :
 TW.ok ⟨iv,cv,v2,is2,cs2⟩/\∀ x,TW.mem ⟨iv,cv,v2,is2,cs2⟩ x↔t.mem x\/x=id:=by
 have R:=h.vM
 have F:i<=t.ids.length:=by
  rcases hp.pn with d|d<;>omega
 have m:∀ j,fJ is2 j=if i=j then id else fJ t.ids j:=by rw[E];exact acF F
 have y:∀ q,fJ cs2 q=if r=q then i+1 else fJ t.cs q:=by rw[hcs];exact fun q=>iS C
 have s:cs2.length=t.n:=by rw[hcs];exact gC
 have P:is2.length=if i=t.ids.length then t.ids.length+1 else t.ids.length:=by rw[E];exact acG F
 have v:=hp.gX
 have H:=hp.new
 have w:∀ j,t.A.gX j->i≠j:=fun j l e=>H (e▸l)
 have O:∀ x,TW.mem ⟨iv,cv,v2,is2,cs2⟩ x↔t.mem x\/x=id:=by
  intro x
  constructor
  . rintro⟨j,l,u⟩
    change fJ is2 j=x at u
    rw[m]at u
    split at u
    . exact .inr u.symm
    . rename_i N
      rcases(v j).1 l with d|d
      . exact .inl ⟨j,d,u⟩
      . exact absurd d.symm N
  . rintro(⟨j,l,u⟩|rfl)
    . exact⟨j,(v j).2 (.inl l),by show fJ is2 j=x;rw[m,if_neg (w j l)];exact u⟩
    . exact⟨i,(v i).2 (.inr rfl),by show fJ is2 i=x;rw[m,if_pos rfl]⟩
 have I:∀ p,p<t.n->fJ t.cs p≠i+1:=fun p k g=>H (h.val k g).1
 refine⟨⟨?_,?_,?_,?_,?_,?_,?_,?_,?_,?_,?_,?_,?_⟩,O⟩
 . show P2 cs2.length;rw[s];exact h.p2
 . show cs2.length<=_;rw[s];exact h.top
 . show 2<=cs2.length;rw[s];exact h.two
 . show 2*v2.A.n<=cs2.length;rw[s,hp.n];exact h.room
 . show v2.A.n<=_;rw[hp.n];exact h.an
 . show is2.length=v2.A.begun
   rw[P]
   rcases hp.pn with d|d
   . rw[if_neg o_];omega
   . rw[if_pos o_];omega
 . intro j
   show gR .u64 (fJ is2 j)
   rw[m]
   split
   . exact M
   . exact h.ids j
 . intro j
   show (∃ p,p<cs2.length/\fJ cs2 p=j+1)↔v2.A.gX j
   rw[s,v]
   constructor
   . rintro⟨p,k, g⟩
     rw[y]at g
     split at g
     . exact .inr o_
     . exact .inl ((h.cell j).1 ⟨p,k, g⟩)
   . rintro(d|rfl)
     . obtain⟨p,k, g⟩:=(h.cell j).2 d
       refine⟨p,k, ?_⟩
       rw[y,if_neg (fun e=>by rw[e,g]at D;omega)]
       exact g
     . exact⟨r,C,by rw[y,if_pos rfl]⟩
 . intro p q k o
   show fJ cs2 p≠0->fJ cs2 p=fJ cs2 q->p=q
   change p<cs2.length at k
   change q<cs2.length at o
   rw[s]at k o
   rw[y,y]
   intro a b
   by_cases d:r=p
   . by_cases f:r=q
     . omega
     . rw[if_pos d,if_neg f]at b
       exact absurd b.symm (I q o)
   . by_cases f:r=q
     . rw[if_neg d,if_pos f]at b
       exact absurd b (I p k)
     . rw[if_neg d,if_neg f]at b
       rw[if_neg d]at a
       exact h.inj p q k o a b
 . intro a b L hb
   show fJ is2 a=fJ is2 b->a=b
   rw[m,m]
   intro e
   rcases(v a).1 L with d|d<;>rcases(v b).1 hb with f|f
   . rw[if_neg (w a d),if_neg (w b f)]at e
     exact h.uniq a b d f e
   . rw[if_neg (w a d),if_pos f.symm]at e
     exact absurd ⟨a,d,e⟩ G
   . rw[if_pos d.symm,if_neg (w b f)]at e
     exact absurd ⟨b,f,e.symm⟩ G
   . omega
 . show q7 cs2.length _ (fun j=>kG cs2.length (fJ is2 j))
   rw[s]
   have J:q7 t.n t.cs (fun j=>kG t.n (fJ is2 j)):=by
    intro c j q g o l z
    have d:=w j (h.val g l).1
    simp only[m,if_neg d]at z
    exact h.Fu c j q g o l z
   have K:=J.put rfl C D (i:=i) (by
    intro q o z
    simp only[m,if_pos]at z
    exact Q q o z) (xz (by have:=h.two;omega))
   rw[hcs]
   exact K
 . show v2.A.begun<=v2.A.n
   exact B.le
 . show v2.A.used<=v2.A.n
   have:=B.used
   have:=B.le
   omega
end
section
variable {t:TW}
def TW.rest(t:TW)(id:Int)(k c:Nat):Prop:=t.find id=ux t.n t.cs (fun i=>fJ t.ids i==id) (t.n-k) c
theorem TW.ac6(t:TW)(id:Int):t.rest id 0 (kG t.n id):=rfl
theorem TW.Ka{id:Int}{k c:Nat}(h:t.rest id k c)(hk:k<t.n):t.find id=if fJ t.cs c=0 then(c,false)else if (fJ t.ids (fJ t.cs c-1)==id)=true then(c,true)else ux t.n t.cs (fun i=>fJ t.ids i==id) (t.n-(k+1)) (ig t.n c):=by
 have e:t.n-k=(t.n-(k+1))+1:=by omega
 unfold TW.rest at h
 rw[e]at h
 exact h
theorem TW.ac7{id:Int}{k c:Nat}(h:t.rest id k c)(hk:k<t.n)(a:fJ t.cs c=0):t.find id=(c,false):=by
 rw[TW.Ka h hk,if_pos a]
theorem TW.ac4{id:Int}{k c j:Nat}(h:t.rest id k c)(hk:k<t.n)(b:fJ t.cs c=j+1)(a:fJ t.ids j=id):t.find id=(c,true):=by
 rw[TW.Ka h hk,if_neg o_,if_pos (by rw[b];simpa using a)]
theorem TW.ac5{id:Int}{k c j:Nat}(h:t.rest id k c)(hk:k<t.n)(b:fJ t.cs c=j+1)(a:fJ t.ids j≠id):t.rest id (k+1) (ig t.n c):=by
 have:=TW.Ka h hk
 rw[if_neg o_,if_neg (by rw[b];simpa using a)]at this
 exact this
theorem TW.ac3{id:Int}{c:Nat}(h:t.rest id t.n c):t.find id=(0,false):=by
 unfold TW.rest at h
 rw[Nat.sub_self]at h
 exact h
end
def TW.nU(t:TW)(id:Int)(z:Nat)(b:Bool):Prop:=(b=true/\t.A.gX z/\fJ t.ids z=id)\/(b=false/\z=0/\¬ t.mem id)
section
variable {t:TW}
theorem TW.ok.del(h:t.ok){i:Nat}(hi:t.A.gX i){v2:AW}(s:v2.A.ok)(hd:AW.del t.A v2.A i){cs2:List Nat}(f:cs2.length=t.n)
 (r:q7 t.n cs2 (fun j=>kG t.n (fJ t.ids j))/\(∀ p q,p<t.n->q<t.n->fJ cs2 p≠0->fJ cs2 p=fJ cs2 q->p=q)/\(∀ u,(∃ p,p<t.n/\fJ cs2 p=u+1)↔u≠i/\∃ p,p<t.n/\fJ t.cs p=u+1)) (iv cv:Value) {is2:List Int} (w:is2=fN t.ids i (fun _=>0)) :
 TW.ok ⟨iv,cv,v2,is2,cs2⟩/\∀ x,TW.mem ⟨iv,cv,v2,is2,cs2⟩ x↔t.mem x/\x≠fJ t.ids i:=by
 obtain⟨C,G,z⟩:=r
 have F:i<t.ids.length:=by have:=hi.1;have:=h.vM;omega
 have k:∀ j,fJ is2 j=if i=j then 0 else fJ t.ids j:=by rw[w];exact fun j=>iS F
 have m:=hd.gX
 have E:∀ j,(∃ p,p<t.n/\fJ cs2 p=j+1)↔v2.A.gX j:=by
  intro j
  rw[z,m,h.cell]
  exact And.comm
 refine⟨⟨?_,?_,?_,?_,?_,?_,?_,?_,?_,?_,?_,?_,?_⟩,fun x=>⟨?_,?_⟩⟩
 . show P2 cs2.length;rw[f];exact h.p2
 . show cs2.length<=_;rw[f];exact h.top
 . show 2<=cs2.length;rw[f];exact h.two
 . show 2*v2.A.n<=cs2.length;rw[f,hd.n];exact h.room
 . show v2.A.n<=_;rw[hd.n];exact h.an
 . show is2.length=v2.A.begun;rw[w,gC,hd.pn];exact h.vM
 . intro j
   show gR .u64 (fJ is2 j)
   rw[k]
   split
   . exact⟨d_,d_⟩
   . exact h.ids j
 . intro j
   show (∃ p,p<cs2.length/\fJ cs2 p=j+1)↔v2.A.gX j
   rw[f]
   exact E j
 . intro p q hp o
   change p<cs2.length at hp
   change q<cs2.length at o
   rw[f]at hp o
   exact G p q hp o
 . intro a b D hb
   show fJ is2 a=fJ is2 b->a=b
   have d:=(m a).1 D
   have v:=(m b).1 hb
   rw[k,k,if_neg (fun e=>d.2 e.symm),if_neg (fun e=>v.2 e.symm)]
   exact h.uniq a b d.1 v.1
 . show q7 cs2.length _ (fun j=>kG cs2.length (fJ is2 j))
   rw[f]
   intro c j q r o l B
   have d:j≠i:=((z j).1 ⟨c,r,l⟩).1
   simp only[k,if_neg (fun e=>d e.symm:¬ i=j)]at B
   exact C c j q r o l B
 . show v2.A.begun<=v2.A.n
   exact s.le
 . show v2.A.used<=v2.A.n
   have:=s.used
   have:=s.le
   omega
 . rintro⟨j,l,g⟩
   change fJ is2 j=x at g
   have d:=(m j).1 l
   rw[k,if_neg (fun e=>d.2 e.symm)]at g
   exact⟨⟨j,d.1,g⟩,fun e=>d.2 (h.uniq j i d.1 hi (g.trans e))⟩
 . rintro⟨⟨j,l,g⟩,H⟩
   have y:j≠i:=fun e=>H (by rw[<-g,e])
   exact⟨j,(m j).2 ⟨l,y⟩,by show fJ is2 j=x;rw[k,if_neg (fun e=>y e.symm)];exact g⟩
theorem TW.ok.copy(h:t.ok){v2:AW}{f:List (Option Nat)}(hv:v2.A={ t.A with ps:=f })(iv cv:Value):TW.ok ⟨iv,cv,v2,t.ids,t.cs⟩/\∀ x,TW.mem ⟨iv,cv,v2,t.ids,t.cs⟩ x↔t.mem x:=by
 have c:∀ j,v2.A.gX j↔t.A.gX j:=fun j=>by rw[hv];rfl
 have e1:v2.A.n=t.A.n:=by rw[hv]
 have d:v2.A.begun=t.A.begun:=by rw[hv]
 refine⟨⟨h.p2,h.top,h.two,?_,?_,?_,h.ids,?_,h.inj,?_,h.Fu,?_,?_⟩,fun x=>?_⟩
 . show 2*v2.A.n<=_;rw[e1];exact h.room
 . show v2.A.n<=_;rw[e1];exact h.an
 . show t.ids.length=v2.A.begun;rw[d];exact h.vM
 . exact fun i=>(h.cell i).trans (c i).symm
 . exact fun a b e hb=>h.uniq a b ((c a).1 e) ((c b).1 hb)
 . show v2.A.begun<=v2.A.n;rw[e1,d];exact h.pn
 . show v2.A.used<=v2.A.n;rw[hv];exact h.ul
 . exact exists_congr fun i=>and_congr_left fun _=>c i
theorem P2.two:P2 2:=⟨1,d_,rfl⟩
theorem P2.VM{n:Nat}(h:P2 n)(b:n<=1000000):P2 (n*2):=by
 obtain⟨k,a,rfl⟩:=h
 refine⟨k+1,?_,by rw[zdt]⟩
 by_cases h9:k+1<=40
 . exact h9
 . have:2 ^ 20<=2 ^ k:=LN d_ o_
   have e:(2:Nat) ^ 20=1048576:=by decide
   omega
theorem TW.tv{m n:Nat}{v:AW}(hv:v.A=As.new m)(hm:m<=65536)(u:P2 n)(h1:2<=n)(r:2*m<=n)(s:n<=1000000)(iv cv:Value):TW.ok ⟨iv,cv,v,[],List.replicate n 0⟩/\∀ x,¬ TW.mem ⟨iv,cv,v,[],List.replicate n 0⟩ x:=by
 have f:(List.replicate n 0).length=n:=tO
 have k:∀ p,fJ (List.replicate n 0) p=0:=by
  intro p
  simp only[fJ,sI]
  split<;>rfl
 have g:∀ j,¬ v.A.gX j:=fun j d=>by rw[hv]at d;exact absurd d.1 (by simp[As.new])
 have e1:v.A.n=m:=by rw[hv];rfl
 have l:v.A.begun=0:=by rw[hv];rfl
 refine⟨⟨?_,?_,?_,?_,?_,?_,?_,?_,?_,?_,?_,?_,?_⟩,fun x ⟨j,d,_⟩=>g j d⟩
 . show P2 (List.replicate n 0).length;rw[f];exact u
 . show (List.replicate n 0).length<=_;rw[f];exact s
 . show 2<=(List.replicate n 0).length;rw[f];exact h1
 . show 2*v.A.n<=(List.replicate n 0).length;rw[f,e1];exact r
 . show v.A.n<=_;rw[e1];exact hm
 . show ([]:List Int).length=v.A.begun;rw[l];rfl
 . intro j
   have e:fJ ([]:List Int) j=0:=by show (none:Option Int).getD default=0;rfl
   show gR .u64 (fJ ([]:List Int) j)
   rw[e]
   exact⟨d_,d_⟩
 . intro i
   constructor
   . rintro⟨p,_,hp⟩
     change fJ (List.replicate n 0) p=i+1 at hp
     rw[k]at hp
     omega
   . exact fun h=>absurd h (g i)
 . intro p q _ _ o
   exact absurd (k p) o
 . exact fun a b t=>absurd t (g a)
 . intro c j q _ _ d
   change fJ (List.replicate n 0) c=j+1 at d
   rw[k]at d
   omega
 . show v.A.begun<=v.A.n;rw[l];omega
 . show v.A.used<=v.A.n;rw[hv];exact mU _
end
end Go.Sx
namespace Go.Sx
open Go
structure Lv where
 slot:Int
 seq:Int
 u:Int
 v:Int
 wt:Int
 t:Int
 exp:Int
structure Cf where
 win:Int
 fM:Int
 fO:Int
 kr:Int
instance:Inhabited Lv:=⟨⟨0,0,0,0,0,0,0⟩⟩
def Lv.cells(x:Lv):List Value:=[.int .i64 x.slot,.int .u64 x.seq,.int .u64 x.u,.int .u64 x.v,.int .i64 x.wt,.int .i64 x.t,.int .i64 x.exp]
structure Lv.ok (x:Lv):Prop where
 slot:gR .i64 x.slot
 seq:gR .u64 x.seq
 u:gR .u64 x.u
 v:gR .u64 x.v
 wt:gR .i64 x.wt
 t:gR .i64 x.t
 exp:gR .i64 x.exp
end Go.Sx
namespace Go.Sx
open Go
end Go.Sx
namespace Go.Sx
open Go
structure fW where
 jd:Nat
 tb:Nat
 ab:Nat
 mb:Nat
 lv:Value
 last:Int
 aw:AW
 t:TW
 live:List Lv
 im:IM
abbrev fW.A(s:fW):As:=s.aw.A
abbrev Lv.at(x:Lv)(id:Int):Prop:=x.u=id\/x.v=id
def fW.inc(s:fW)(id:Int):List Nat:=(gi s.im id).2
structure fW.ok (fO fM:Nat) (s:fW):Prop where
 n:s.A.n=fM
 tn:s.t.A.n=fO
 en:fM<=16384
 vn:fO<=4096
 kS:s.A.ok
 tok:s.t.ok
 ll:s.live.length=s.A.begun
 slot:∀ i,s.A.gX i->(fJ s.live i).slot=(i:Int)
 E5:∀ i,(fJ s.live i).ok
 ne:∀ i,s.A.gX i->(fJ s.live i).u≠(fJ s.live i).v
 mem:∀ id,s.t.mem id↔∃ i,s.A.gX i/\(fJ s.live i).at id
 keys:(s.im.map Prod.fst).Nodup
 inc:∀ id i,i∈s.inc id↔s.A.gX i/\(fJ s.live i).at id
 nd:∀ id,(s.inc id).Nodup
 empty:∀ id,gZ s.im id=none↔s.inc id=[]
 seq:∀ i,s.A.gX i->(fJ s.live i).seq<=s.last
 FI:∀ i j,s.A.gX i->s.A.gX j->(fJ s.live i).seq=(fJ s.live j).seq->i=j
 sn:0<=s.last
def fW.has(s:fW)(x:Lv):Prop:=∃ i,s.A.gX i/\fJ s.live i=x
noncomputable def TW.cnt(t:TW)(id:Int):Nat:=by
 classical
 exact if t.mem id then 0 else 1
theorem TW.xl{t:TW}{id:Int}(h:t.mem id):t.cnt id=0:=by unfold TW.cnt;exact if_pos h
theorem TW.sZ{t:TW}{id:Int}(h:¬ t.mem id):t.cnt id=1:=by unfold TW.cnt;exact if_neg h
theorem TW.nU.cnt{t:TW}{id:Int}{z:Nat}{b:Bool}(h:t.nU id z b):t.cnt id=if b then 0 else 1:=by
 rcases h with ⟨rfl,a,c⟩|⟨rfl,_,h⟩
 . exact TW.xl ⟨z,a,c⟩
 . exact TW.sZ h
noncomputable def fW.gJ(s:fW)(fO fM:Nat)(u v:Int):Int:=by
 classical
 exact if u=v then 9 else if fM<=s.A.used then 12 else if fO<s.t.A.used+(s.t.cnt u+s.t.cnt v)then 11 else 0
theorem fW.NL{s:fW}{fO fM:Nat}{u v:Int}(h:u=v):s.gJ fO fM u v=9:=by unfold fW.gJ;rw[if_pos h]
theorem fW.NK{s:fW}{fO fM:Nat}{u v:Int}(h:u≠v)(h1:fM<=s.A.used):s.gJ fO fM u v=12:=by unfold fW.gJ;rw[if_neg h,if_pos h1]
theorem fW.B9{s:fW}{fO fM:Nat}{u v:Int}(h:u≠v)(h1:¬ fM<=s.A.used)(a:fO<s.t.A.used+(s.t.cnt u+s.t.cnt v)):s.gJ fO fM u v=11:=by unfold fW.gJ;rw[if_neg h,if_neg h1,if_pos a]
theorem fW.Ah{s:fW}{fO fM:Nat}{u v:Int}(h:u≠v)(h1:¬ fM<=s.A.used)(a:¬ fO<s.t.A.used+(s.t.cnt u+s.t.cnt v)):s.gJ fO fM u v=0:=by unfold fW.gJ;rw[if_neg h,if_neg h1,if_neg a]
theorem fW.HN{s:fW}{fO fM:Nat}{u v:Int}(h:s.gJ fO fM u v=0):u≠v/\s.A.used<fM/\s.t.A.used+(s.t.cnt u+s.t.cnt v)<=fO:=by
 by_cases h1:u=v
 . rw[fW.NL h1]at h;cases h
 . by_cases h2:fM<=s.A.used
   . rw[fW.NK h1 h2]at h;cases h
   . by_cases h3:fO<s.t.A.used+(s.t.cnt u+s.t.cnt v)
     . rw[fW.B9 h1 h2 h3]at h;cases h
     . exact⟨h1,o_,o_⟩
def xR(ls:List Lv)(i:Nat)(x:Lv):List Lv:=fN (if i=ls.length then ls++[default]else ls) i (fun _=>x)
theorem acH{ls:List Lv}{i:Nat}{x:Lv}(h:i<=ls.length)(j:Nat):fJ (xR ls i x) j=if i=j then x else fJ ls j:=by
 unfold xR
 split
 . rename_i e
   rw[iS (by simp[e])]
   split
   . rfl
   . rename_i b
     simp only[fJ,BB]
     split
     . rfl
     . have a:(ls[j]? : Option Lv)=none:=zw o_
       rw[a,zw (by simp;omega)]
 . rw[iS o_]
theorem acI{ls:List Lv}{i:Nat}{x:Lv}(h:i<=ls.length):(xR ls i x).length=if i=ls.length then ls.length+1 else ls.length:=by
 unfold xR
 rw[gC]
 split<;>simp
section
variable {fO fM:Nat} {s:fW}
theorem fW.ok.ins(h:s.ok fO fM){e:Lv}{i:Nat}{p:AW}{q:TW}(hp:AW.put s.A p.A i)(r:p.A.ok)(W:q.ok)(N:e.slot=(i:Int))(z:e.seq=s.last+1)(M:e.ok)(S:e.u≠e.v)
 (U:∀ x,q.mem x↔(s.t.mem x\/x=e.u)\/x=e.v) (V:q.A.n=s.t.A.n) {lv2 K v2:Value} {ls:List Lv} (H:ls=xR s.live i e) {im2:IM}
 (F:im2=gD (gD s.im e.u (K,s.inc e.u++[i])) e.v (v2,s.inc e.v++[i])) :
 fW.ok fO fM ⟨s.jd,s.tb,s.ab,s.mb,lv2,s.last+1,p,q,ls,im2⟩/\∀ x,fW.has ⟨s.jd,s.tb,s.ab,s.mb,lv2,s.last+1,p,q,ls,im2⟩ x↔s.has x\/x=e:=by
 have X:=h.ll
 have G:i<=s.live.length:=by
  rcases hp.pn with c|c<;>omega
 have w:∀ j,fJ ls j=if i=j then e else fJ s.live j:=by rw[H];exact acH G
 have R:ls.length=if i=s.live.length then s.live.length+1 else s.live.length:=by rw[H];exact acI G
 have k:=hp.gX
 have I:=hp.new
 have J:∀ j,s.A.gX j->i≠j:=fun j d e=>I (e▸d)
 have l:∀ j,s.A.gX j->fJ ls j=fJ s.live j:=fun j d=>by rw[w,if_neg (J j d)]
 have o:fJ ls i=e:=by rw[w,if_pos rfl]
 have E:∀ id,gZ im2 id=if e.v=id then some (v2,s.inc e.v++[i])else if e.u=id then some (K,s.inc e.u++[i])else gZ s.im id:=by
  intro id
  rw[F,vU,vU]
 have C:∀ id,(gi im2 id).2=if e.v=id then s.inc e.v++[i]else if e.u=id then s.inc e.u++[i]else s.inc id:=by
  intro id
  unfold gi
  rw[E]
  split
  . rfl
  . split
    . rfl
    . rfl
 have T:∀ id,i∉s.inc id:=fun id hi=>I ((h.inc id i).1 hi).1
 refine⟨⟨?_,?_,h.en,h.vn,r,W,?_,?_,?_,?_,?_,?_,?_,?_,?_,?_,?_,?_⟩,fun x=>⟨?_,?_⟩⟩
 . exact hp.n.trans h.n
 . exact V.trans h.tn
 . show ls.length=p.A.begun
   rw[R]
   rcases hp.pn with c|c
   . rw[if_neg o_];omega
   . rw[if_pos o_];omega
 . intro j d
   show (fJ ls j).slot=(j:Int)
   rcases(k j).1 d with c|rfl
   . rw[l j c];exact h.slot j c
   . rw[o];exact N
 . intro j
   show (fJ ls j).ok
   rw[w]
   split
   . exact M
   . exact h.E5 j
 . intro j d
   show (fJ ls j).u≠(fJ ls j).v
   rcases(k j).1 d with c|rfl
   . rw[l j c];exact h.ne j c
   . rw[o];exact S
 . intro id
   show q.mem id↔∃ j,p.A.gX j/\(fJ ls j).at id
   rw[U,h.mem]
   constructor
   . rintro((⟨j,d,f⟩|rfl)|rfl)
     . exact⟨j,(k j).2 (.inl d),by rw[l j d];exact f⟩
     . exact⟨i,(k i).2 (.inr rfl),by rw[o];exact .inl rfl⟩
     . exact⟨i,(k i).2 (.inr rfl),by rw[o];exact .inr rfl⟩
   . rintro⟨j,d,f⟩
     rcases(k j).1 d with c|rfl
     . rw[l j c]at f
       exact .inl (.inl ⟨j,c,f⟩)
     . rw[o]at f
       rcases f with f|f
       . exact .inl (.inr f.symm)
       . exact .inr f.symm
 . show (im2.map Prod.fst).Nodup
   rw[F]
   exact CI (CI h.keys _ _) _ _
 . intro id j
   show j∈(gi im2 id).2↔p.A.gX j/\(fJ ls j).at id
   rw[C,k]
   have O:=h.inc id j
   have y:j∈s.inc id↔(s.A.gX j\/j=i)/\j≠i/\(fJ ls j).at id:=by
    rw[O]
    constructor
    . rintro⟨c,g⟩
      exact⟨.inl c,fun e=>J j c e.symm,by rw[l j c];exact g⟩
    . rintro⟨c|c,g,m⟩
      . rw[l j c]at m;exact⟨c,m⟩
      . exact absurd c g
   have B:j=i->((fJ ls j).at id↔e.u=id\/e.v=id):=by rintro rfl;rw[o]
   by_cases hv:e.v=id
   . rw[if_pos hv,zo,lB,hv,y]
     constructor
     . rintro(⟨c,_,m⟩|c)
       . exact⟨c,m⟩
       . exact⟨.inr c,(B c).2 (.inr hv)⟩
     . rintro⟨c,g⟩
       by_cases d:j=i
       . exact .inr d
       . exact .inl ⟨c,d,g⟩
   . rw[if_neg hv]
     by_cases hu:e.u=id
     . rw[if_pos hu,zo,lB,hu,y]
       constructor
       . rintro(⟨c,_,m⟩|c)
         . exact⟨c,m⟩
         . exact⟨.inr c,(B c).2 (.inl hu)⟩
       . rintro⟨c,g⟩
         by_cases d:j=i
         . exact .inr d
         . exact .inl ⟨c,d,g⟩
     . rw[if_neg hu,y]
       constructor
       . rintro⟨c,_,m⟩
         exact⟨c,m⟩
       . rintro⟨c,g⟩
         refine⟨c,fun d=>?_,g⟩
         rcases(B d).1 g with m|m
         . exact hu m
         . exact hv m
 . intro id
   show (gi im2 id).2.Nodup
   rw[C]
   have D:∀ id,(s.inc id++[i]).Nodup:=fun id=>zr.2 ⟨h.nd id,s_,fun a r b hb=>by
    rw[lB]at hb
    subst hb
    rintro rfl
    exact T id r⟩
   split
   . exact D _
   . split
     . exact D _
     . exact h.nd id
 . intro id
   show gZ im2 id=none↔(gi im2 id).2=[]
   rw[C,E]
   split
   . simp
   . split
     . simp
     . exact h.empty id
 . intro j d
   show (fJ ls j).seq<=s.last+1
   rcases(k j).1 d with c|rfl
   . rw[l j c];have:=h.seq j c;omega
   . rw[o,z];omega
 . intro a b P Q
   show (fJ ls a).seq=(fJ ls b).seq->a=b
   rcases(k a).1 P with c|c<;>rcases(k b).1 Q with g|g
   . rw[l a c,l b g];exact h.FI a b c g
   . rw[l a c,g,o,z];intro L;have:=h.seq a c;omega
   . rw[l b g,c,o,z];intro L;have:=h.seq b g;omega
   . intro _;omega
 . show 0<=s.last+1
   have:=h.sn
   omega
 . rintro⟨j,d,f⟩
   change fJ ls j=x at f
   rcases(k j).1 d with c|c
   . rw[l j c]at f;exact .inl ⟨j,c,f⟩
   . rw[c,o]at f;exact .inr f.symm
 . rintro(⟨j,d,f⟩|rfl)
   . exact⟨j,(k j).2 (.inl d),by show fJ ls j=x;rw[l j d];exact f⟩
   . exact⟨i,(k i).2 (.inr rfl),o⟩
end
structure TW.GJ (t t2:TW) (id:Int):Prop where
 mem:∀ x,t2.mem x↔t.mem x\/x=id
 n:t2.A.n=t.A.n
 used:t2.A.used=t.A.used+t.cnt id
theorem TW.R6{t:TW}{u:Int}(h:t.A.used+t.cnt u<=t.A.n):t.mem u\/t.A.used<t.A.n:=by
 by_cases hm:t.mem u
 . exact .inl hm
 . rw[TW.sZ hm]at h
   exact .inr o_
theorem TW.GJ.room{t a:TW}{u v:Int}(p:TW.GJ t a u)(h:t.A.used+(t.cnt u+t.cnt v)<=t.A.n):a.mem v\/a.A.used<a.A.n:=by
 by_cases hm:a.mem v
 . exact .inl hm
 . have c:¬ t.mem v:=fun b=>hm ((p.mem v).2 (.inl b))
   rw[TW.sZ c]at h
   rw[p.used,p.n]
   exact .inr o_
theorem tq{γ:Type}[Inhabited γ]{m:List (Int×γ)}{a c:Int}{x:γ}(h:a≠c):gi (gD m a x) c=gi m c:=by
 unfold gi
 rw[vU,if_neg h]
theorem ku{a:Int}(h : -9223372036854775808<=a/\a<=9223372036854775807):gR .i64 a:=h
theorem oJ{a:Int}(h:0<=a/\a<=18446744073709551615):gR .u64 a:=h
theorem fW.ok.I4{fO fM:Nat}{s:fW}(h:s.ok fO fM)(id:Int):(s.inc id).length<=65536:=by
 refine kg (AS s.A.begun _ (h.nd id) fun j a=>((h.inc id j).1 a).1.1) ?_
 have:=h.kS.le
 have:=h.n
 have:=h.en
 omega
structure mZ (im:IM) (t:TW) (im2:IM) (t2:TW) (id:Int) (i:Nat):Prop where
 get:∀ c j,j∈(gi im2 c).2↔j∈(gi im c).2/\(c=id->j≠i)
 nd:(∀ c,(gi im c).2.Nodup)->∀ c,(gi im2 c).2.Nodup
 none:(∀ c,gZ im c=none↔(gi im c).2=[])->∀ c,gZ im2 c=none↔(gi im2 c).2=[]
 keys:(im.map Prod.fst).Nodup->(im2.map Prod.fst).Nodup
 mem:∀ x,t2.mem x↔t.mem x/\(x=id->(gi im2 id).2≠[])
 n:t2.A.n=t.A.n
theorem abg{γ:Type}[Inhabited γ]{m:List (Int×γ)}{a c:Int}{x:γ}:gi (gD m a x) c=if a=c then x else gi m c:=by
 unfold gi
 rw[vU]
 split<;>rfl
theorem abf{m:IM}(b:(m.map Prod.fst).Nodup){a c:Int}:gi (iZ m a) c=if a=c then default else gi m c:=by
 unfold gi
 rw[JA b]
 split<;>rfl
theorem JJ{xs:List Nat}(d:xs.Nodup){a b:Nat}(c:a<xs.length)(hb:b<xs.length)(e:xs[a]=xs[b]):a=b:=by
 rcases Nat.lt_trichotomy a b with h|h|h
 . exact absurd e (wJ.1 d a b c hb h)
 . exact h
 . exact absurd e.symm (wJ.1 d b a hb c h)
theorem O8{xs:List Nat}{i k:Nat}(h:xs.Nodup)(hk:xs[k]? = some i)(j:Nat):j∈xs.eraseIdx k↔j∈xs/\j≠i:=by
 obtain⟨g,d⟩:=ze.1 hk
 rw[List.mem_eraseIdx_iff_getElem]
 constructor
 . rintro⟨a,b,c,rfl⟩
   refine⟨List.getElem_mem b,fun e=>c ?_⟩
   exact JJ h b g (e.trans d.symm)
 . rintro⟨f,c⟩
   obtain⟨a,b,rfl⟩:=yX f
   exact⟨a,b,fun e=>c (by subst e;exact d),rfl⟩
theorem mZ.keep{im:IM}{t:TW}{id:Int}{i k:Nat}{v:Value}(b:(gi im id).2.Nodup)(hk:(gi im id).2[k]? = some i)(d:(gi im id).2.eraseIdx k≠[]):mZ im t (gD im id (v,(gi im id).2.eraseIdx k)) t id i:=by
 have a:∀ c,(gi (gD im id (v,(gi im id).2.eraseIdx k)) c).2=if id=c then(gi im id).2.eraseIdx k else(gi im c).2:=fun c=>by rw[abg];split<;>rfl
 refine⟨fun c j=>?_,fun h c=>?_,fun h c=>?_,fun h=>CI h _ _,fun x=>⟨fun h=>⟨h,fun _=>?_⟩,fun h=>h.1⟩,rfl⟩
 . rw[a]
   split
   . rename_i e
     subst e
     rw[O8 b hk]
     exact⟨fun h=>⟨h.1,fun _=>h.2⟩,fun h=>⟨h.1,h.2 rfl⟩⟩
   . rename_i e
     exact⟨fun h=>⟨h,fun f=>absurd f.symm e⟩,fun h=>h.1⟩
 . rw[a]
   split
   . exact b.sublist (LH _ _)
   . exact h c
 . rw[a,vU]
   split
   . exact⟨fun h=>(by cases h),fun h=>absurd h d⟩
   . exact h c
 . rw[a,if_pos rfl];exact d
theorem mZ.drop{im:IM}{t b:TW}{id:Int}{i k:Nat}(f:(im.map Prod.fst).Nodup)(m:(gi im id).2.Nodup)(hk:(gi im id).2[k]? = some i)(l:(gi im id).2.eraseIdx k=[])(o:∀ x,b.mem x↔t.mem x/\x≠id)(p:b.A.n=t.A.n):mZ im t (iZ im id) b id i:=by
 have a:∀ c,(gi (iZ im id) c).2=if id=c then[]else(gi im c).2:=fun c=>by rw[abf f];split<;>rfl
 have d:=O8 m hk
 rw[l]at d
 refine⟨fun c j=>?_,fun h c=>?_,fun h c=>?_,fun h=>Q0 h _,fun x=>?_,p⟩
 . rw[a]
   split
   . rename_i e
     subst e
     rw[d]
     exact⟨fun h=>⟨h.1,fun _=>h.2⟩,fun h=>⟨h.1,h.2 rfl⟩⟩
   . rename_i e
     exact⟨fun h=>⟨h,fun g=>absurd g.symm e⟩,fun h=>h.1⟩
 . rw[a]
   split
   . exact wR
   . exact h c
 . rw[a,JA f]
   split
   . exact⟨fun _=>rfl,fun _=>rfl⟩
   . exact h c
 . rw[o,a,if_pos rfl]
   exact and_congr_right fun _=>⟨fun h e=>absurd e h,fun h e=>h e rfl⟩
section
variable {fO fM:Nat} {s:fW}
theorem fW.ok.rem(h:s.ok fO fM){i:Nat}(hi:s.A.gX i){k:AW}(hd:AW.del s.A k.A i)(K:k.A.ok){F im2:IM}{J z:TW}(Q:z.ok)
 (y:mZ s.im s.t F J (fJ s.live i).u i) (o:mZ F J im2 z (fJ s.live i).v i) {lv2:Value} {ls:List Lv} (I:ls=fN s.live i (fun _=>default)) :
 fW.ok fO fM ⟨s.jd,s.tb,s.ab,s.mb,lv2,s.last,k,z,ls,im2⟩/\∀ x,fW.has ⟨s.jd,s.tb,s.ab,s.mb,lv2,s.last,k,z,ls,im2⟩ x↔s.has x/\x.slot≠(i:Int):=by
 have O:=h.ll
 have M:i<s.live.length:=by have:=hi.1;omega
 have B:∀ j,fJ ls j=if i=j then default else fJ s.live j:=by rw[I];exact fun j=>iS M
 have l:=hd.gX
 have R:=h.ne i hi
 have D:∀ c j,j∈(gi im2 c).2↔j∈s.inc c/\(c=(fJ s.live i).u->j≠i)/\(c=(fJ s.live i).v->j≠i):=by
  intro c j
  rw[o.get,y.get,and_assoc]
  rfl
 have E:∀ c j,j∈(gi im2 c).2↔k.A.gX j/\(fJ ls j).at c:=by
  intro c j
  rw[D,l,h.inc]
  constructor
  . rintro⟨⟨f,g⟩,w,C⟩
    have m:j≠i:=by
     rintro rfl
     rcases g with g|g
     . exact w g.symm rfl
     . exact C g.symm rfl
    exact⟨⟨f,m⟩,by rw[B,if_neg (fun e=>m e.symm)];exact g⟩
  . rintro⟨⟨f,m⟩,g⟩
    rw[B,if_neg (fun e=>m e.symm)]at g
    exact⟨⟨f,g⟩,fun _=>m,fun _=>m⟩
 have q:∀ j,k.A.gX j->fJ ls j=fJ s.live j:=fun j d=>by rw[B,if_neg (fun e=>((l j).1 d).2 e.symm)]
 refine⟨⟨hd.n.trans h.n,(o.n.trans y.n).trans h.tn,h.en,h.vn,K,Q,?_,?_,?_,?_,?_,o.keys (y.keys h.keys),E,o.nd (y.nd h.nd),o.none (y.none h.empty),?_,?_,h.sn⟩,fun x=>⟨?_,?_⟩⟩
 . show ls.length=k.A.begun
   rw[I,gC,hd.pn]
   exact O
 . intro j d
   show (fJ ls j).slot=(j:Int)
   rw[q j d]
   exact h.slot j ((l j).1 d).1
 . intro j
   show (fJ ls j).ok
   rw[B]
   split
   . exact⟨ku (by show _/\_;decide),oJ (by show _/\_;decide),oJ (by show _/\_;decide),oJ (by show _/\_;decide),ku (by show _/\_;decide),ku (by show _/\_;decide),ku (by show _/\_;decide)⟩
   . exact h.E5 j
 . intro j d
   show (fJ ls j).u≠(fJ ls j).v
   rw[q j d]
   exact h.ne j ((l j).1 d).1
 . intro x
   show z.mem x↔∃ j,k.A.gX j/\(fJ ls j).at x
   rw[o.mem,y.mem]
   have L:(∃ j,k.A.gX j/\(fJ ls j).at x)↔(gi im2 x).2≠[]:=by
    constructor
    . rintro⟨j,d⟩ e
      have:=(E x j).2 d
      rw[e]at this
      simp at this
    . intro P
      obtain⟨j,d⟩:=Lp _ P
      exact⟨j,(E x j).1 d⟩
   rw[L]
   constructor
   . rintro⟨⟨f,g⟩,w⟩
     by_cases hv:x=(fJ s.live i).v
     . rw[hv];exact w hv
     . by_cases hu:x=(fJ s.live i).u
       . have C:=g hu
         intro e
         obtain⟨j,d⟩:=Lp _ C
         have:j∈(gi im2 x).2:=(o.get x j).2 ⟨by rw[hu];exact d,fun p=>absurd p hv⟩
         rw[e]at this
         simp at this
       . obtain⟨j,d,N⟩:=(h.mem x).1 f
         intro e
         have:j∈(gi im2 x).2:=(D x j).2 ⟨(h.inc x j).2 ⟨d,N⟩,fun p=>absurd p hu,fun p=>absurd p hv⟩
         rw[e]at this
         simp at this
   . intro f
     obtain⟨j,d⟩:=Lp _ f
     have g:=(D x j).1 d
     have w:=(h.inc x j).1 g.1
     refine⟨⟨(h.mem x).2 ⟨j,w.1,w.2⟩,fun e=>?_⟩,fun e=>by rw[<-e];exact f⟩
     intro p
     have:j∈(gi F x).2:=((o.get x j).1 d).1
     rw[e,p]at this
     simp at this
 . intro j d
   show (fJ ls j).seq<=s.last
   rw[q j d]
   exact h.seq j ((l j).1 d).1
 . intro a b G H
   show (fJ ls a).seq=(fJ ls b).seq->a=b
   rw[q a G,q b H]
   exact h.FI a b ((l a).1 G).1 ((l b).1 H).1
 . rintro⟨j,d,r⟩
   change fJ ls j=x at r
   rw[q j d]at r
   have f:=(l j).1 d
   refine⟨⟨j,f.1,r⟩,?_⟩
   rw[<-r,h.slot j f.1]
   intro e
   exact f.2 o_
 . rintro⟨⟨j,d,r⟩,hs⟩
   have m:j≠i:=by
    rintro rfl
    rw[<-r,h.slot j d]at hs
    exact hs rfl
   have f:=(l j).2 ⟨d,m⟩
   exact⟨j,f,by show fJ ls j=x;rw[q j f];exact r⟩
end
theorem IZ{xs:List Nat}{i:Nat}(h:i∈xs)(l:xs.Nodup):∃ k,xs[k]? = some i/\(gx xs)[k]? = some (i:Int)/\∀ (j:Nat) (y:Int),j<k->(gx xs)[j]? = some y->y≠(i:Int):=by
 obtain⟨k,b,e⟩:=yX h
 refine⟨k,by rw[zk b,e],by simp[gx,lK,zk b,e],fun j y m c n=>?_⟩
 simp only[gx,lK,Option.map_eq_some_iff]at c
 obtain⟨a,d,rfl⟩:=c
 obtain⟨g,f⟩:=ze.1 d
 have:j=k:=JJ l g b (by rw[f,e];omega)
 omega
theorem JH{xs:List Nat}(h:∀ j∈xs,j<65536):∀ y∈gx xs,gR .i64 y:=by
 intro y b
 obtain⟨j,a,rfl⟩:=z7.1 b
 have:=h j a
 exact ku o_
theorem I3{fO fM:Nat}{s:fW}(h:s.ok fO fM){id:Int}{P:Nat->Prop}(hs:∀ j,P j->j∈s.inc id){j:Nat}(a:P j):j<65536:=by
 have b:=((h.inc id j).1 (hs j a)).1.1
 have:=h.kS.le
 have:=h.n
 have:=h.en
 omega
theorem inc_le{fO fM:Nat}{s:fW}(h:s.ok fO fM){a:IM}{d:TW}{id:Int}{i:Nat}(o:mZ s.im s.t a d id i)(c:Int):(gi a c).2.length<=65536:=by
 refine kg (AS s.A.begun _ (o.nd h.nd c) fun j b=>((h.inc c j).1 ((o.get c j).1 b).1).1.1) ?_
 have:=h.kS.le
 have:=h.n
 have:=h.en
 omega
theorem fW.tv{fO fM:Nat}{aw:AW}{t:TW}(c:aw.A=As.new fM)(g:t.ok)(e:∀ x,¬ t.mem x)(f:t.A.n=fO)(d:fM<=16384)(hv:fO<=4096)(jd tb ab mb:Nat) :
 fW.ok fO fM ⟨jd,tb,ab,mb,.slice none 0 0,0,aw,t,[],[]⟩/\∀ x,¬ fW.has ⟨jd,tb,ab,mb,.slice none 0 0,0,aw,t,[],[]⟩ x:=by
 have b:∀ j,¬ aw.A.gX j:=fun j a=>by rw[c]at a;exact absurd a.1 (by simp[As.new])
 have hd:∀ j,fJ ([]:List Lv) j=⟨0,0,0,0,0,0,0⟩:=fun j=>rfl
 refine⟨⟨?_,f,d,hv,?_,g,?_,?_,?_,?_,?_,?_,?_,?_,?_,?_,?_,?_⟩,fun x ⟨j,a,_⟩=>b j a⟩
 . show aw.A.n=fM;rw[c];rfl
 . show aw.A.ok;rw[c];exact As.tv o_
 . show ([]:List Lv).length=aw.A.begun;rw[c];rfl
 . exact fun j a=>absurd a (b j)
 . intro j
   show Lv.ok (⟨0,0,0,0,0,0,0⟩:Lv)
   exact⟨ku (by show _/\_;decide),oJ (by show _/\_;decide),oJ (by show _/\_;decide),oJ (by show _/\_;decide),ku (by show _/\_;decide),ku (by show _/\_;decide),ku (by show _/\_;decide)⟩
 . exact fun j a=>absurd a (b j)
 . exact fun id=>⟨fun h=>absurd h (e id),fun⟨j,a,_⟩=>absurd a (b j)⟩
 . exact wR
 . exact fun id j=>⟨fun h=>(by cases h),fun h=>absurd h.1 (b j)⟩
 . exact fun id=>wR
 . exact fun id=>⟨fun _=>rfl,fun _=>rfl⟩
 . exact fun j a=>absurd a (b j)
 . exact fun j _ a=>absurd a (b j)
 . exact Int.le_refl 0
end Go.Sx
namespace Go.Sx
open Go
theorem xL:∀ (L M:List Int),L.Nodup->(∀ j∈L,j∈M)->L.length<=M.length
 | [],_,_,_=>by simp
 | x :: L,M,hn,h=>by
  have b:=h x s_
  have c:=xL L (M.erase x) (zt.1 hn).2 (fun j a=>(List.mem_erase_of_ne (fun e=>(zt.1 hn).1 (by rw[<-e];exact a))).2 (h j (by simp[a])))
  rw[Lu b]at c
  have:=LB b
  simp only[zd]
  omega
def TW.tc(t:TW):List Int:=(t.A.list t.A.begun).map (fJ t.ids)
theorem TW.IY{t:TW}(hA:t.A.ok)(x:Int):x∈t.tc↔t.mem x:=by
 unfold TW.tc TW.mem
 rw[z7]
 exact⟨fun⟨i,a,b⟩=>⟨i,(hA.oL i).1 a,b⟩,fun⟨i,a,b⟩=>⟨i,(hA.oL i).2 a,b⟩⟩
theorem TW.PV{t:TW}(hA:t.A.ok):t.tc.length=t.A.used:=by rw[TW.tc,zn,hA.AJ]
theorem JM{α β:Type}{f:α->β}:∀ {l:List α},l.Nodup->(∀ x∈l,∀ y∈l,f x=f y->x=y)->(l.map f).Nodup
 | [],_,_=>wR
 | a :: l,h,hf=>by
  rw[kf,zt]
  refine⟨fun hm=>?_,JM (zt.1 h).2 fun x c y d=>hf x (by simp[c]) y (by simp[d])⟩
  obtain⟨b,hb,e⟩:=z7.1 hm
  have:=hf b (by simp[hb]) a s_ e
  subst this
  exact(zt.1 h).1 hb
theorem TW.PW{t:TW}(h:t.ok)(hA:t.A.ok):t.tc.Nodup :=
 JM ((t.A.CC _).imp fun h=>Nat.ne_of_lt h) fun x a y b e=>h.uniq x y ((hA.oL x).1 a) ((hA.oL y).1 b) e
theorem TW.HF{t:TW}(h:t.ok)(hA:t.A.ok){u v:Int}(d:u≠v):∃ K:List Int,K.Nodup/\K.length=t.A.used+(t.cnt u+t.cnt v)/\∀ x,x∈K↔t.mem x\/x=u\/x=v:=by
 have b:=TW.PW h hA
 have e:=TW.PV hA
 have hm:=TW.IY hA
 by_cases hu:t.mem u<;>by_cases hv:t.mem v
 . rw[TW.xl hu,TW.xl hv]
   refine⟨t.tc,b,o_,fun x=>(hm x).trans ⟨.inl,?_⟩⟩
   rintro(a|rfl|rfl)
   . exact a
   . exact hu
   . exact hv
 . rw[TW.xl hu,TW.sZ hv]
   refine⟨v :: t.tc,zt.2 ⟨fun a=>hv ((hm v).1 a),b⟩,by simp;omega,fun x=>?_⟩
   rw[zb,hm]
   constructor
   . rintro(a|a)
     . exact .inr (.inr a)
     . exact .inl a
   . rintro(a|rfl|a)
     . exact .inr a
     . exact .inr hu
     . exact .inl a
 . rw[TW.sZ hu,TW.xl hv]
   refine⟨u :: t.tc,zt.2 ⟨fun a=>hu ((hm u).1 a),b⟩,by simp;omega,fun x=>?_⟩
   rw[zb,hm]
   constructor
   . rintro(a|a)
     . exact .inr (.inl a)
     . exact .inl a
   . rintro(a|a|rfl)
     . exact .inr a
     . exact .inl a
     . exact .inr hv
 . rw[TW.sZ hu,TW.sZ hv]
   refine⟨u :: v :: t.tc,zt.2 ⟨fun a=>?_,zt.2 ⟨fun a=>hv ((hm v).1 a),b⟩⟩,by simp;omega,fun x=>?_⟩
   . rcases zb.1 a with c|c
     . exact d c
     . exact hu ((hm u).1 c)
   . rw[zb,zb,hm]
     constructor
     . rintro(a|a|a)
       . exact .inr (.inl a)
       . exact .inr (.inr a)
       . exact .inl a
     . rintro(a|a|a)
       . exact .inr (.inr a)
       . exact .inl a
       . exact .inr (.inl a)
section
variable {fO fM:Nat} {s s1 s2:fW}
theorem fW.ok.Az(h:s.ok fO fM){x:Lv}(a:s.has x):∃ i:Nat,x.slot=(i:Int)/\s.A.gX i/\fJ s.live i=x/\i<fM:=by
 obtain⟨i,hi,rfl⟩:=a
 refine⟨i,h.slot i hi,hi,rfl,?_⟩
 have:=hi.1
 have:=h.kS.le
 have:=h.n
 omega
theorem fW.ok.KC(h:s.ok fO fM){x y:Lv}(c:s.has x)(d:s.has y)(e:x.slot=y.slot):x=y:=by
 obtain⟨i,g,_,b,_⟩:=h.Az c
 obtain⟨j,f,_,a,_⟩:=h.Az d
 have:i=j:=by omega
 subst this
 rw[<-b,<-a]
theorem fW.ok.Sh(h:s.ok fO fM){x:Lv}(a:s.has x):x.seq<=s.last:=by
 obtain⟨i,hi,rfl⟩:=a
 exact h.seq i hi
theorem fW.ok.Ay(h:s.ok fO fM){x:Lv}(a:s.has x):x.ok/\x.u≠x.v:=by
 obtain⟨i,hi,rfl⟩:=a
 exact⟨h.E5 i,h.ne i hi⟩
theorem fW.agQ(h1:s1.ok fO fM)(a:s2.ok fO fM)(hs:∀ x,s1.has x->s2.has x):s1.A.used<=s2.A.used:=by
 rw[<-h1.kS.AJ,<-a.kS.AJ]
 refine CK _ _ ((s1.A.CC _).imp fun h=>Nat.ne_of_lt h) fun i hi=>?_
 have b:=(h1.kS.oL i).1 hi
 obtain⟨j,c,e⟩:=hs _ ⟨i,b,rfl⟩
 have d:=a.slot j c
 rw[e,h1.slot i b]at d
 have:i=j:=by omega
 subst this
 exact(a.kS.oL i).2 c
theorem fW.UY(h1:s1.ok fO fM)(g:s1.t.A.ok)(b:s2.ok fO fM)(h:s2.t.A.ok)(hs:∀ x,s1.has x->s2.has x){u v:Int}(l:s2.gJ fO fM u v=0):s1.gJ fO fM u v=0:=by
 obtain⟨a,p,q⟩:=fW.HN l
 have y:=fW.agQ h1 b hs
 obtain⟨c,k1,z,o⟩:=TW.HF h1.tok g a
 obtain⟨d,r,s,f⟩:=TW.HF b.tok h a
 have w:c.length<=d.length:=xL c d k1 fun x n=>(f x).2 ((o x).1 n |>.imp_left fun hm=>by
  obtain⟨i,hi,k⟩:=(h1.mem x).1 hm
  obtain⟨j,m,e⟩:=hs _ ⟨i,hi,rfl⟩
  exact(b.mem x).2 ⟨j,m,by rw[e];exact k⟩)
 exact fW.Ah a o_ o_
structure fW.mW (s:fW) (L:List Lv):Prop where
 mem:∀ x,x∈L↔s.has x
 kj:L.Pairwise fun a b=>a.seq<b.seq
theorem fW.mW.nodup{L:List Lv}(h:s.mW L):L.Nodup:=h.kj.imp fun {a b} c e=>by rw[e]at c;omega
theorem fW.mW.slots{L:List Lv}(a:s.mW L)(h:s.ok fO fM):(L.map Lv.slot).Nodup :=
 JM a.nodup fun x b y c e=>h.KC ((a.mem x).1 b) ((a.mem y).1 c) e
theorem fW.mW.len{L:List Lv}(a:s.mW L)(h:s.ok fO fM):L.length<=fM:=by
 have b:(L.map Lv.slot).length<=((List.range fM).map fun i:Nat=>(i:Int)).length:=xL _ _ (a.slots h) fun j c=>by
  obtain⟨x,d,rfl⟩:=z7.1 c
  obtain⟨i,e,_,_,hi⟩:=h.Az ((a.mem x).1 d)
  rw[e]
  exact z7.2 ⟨i,zz.2 hi,rfl⟩
 simpa using b
theorem fW.aaV{ys:List Lv}(h:s.ok fO fM)(hp:ys.Perm ((s.A.list s.A.begun).map (fJ s.live)))(hs:ys.Pairwise fun a b=>a.seq<=b.seq):s.mW ys:=by
 refine⟨fun x=>?_,?_⟩
 . rw[hp.mem_iff,z7]
   exact⟨fun⟨i,c,d⟩=>⟨i,(h.kS.oL i).1 c,d⟩,fun⟨i,c,d⟩=>⟨i,(h.kS.oL i).2 c,d⟩⟩
 . have c:((s.A.list s.A.begun).map (fJ s.live)).Pairwise fun a b=>a.seq≠b.seq:=by
    rw[GF]
    refine(s.A.CC _).imp_of_mem fun {a b} f hb j e=>?_
    have:=h.FI a b ((h.kS.oL a).1 f) ((h.kS.oL b).1 hb) e
    omega
   have d:ys.Pairwise fun a b=>a.seq≠b.seq:=hp.symm.pairwise c fun {a b} g e=>g e.symm
   exact(hs.and d).imp fun {a b} h=>by have:=h.1;have:=h.2;omega
theorem Bj{α β:Type}[Inhabited α]{l:List α}(f:α->β){k:Nat}(hk:k<l.length):(l.take (k+1)).map f=(l.take k).map f++[f (fJ l k)]:=by
 have a:l[k]? = some (fJ l k):=gB hk
 rw[pQ,a]
 simp
end
end Go.Sx
namespace Go.Sx
open Go
structure QS where
 iv:Value
 pv:Value
 ps:List (Option Nat)
 fP:List gF
 pl:List Nat
structure QS.ok (n:Nat) (s:QS):Prop where
 hp:Hp n s.fP s.pl
 gN:jq n s.ps s.pl
 ord:Ord s.fP
theorem QS.ok.free{n:Nat}{s:QS}(h:s.ok n){i:Nat}(hi:i<n)(d:∀ e∈s.fP,e.ix≠i):fJ s.pl i=0:=by
 rcases yQ (fJ s.pl i)with a|a
 . exact a
 . obtain⟨b,c⟩:=h.hp.of i (fJ s.pl i-1) hi o_
   exact absurd c (d _ (qM.2 ⟨_,b,rfl⟩))
theorem QS.ok.lt{n:Nat}{s:QS}(h:s.ok n){e:gF}(a:e∈s.fP):e.ix<n:=by
 obtain⟨p,hp,rfl⟩:=qM.1 a
 exact h.hp.ix p hp
theorem QS.ok.inj{n:Nat}{s:QS}(h:s.ok n){e f:gF}(a:e∈s.fP)(b:f∈s.fP)(d:e.ix=f.ix):e=f:=by
 obtain⟨p,hp,rfl⟩:=qM.1 a
 obtain⟨q,c,rfl⟩:=qM.1 b
 rw[h.hp.inj hp c d]
structure tW (s0 s:List gF) (ds:List Nat) (now:Int):Prop where
 rest:∀ e,e∈s↔e∈s0/\e.ix∉ds
 I2:∀ i∈ds,∃ e∈s0,e.ix=i/\e.key<=now
 nd:ds.Nodup
 len:s.length+ds.length=s0.length
theorem tW.start(s:List gF)(now:Int):tW s s [] now:=⟨fun e=>by simp,fun i hi=>by simp at hi,wR,s_⟩
theorem tW.step{s0 s s1:List gF}{ds:List Nat}{now:Int}(h:tW s0 s ds now)(f:0<s.length)(hk:(fJ s 0).key<=now)(hm:∀ e,e∈s1↔e∈s/\e.ix≠(fJ s 0).ix)(k:s1.length+1=s.length):tW s0 s1 (ds++[(fJ s 0).ix]) now:=by
 have j:fJ s 0∈s:=qM.2 ⟨0,f,rfl⟩
 have d:=(h.rest _).1 j
 refine⟨fun e=>?_,fun i hi=>?_,?_,?_⟩
 . rw[hm,h.rest,zo,lB,not_or,and_assoc]
 . rcases zo.1 hi with c|c
   . exact h.I2 i c
   . rw[lB]at c
     subst c
     exact⟨_,d.1,rfl,hk⟩
 . refine zr.2 ⟨h.nd,s_,?_⟩
   intro a g b hb
   rw[lB]at hb
   subst hb
   rintro rfl
   exact d.2 g
 . have:=h.len
   rw[zq]
   simp
   omega
structure qw (n:Nat) (s0 s:QS) (ds:List Nat) (now:Int):Prop where
 ok:s.ok n
 rest:∀ e,e∈s.fP↔e∈s0.fP/\now<e.key
 out:∀ i,i∈ds↔∃ e∈s0.fP,e.ix=i/\e.key<=now
 nd:ds.Nodup
 len:ds.length<=n
theorem tW.fin{n:Nat}{s0 s:QS}{ds:List Nat}{now:Int}(h:tW s0.fP s.fP ds now)(d:s0.ok n)(h1:s.ok n)(hd:s.fP.length=0\/now<(fJ s.fP 0).key):qw n s0 s ds now:=by
 have g:∀ e∈s.fP,now<e.key:=by
  intro e a
  rcases hd with c|c
  . rw[Gy]at c;rw[c]at a;simp at a
  . have:=h1.ord.min a
    unfold iE at this
    omega
 have m:∀ e,e∈s.fP↔e∈s0.fP/\now<e.key:=by
  intro e
  constructor
  . intro a;exact⟨((h.rest e).1 a).1,g e a⟩
  . rintro⟨a,l⟩
    refine(h.rest e).2 ⟨a,fun b=>?_⟩
    obtain⟨f,j,k,o⟩:=h.I2 _ b
    have:=d.inj a j k.symm
    subst this
    omega
 refine⟨h1,m,fun i=>⟨h.I2 i,?_⟩,h.nd,?_⟩
 . rintro⟨e,a,rfl,l⟩
   by_cases b:e.ix∈ds
   . exact b
   . have:=g e ((h.rest e).2 ⟨a,b⟩)
     omega
 . have:=h.len
   have:=d.hp.len
   omega
end Go.Sx
namespace Go.Sx
open Go
structure Ed where
 a:Nat
 b:Nat
 exp:Int
 tree:Bool
 deriving Inhabited
def Ed.enc(e:Ed):Value:=.agg #[.int .i64 (e.a:Int),.int .i64 (e.b:Int),.int .i64 e.exp,.bool e.tree]
structure GW where
 fb:Nat
 nb:Nat
 hb:Nat
 mb:Nat
 trees:Int
 q:QS
 m:List (Int×Ed)
structure Ed.In (fO:Nat) (e:Ed):Prop where
 a:e.a<fO
 b:e.b<fO
 exp:gR .i64 e.exp
structure GW.ok (fO fM:Nat) (g:GW):Prop where
 v2:2<=fO
 vn:fO<=4096
 en:fM<=16384
 ed:∀ p∈g.m,p.2.In fO
theorem GW.ok.get{fO fM:Nat}{g:GW}(h:g.ok fO fM)(k:Int):(gi g.m k).In fO:=by
 unfold gi
 cases hm:gZ g.m k with
 | none=>exact⟨nQ d_ h.v2,nQ d_ h.v2,⟨d_,d_⟩⟩
 | some x=>exact h.ed _ (QF hm)
theorem GW.ok.put{fO fM:Nat}{g:GW}(h:g.ok fO fM){k:Int}{e:Ed}(b:e.In fO){fb nb hb mb:Nat}{c:Int}{q:QS}:GW.ok fO fM ⟨fb,nb,hb,mb,c,q,gD g.m k e⟩ :=
 ⟨h.v2,h.vn,h.en,fun p hp=>by
  rcases zb.1 ((JD g.m k e).mem_iff.1 hp)with rfl|a
  . exact b
  . exact h.ed p ((Ju g.m k).subset a)⟩
theorem GW.ok.del{fO fM:Nat}{g:GW}(h:g.ok fO fM){k:Int}{fb nb hb mb:Nat}{a:Int}{q:QS}:GW.ok fO fM ⟨fb,nb,hb,mb,a,q,iZ g.m k⟩ :=
 ⟨h.v2,h.vn,h.en,fun p hp=>h.ed p ((Ju g.m k).subset hp)⟩
theorem GW.ok.same{fO fM:Nat}{g:GW}(h:g.ok fO fM){fb nb hb mb:Nat}{a:Int}{q:QS}:GW.ok fO fM ⟨fb,nb,hb,mb,a,q,g.m⟩:=⟨h.v2,h.vn,h.en,h.ed⟩
end Go.Sx
namespace Go.Sx
open Go
def p5(a b:Int):Int×Int:=if -9223372036854775808<=a+b/\a+b<=9223372036854775807 then(a+b,0)else(0,7)
theorem xh{a b:Int}(h : -9223372036854775808<=a+b/\a+b<=9223372036854775807):p5 a b=(a+b,0):=if_pos h
theorem Nc{a b:Int}(h:¬ (-9223372036854775808<=a+b/\a+b<=9223372036854775807)):p5 a b=(0,7):=if_neg h
def ry(win now to:Int):Int:=if to<now then 10 else(p5 to win).2
end Go.Sx
namespace Go.Sx
open Go
structure WC where
 win:Int
 fM:Nat
 fO:Nat
 kr:Int
structure WW where
 cb:Nat
 ub:Nat
 sb:Nat
 hb:Nat
 ob:Nat
 now:Int
 q:QS
 u:fW
 g:GW
 added:Int
 jr:Int
def DH(u:fW)(q:QS):Prop:=∀ e:gF,e∈q.fP↔∃ x,u.has x/\x.slot=(e.ix:Int)/\x.exp=e.key
structure WW.ok (c:WC) (s:WW):Prop where
 w1:1<=c.win
 wi:c.win<=1000000
 e1:1<=c.fM
 en:c.fM<=16384
 v2:2<=c.fO
 vn:c.fO<=4096
 n0:0<=s.now
 n1:s.now<=1000000
 a0:0<=s.added
 a1:s.added<=1000000
 ex:gR .u64 s.jr
 la:s.u.last<=s.added
 Bc:DH s.u s.q
 live:∀ x,s.u.has x->x.t<=s.now/\s.now<x.exp/\x.exp=x.t+c.win/\0<=x.t
 ord:∀ x y,s.u.has x->s.u.has y->x.seq<y.seq->x.t<=y.t
structure oW (u u2:fW) (ds:List Nat):Prop where
 has:∀ x,u2.has x↔u.has x/\∀ i∈ds,x.slot≠(i:Int)
 last:u2.last=u.last
theorem oW.start(u:fW):oW u u []:=⟨fun x=>by simp,rfl⟩
theorem oW.next{u d e:fW}{ds:List Nat}{i:Nat}(h:oW u d ds)(f:∀ x,e.has x↔d.has x/\x.slot≠(i:Int))(g:e.last=d.last):oW u e (ds++[i]) :=
 ⟨fun x=>by
  rw[f,h.has,and_assoc]
  refine and_congr_right fun _=>⟨fun⟨a,b⟩ j c=>?_,fun h=>⟨fun j c=>h j (by simp[c]),h i s_⟩⟩
  rcases zo.1 c with c|c
  . exact a j c
  . rw[lB]at c;subst c;exact b,g.trans h.last⟩
theorem oW.fin{fO fM n:Nat}{u d:fW}{q r:QS}{ds:List Nat}{t:Int}(h:oW u d ds)(hs:DH u q)(c:u.ok fO fM)(hd:qw n q r ds t):∀ x,d.has x↔u.has x/\t<x.exp:=by
 intro x
 rw[h.has]
 refine and_congr_right fun a=>?_
 obtain⟨i,hi,_,_,_⟩:=c.Az a
 have g:(⟨i,x.exp⟩:gF)∈q.fP:=(hs _).2 ⟨x,a,hi,rfl⟩
 constructor
 . intro b
   by_cases h2:t<x.exp
   . exact h2
   . exact absurd hi (b i ((hd.out i).2 ⟨_,g,rfl,Int.not_lt.1 h2⟩))
 . intro b j m e
   obtain⟨f,k,l,s⟩:=(hd.out j).1 m
   obtain⟨y,o,p,v⟩:=(hs f).1 k
   have:x=y:=c.KC a o (by rw[e,p,l])
   subst this
   omega
theorem oW.can{fO fM n:Nat}{u b:fW}{q C:QS}{ds:List Nat}{t:Int}{k i:Nat}(h:oW u b (ds.take k))(hs:DH u q)(w:b.ok fO fM)(hd:qw n q C ds t)(hk:ds[k]? = some i):b.A.gX i:=by
 obtain⟨v,s⟩:=ze.1 hk
 obtain⟨f,m,o,D⟩:=(hd.out i).1 (zg hk)
 obtain⟨x,y,B,E⟩:=(hs f).1 m
 rw[o]at B
 have z:b.has x:=(h.has x).2 ⟨y,fun j d e=>by
  obtain⟨a,g,c⟩:=yX d
  have l:a<k/\a<ds.length:=by
   rw[zy]at g
   omega
  rw[List.getElem_take]at c
  have p:j=i:=by omega
  have:=JJ hd.nd l.2 v (by rw[c,s,p])
  omega⟩
 obtain⟨j,d,r,_,_⟩:=w.Az z
 have:j=i:=by omega
 subst this
 exact r
section
variable {c:WC} {s:WW}
theorem WW.ok.tick(h:s.ok c){T:Int}(r:s.now<=T)(l:T<=1000000){f:fW}{j:QS}{g2:GW}{ds:List Nat}{n:Nat}{ex:Int}(m:gR .u64 ex)(hd:qw n s.q j ds T)(d:∀ x,f.has x↔s.u.has x/\T<x.exp)(o:f.last=s.u.last) :
 WW.ok c ⟨s.cb,s.ub,s.sb,s.hb,s.ob,T,j,f,g2,s.added,ex⟩:=by
 have v:=h.n0
 refine⟨h.w1,h.wi,h.e1,h.en,h.v2,h.vn,by show 0<=T;omega,l,h.a0,h.a1,m,by show f.last<=_;rw[o];exact h.la,fun e=>?_,fun x i=>?_,fun x y i p=>h.ord x y ((d x).1 i).1 ((d y).1 p).1⟩
 . show e∈j.fP↔∃ x,f.has x/\_
   rw[hd.rest,h.Bc]
   constructor
   . rintro⟨⟨x,a,b,g⟩,k⟩
     exact⟨x,(d x).2 ⟨a,o_⟩,b,g⟩
   . rintro⟨x,a,b,g⟩
     have k:=(d x).1 a
     exact⟨⟨x,k.1,b,g⟩,o_⟩
 . have a:=(d x).1 i
   have b:=h.live x a.1
   show x.t<=T/\T<x.exp/\_
   exact⟨o_,a.2,b.2.2⟩
theorem WW.ok.free(h:s.ok c)(k:s.u.ok c.fO c.fM){d:fW}(l:d.ok c.fO c.fM){i:Nat}{e:Lv}(g:e.slot=(i:Int))(n:e.seq=s.u.last+1)(a:∀ y,d.has y↔s.u.has y\/y=e):∀ f∈s.q.fP,f.ix≠i:=by
 intro f j e1
 obtain⟨x,b,m,_⟩:=(h.Bc f).1 j
 have:x=e:=l.KC ((a x).2 (.inl b)) ((a e).2 (.inr rfl)) (by rw[m,g,e1])
 subst this
 have:=k.Sh b
 omega
theorem WW.ok.ins(h:s.ok c)(z:s.u.ok c.fO c.fM){d:fW}{o:QS}{g2:GW}{i:Nat}{e:Lv}(v:e.slot=(i:Int))(E:e.seq=s.u.last+1)(F:e.t=s.now)(D:e.exp=s.now+c.win)(j:∀ y,d.has y↔s.u.has y\/y=e)(G:d.last=s.u.last+1)
 (w:∀ f,f∈o.fP↔f∈s.q.fP\/f=⟨i,e.exp⟩) (B:s.added<1000000):WW.ok c ⟨s.cb,s.ub,s.sb,s.hb,s.ob,s.now,o,d,g2,s.added+1,s.jr⟩:=by
 have C:=h.a0
 have H:=h.la
 have I:=h.n0
 have J:=h.w1
 refine⟨h.w1,h.wi,h.e1,h.en,h.v2,h.vn,h.n0,h.n1,by show 0<=s.added+1;omega,by show s.added+1<=_;omega,h.ex,by show d.last<=s.added+1;omega,fun f=>?_,fun x l=>?_,fun x y l r=>?_⟩
 . show f∈o.fP↔∃ x,d.has x/\_
   rw[w,h.Bc]
   constructor
   . rintro(⟨x,m,k⟩|rfl)
     . exact⟨x,(j x).2 (.inl m),k⟩
     . exact⟨e,(j e).2 (.inr rfl),v,rfl⟩
   . rintro⟨x,m,k,n⟩
     rcases(j x).1 m with g|rfl
     . exact .inl ⟨x,g,k,n⟩
     . right
       obtain⟨a,b⟩:=f
       simp only at k n
       have:a=i:=by omega
       subst this
       rw[n]
 . show x.t<=s.now/\s.now<x.exp/\_
   rcases(j x).1 l with g|rfl
   . exact h.live x g
   . exact⟨o_,o_,o_,o_⟩
 . change d.has x at l
   change d.has y at r
   rcases(j x).1 l with g|rfl<;>rcases(j y).1 r with p|rfl
   . exact h.ord x y g p
   . intro _
     have:=(h.live x g).1
     omega
   . have:=z.Sh p
     intro A
     omega
   . intro _;omega
end
theorem WW.tv{c:WC}(w1:1<=c.win)(wi:c.win<=1000000)(e1:1<=c.fM)(en:c.fM<=16384)(v2:2<=c.fO)(vn:c.fO<=4096){u:fW}{q:QS}{g:GW}(a:∀ y,¬ u.has y)(d:u.last=0)(b:q.fP=[])(cb ub sb hb ob:Nat):WW.ok c ⟨cb,ub,sb,hb,ob,0,q,u,g,0,0⟩ :=
 ⟨w1,wi,e1,en,v2,vn,Int.le_refl 0,by show (0:Int)<=1000000;decide,Int.le_refl 0,by show (0:Int)<=1000000;decide,oJ ⟨Int.le_refl 0,by show (0:Int)<=18446744073709551615;decide⟩,by show u.last<=0;omega,fun e=>⟨fun h=>by change e∈q.fP at h;rw[b]at h;simp at h,fun⟨x,h,_⟩=>absurd h (a x)⟩,fun x h=>absurd h (a x),fun x y h=>absurd h (a x)⟩
structure WW.Step (s s2:WW) (r:Lv):Prop where
 now:s2.now=s.now\/s2.now=r.t
 added:s2.added<=s.added+1
 has:∀ x,s2.u.has x->s.u.has x\/(x.u=r.u/\x.v=r.v)
theorem WW.Step.same(s:WW)(r:Lv):WW.Step s s r:=⟨.inl rfl,o_,fun x h=>.inl h⟩
theorem ZK(x:Int):gR .u64 (IntKind.u64.wrap x):=by
 rw[IntKind.wrap_u64]
 exact oJ o_
theorem NJ{win now t:Int}(h1:now<=t)(a : -9223372036854775808<=t+win/\t+win<=9223372036854775807):ry win now t=0:=by
 unfold ry
 rw[if_neg o_,xh a]
theorem qw.Q5{n:Nat}{q a t:QS}{ds:List Nat}{now:Int}(h:qw n a t ds now)(e:a.fP=q.fP):qw n q t ds now :=
 ⟨h.ok,by rw[<-e];exact h.rest,by rw[<-e];exact h.out,h.nd,h.len⟩
theorem TW.nU.lt{t:TW}{id:Int}{z:Nat}{b:Bool}(h:t.nU id z b)(a:t.ok)(hp:0<t.A.n):z<t.A.n:=by
 rcases h with ⟨_,h,_⟩|⟨_,rfl,_⟩
 . exact nQ h.1 a.pn
 . exact hp
def Room(c:WC)(s:WW)(x:Lv):Prop:=∀ a:fW,a.ok c.fO c.fM->a.t.A.ok->(∀ y,a.has y↔s.u.has y/\x.t<y.exp)->a.gJ c.fO c.fM x.u x.v=0
theorem Room.of{c:WC}{s:WW}{x:Lv}{a:fW}(d:a.ok c.fO c.fM)(hA:a.t.A.ok)(f:a.gJ c.fO c.fM x.u x.v=0)(hs:∀ y,s.u.has y/\x.t<y.exp->a.has y):Room c s x :=
 fun i b e g=>fW.UY b e d hA (fun y h=>hs y ((g y).1 h)) f
end Go.Sx
namespace Go.Sx
open Go
structure sQ (c:WC) (s:WW) (k:Nat):Prop where
 now:s.now<=3*(k:Int)
 added:s.added<=(k:Int)
 ids:∀ x,s.u.has x->(0<=x.u/\x.u<12)/\0<=x.v/\x.v<12
theorem sQ.next{c:WC}{s s2:WW}{k:Nat}{r:Lv}(h:sQ c s k)(hs:WW.Step s s2 r)(l:r.t<=s.now+3)(d:0<=r.u/\r.u<12)(hv:0<=r.v/\r.v<12):sQ c s2 (k+1):=by
 have g:=h.now
 have i:=h.added
 have j:=hs.added
 refine⟨?_,o_,fun x f=>?_⟩
 . rcases hs.now with e|e<;>omega
 . rcases hs.has x f with a|⟨a,b⟩
   . exact h.ids x a
   . rw[a,b];exact⟨d,hv⟩
end Go.Sx
namespace Go.Sx
open Go
structure Mv where
 u:Int
 v:Int
 wt:Int
 af:Int
instance:Inhabited Mv:=⟨⟨0,0,0,0⟩⟩
structure Mv.ok (x:Mv):Prop where
 u:0<=x.u/\x.u<=255
 v:0<=x.v/\x.v<=255
 wt : -128<=x.wt/\x.wt<=127
 af:0<=x.af/\x.af<=255
theorem sQ.start{c:WC}{s:WW}(h1:s.now=0)(a:s.added=0)(b:∀ y,¬ s.u.has y):sQ c s 0 :=
 ⟨by rw[h1];decide,by rw[a];decide,fun x d=>absurd d (b x)⟩
def Mv.Cc(now:Int)(x:Mv):Lv:=⟨0,0,x.u%12,x.v%12,x.wt,now+x.af%4,0⟩
theorem Mv.ok.Cc{x:Mv}(h:x.ok){now:Int}(a:0<=now)(h1:now<=1000):(x.Cc now).ok:=by
 have b:=h.wt
 unfold Mv.Cc
 exact⟨ku (by show _/\_;dsimp only;omega),oJ (by show _/\_;dsimp only;omega),oJ (by show _/\_;dsimp only;omega),oJ (by show _/\_;dsimp only;omega),ku (by show _/\_;dsimp only;omega),ku (by show _/\_;dsimp only;omega),ku (by show _/\_;dsimp only;omega)⟩
end Go.Sx
namespace Go.Sx
open Go
section
variable {ys xs:List Int} {i j n:Nat} {x:Int}
def mL(ys:List Int)(i:Nat):Prop:=∀ p q,p<q->q<i->fJ ys p<=fJ ys q
def sP(ys:List Int)(i j:Nat):Prop:=∀ p q,p<q->q<=i->q≠j->fJ ys p<=fJ ys q
def C2(ys:List Int)(j:Nat):List Int:=fN (fN ys j fun _=>fJ ys (j-1)) (j-1) fun _=>fJ ys j
theorem SF(c:0<j)(h:j<ys.length):(C2 ys j).Perm ys:=by
 have b:=List.set_set_perm h (show j-1<ys.length by omega)
 have e1:fJ ys (j-1)=ys[j-1]:=jf (zk o_)
 have a:fJ ys j=ys[j]:=jf (zk h)
 unfold C2 fN
 rw[e1,a]
 exact b
theorem SE(a:0<j)(h:j<ys.length)(k:Nat):fJ (C2 ys j) k=if k=j then fJ ys (j-1)else if k=j-1 then fJ ys j else fJ ys k:=by
 unfold C2
 rw[iS (by rw[gC];omega),iS h]
 by_cases h1:k=j
 . subst h1
   rw[if_neg o_,if_pos rfl,if_pos rfl]
 . by_cases h2:k=j-1
   . subst h2
     rw[if_pos rfl,if_neg h1,if_pos rfl]
   . rw[if_neg (fun e=>h2 e.symm),if_neg (fun e=>h1 e.symm),if_neg h1,if_neg h2]
theorem mL.zero:mL ys 1:=fun p q a b=>by omega
theorem mL.at(h:mL ys i):sP ys i i:=fun p q a b c=>h p q a o_
theorem sP.swap(h:sP ys i j)(b:0<j)(e:j<=i)(f:i<ys.length)(g:fJ ys j<fJ ys (j-1)):sP (C2 ys j) i (j-1):=by
 intro p q d a c
 rw[SE b o_,SE b o_]
 by_cases hqj:q=j
 . rw[if_pos hqj]
   by_cases hp:p=j-1
   . rw[if_neg o_,if_pos hp];omega
   . rw[if_neg o_,if_neg hp]
     exact h p (j-1) o_ o_ o_
 . rw[if_neg hqj,if_neg c]
   by_cases hpj:p=j
   . rw[if_pos hpj]
     exact h (j-1) q o_ a hqj
   . rw[if_neg hpj]
     by_cases hp:p=j-1
     . rw[if_pos hp]
       exact h j q o_ a hqj
     . rw[if_neg hp]
       exact h p q d a hqj
theorem sP.N0(h:sP ys i 0):mL ys (i+1):=fun p q a b=>h p q a o_ o_
theorem sP.done(h:sP ys i j)(b:0<j)(d:j<=i)(e:¬ fJ ys j<fJ ys (j-1)):mL ys (i+1):=by
 intro p q a c
 by_cases hq:q=j
 . subst hq
   by_cases hp:p=q-1
   . subst hp;omega
   . have:=h p (q-1) o_ o_ o_
     omega
 . exact h p q a o_ hq
theorem mL.kj(h:mL ys ys.length)(f:ys.Nodup):ys.Pairwise fun a b=>a<b:=by
 have e:ys.Pairwise fun a b=>a<=b:=by
  rw[wJ]
  intro p q hp d g
  have c:=h p q g d
  rw[jf (zk hp),jf (zk d)]at c
  exact c
 exact(e.and f).imp fun {a b} h=>by have:=h.1;have:=h.2;omega
theorem D9{α:Type}{r:α->α->Prop}(hi:∀ a,¬ r a a)(f:∀ a b,r a b->¬ r b a):∀ {a b:List α},a.Pairwise r->b.Pairwise r->(∀ x,x∈a↔x∈b)->a=b
 | [],[],_,_,_=>rfl
 | [],y :: b,_,_,h=>by have:=(h y).2 s_;cases this
 | x :: a,[],_,_,h=>by have:=(h x).1 s_;cases this
 | x :: a,y :: b,ha,hb,h=>by
  have k:x=y:=by
   rcases zb.1 ((h x).1 s_)with e|c
   . exact e
   . rcases zb.1 ((h y).2 s_)with e|g
     . exact e.symm
     . exact absurd ((tS.1 ha).1 y g) (f _ _ ((tS.1 hb).1 x c))
  subst k
  have i:=(tS.1 ha).1
  have j:=(tS.1 hb).1
  congr 1
  refine D9 hi f (tS.1 ha).2 (tS.1 hb).2 fun z=>⟨fun d=>?_,fun d=>?_⟩
  . rcases zb.1 ((h z).1 (by simp[d]))with e|c
    . subst e;exact absurd (i z d) (hi z)
    . exact c
  . rcases zb.1 ((h z).2 (by simp[d]))with e|c
    . subst e;exact absurd (j z d) (hi z)
    . exact c
theorem Nl{a b:List Int}(c:a.Pairwise fun x y=>x<y)(hb:b.Pairwise fun x y=>x<y)(h:∀ x,x∈a↔x∈b):a=b :=
 D9 (fun a=>Int.lt_irrefl a) (fun a b h=>by omega) c hb h
theorem fW.mW.uniq{s:fW}{a b:List Lv}(c:s.mW a)(hb:s.mW b):a=b :=
 D9 (r:=fun x y:Lv=>x.seq<y.seq) (fun a=>Int.lt_irrefl _) (fun a b h=>by omega) c.kj hb.kj fun x=>(c.mem x).trans (hb.mem x).symm
structure mG (ys:List Int) (x:Int) (i j:Nat):Prop where
 lo:∀ p,p<i->fJ ys p<x
 hi:∀ p,j<=p->p<ys.length->x<=fJ ys p
theorem mG.start:mG ys x 0 ys.length:=⟨fun p h=>by omega,fun p a b=>by omega⟩
theorem Ae(h:ys.Pairwise fun a b=>a<b){p q:Nat}(e:p<q)(c:q<ys.length):fJ ys p<fJ ys q:=by
 have d:=(wJ.1 h) p q o_ c e
 rw[jf (zk (show p<ys.length by omega)),jf (zk c)]
 exact d
theorem mG.up(h:mG ys x i j)(hs:ys.Pairwise fun a b=>a<b){k:Nat}(hk:k<ys.length)(c:fJ ys k<x):mG ys x (k+1) j :=
 ⟨fun p hp=>by
  by_cases e:p=k
  . subst e;exact c
  . have:=Ae hs (show p<k by omega) hk
    omega,h.hi⟩
theorem mG.down(h:mG ys x i j)(hs:ys.Pairwise fun a b=>a<b){k:Nat}(f:¬ fJ ys k<x):mG ys x i k :=
 ⟨h.lo,fun p d c=>by
  by_cases e:p=k
  . subst e;omega
  . have:=Ae hs (show k<p by omega) c
    omega⟩
def gN(ys:List Int)(x:Int):Nat:=(ys.filter fun y=>decide (y<x)).length
theorem mG.gN(h:mG ys x i i)(hi:i<=ys.length):i=gN ys x:=by
 have d:(ys.take i).filter (fun y=>decide (y<x))=ys.take i:=uY.2 fun y c=>by
  obtain⟨p,hp,e⟩:=yX c
  rw[zy]at hp
  rw[List.getElem_take]at e
  have a:=h.lo p o_
  rw[jf (zk o_),e]at a
  exact decide_eq_true a
 have a:(ys.drop i).filter (fun y=>decide (y<x))=[]:=LA.2 fun y c=>by
  obtain⟨p,hp,e⟩:=yX c
  rw[uZ]at hp
  rw[List.getElem_drop]at e
  have b:=h.hi (i+p) o_ o_
  rw[jf (zk o_),e]at b
  simp
  omega
 have b:ys.filter (fun y=>decide (y<x))=ys.take i:=by
  conv=>lhs;rw[<-uW i ys]
  rw[wQ,d,a,sJ]
 unfold Go.Sx.gN
 rw[b,zy]
 omega
theorem xP(hs:ys.Pairwise fun a b=>a<b)(f:x∈ys):gN ys x<ys.length/\fJ ys (gN ys x)=x:=by
 obtain⟨k,c,e⟩:=yX f
 have e1:fJ ys k=x:=jf (by rw[zk c,e])
 have hb:mG ys x k k:=⟨fun p hp=>by have:=Ae hs hp c;omega,fun p g d=>by
  by_cases h3:k=p
  . subst h3;omega
  . have:=Ae hs (show k<p by omega) d
    omega⟩
 rw[<-hb.gN o_]
 exact⟨c,e1⟩
structure Ge where
 u:Nat
 v:Nat
 w:Int
instance:Inhabited Ge:=⟨⟨0,0,0⟩⟩
def Ge.cells(x:Ge):List Value:=[.int .i64 x.u,.int .i64 x.v,.int .i64 x.w]
structure LS (ids:List Int) (x:Lv) (e:Ge):Prop where
 ul:e.u<ids.length
 vl:e.v<ids.length
 u:fJ ids e.u=x.u
 v:fJ ids e.v=x.v
 w:e.w=x.wt
structure pW (ids:List Int) (L:List Lv) (es:List Ge) (k:Nat):Prop where
 len:es.length=L.length
 fst:∀ i,i<k->LS ids (fJ L i) (fJ es i)
theorem pW.start{ids:List Int}{L:List Lv}:pW ids L (List.replicate L.length ⟨0,0,0⟩) 0:=⟨by rw[tO],fun i h=>by omega⟩
theorem pW.next{ids:List Int}{L:List Lv}{es:List Ge}{k:Nat}(h:pW ids L es k)(hk:k<L.length)(hs:ids.Pairwise fun a b=>a<b)(c:(fJ L k).u∈ids)(hv:(fJ L k).v∈ids) :
 pW ids L (fN es k fun _=>⟨gN ids (fJ L k).u,gN ids (fJ L k).v,(fJ L k).wt⟩) (k+1):=by
 have d:=h.len
 refine⟨by rw[gC];exact d,fun i hi=>?_⟩
 rw[iS o_]
 by_cases e:k=i
 . subst e
   rw[if_pos rfl]
   exact⟨(xP hs c).1,(xP hs hv).1,(xP hs c).2,(xP hs hv).2,rfl⟩
 . rw[if_neg e]
   exact h.fst i o_
structure fW.qx (s:fW) (K:List Int):Prop where
 kj:K.Pairwise fun a b=>a<b
 mem:∀ x,x∈K↔s.t.mem x
theorem fW.qx.uniq{s:fW}{a b:List Int}(c:s.qx a)(hb:s.qx b):a=b:=Nl c.kj hb.kj fun x=>(c.mem x).trans (hb.mem x).symm
theorem fW.qx.ends{s:fW}{fO fM:Nat}{K:List Int}{L:List Lv}(h:s.qx K)(a:s.ok fO fM)(b:s.mW L){k:Nat}(hk:k<L.length):(fJ L k).u∈K/\(fJ L k).v∈K:=by
 obtain⟨i,hi,e⟩:=(b.mem _).1 (zg (gB hk))
 exact⟨(h.mem _).2 ((a.mem _).2 ⟨i,hi,.inl (by rw[e])⟩),(h.mem _).2 ((a.mem _).2 ⟨i,hi,.inr (by rw[e])⟩)⟩
theorem fW.qx.len{s:fW}{fO fM:Nat}{K:List Int}(h:s.qx K)(c:s.ok fO fM)(hA:s.t.A.ok):K.length<=fO:=by
 have d:K.length<=s.t.tc.length:=xL K _ (h.kj.imp fun {a b} j e=>by omega) fun x f=>(TW.IY hA x).2 ((h.mem x).1 f)
 rw[TW.PV hA]at d
 have g:=c.tok.ul
 have i:=c.tn
 omega
structure Mw where
 wa:Bool
 u:Int
 v:Int
 wt:Int
 af:Int
instance:Inhabited Mw:=⟨⟨false,0,0,0,0⟩⟩
def Mw.cells(x:Mw):List Value:=[.bool x.wa,.int .u8 x.u,.int .u8 x.v,.int .i8 x.wt,.int .u8 x.af]
def Mw.mv(x:Mw):Mv:=⟨x.u,x.v,x.wt,x.af⟩
abbrev cG:WC:=⟨20,40,10,60⟩
theorem sQ.tick{c:WC}{s s2:WW}{k:Nat}{T:Int}(h:sQ c s k)(g:s2.now=T)(i:T<=s.now+3)(f:s2.added=s.added)(a:∀ y,s2.u.has y↔s.u.has y/\T<y.exp):sQ c s2 (k+1):=by
 have d:=h.now
 have e:=h.added
 exact⟨o_,o_,fun x b=>h.ids x ((a x).1 b).1⟩
end
end Go.Sx
namespace Go.Sx
open Go
structure Ds where
 uv:Value
 lv:Value
 sv:Value
 up:List Nat
 le:List Nat
 sz:List Int
 cnt:Int
 lb:List Nat
structure Ds.vY (d:Nat->Nat) (n:Nat) (s:Ds):Prop where
 ul:s.up.length=n
 ll:s.le.length=n
 sl:s.sz.length=n
 bl:s.lb.length=n
 ub:∀ i,i<n->fJ s.up i<n
 vS:∀ i,i<n->fJ s.lb (fJ s.up i)=fJ s.lb i
 dec:∀ i,i<n->fJ s.up i≠i->d (fJ s.up i)<d i
 tI:∀ i j,i<n->j<n->fJ s.up i=i->fJ s.up j=j->fJ s.lb i=fJ s.lb j->i=j
 gH:∀ i,i<n->fJ s.up i=i->fJ s.le i=fJ s.lb i
 low:∀ i,i<n->fJ s.lb i<=i
 qJ:∀ i,i<n->fJ s.lb (fJ s.lb i)=fJ s.lb i
 KK:∀ x∈s.sz,gR .i64 x
def Ds.ok(n:Nat)(s:Ds):Prop:=(∃ d,s.vY d n)/\gR .i64 s.cnt
def jG(lb:List Nat)(x y:Nat):List Nat:=lb.map fun z=>if z=max x y then min x y else z
theorem JE{lb:List Nat}{x y:Nat}:(jG lb x y).length=lb.length:=by simp[jG]
theorem QU{lb:List Nat}{x:Nat}:jG lb x x=lb:=by
 unfold jG
 conv=>rhs;rw[<-List.map_id lb]
 exact yY fun z _=>by simp;intro h;exact h.symm
theorem AL{lb:List Nat}{x y i:Nat}(h:i<lb.length):fJ (jG lb x y) i=if fJ lb i=max x y then min x y else fJ lb i:=by
 obtain⟨z,a⟩:=oI h
 rw[jf a]
 exact jf (by rw[jG,lK,a];rfl)
theorem oe{n i:Nat}(h:i<n):fJ (List.range n) i=i:=jf (qX h)
theorem AO{α:Type}[Inhabited α]{x:α}{n i:Nat}(h:i<n):fJ (List.replicate n x) i=x:=jf (by rw[sI,if_pos h])
theorem ZM:gR .i64 1:=by unfold gR;decide
theorem Ds.tv{n:Nat}{u l s:Value}{c:Int}(b:gR .i64 c):Ds.ok n ⟨u,l,s,List.range n,List.range n,List.replicate n 1,c,List.range n⟩ :=
 ⟨⟨fun _=>0,s_,s_,s_,s_,fun i h=>by show fJ (List.range n) i<n;rw[oe h];exact h,fun i h=>by show fJ (List.range n) (fJ (List.range n) i)=_;rw[oe h,oe h],fun i h a=>absurd (oe h) a,
  fun i j hi d _ _ h=>by have a:fJ (List.range n) i=fJ (List.range n) j:=h;rwa [oe hi,oe d]at a,fun i _ _=>rfl,fun i h=>by show fJ (List.range n) i<=i;rw[oe h];exact zj _,fun i h=>by show fJ (List.range n) (fJ (List.range n) i)=_;rw[oe h,oe h],fun x e=>by rw[(List.mem_replicate.1 e).2];exact ZM⟩,b⟩
structure r0 (n k:Nat) (up le:List Nat) (sz:List Int):Prop where
 u:up=(List.range k)++List.replicate (n-k) 0
 l:le=(List.range k)++List.replicate (n-k) 0
 s:sz=List.replicate k 1++List.replicate (n-k) 0
theorem Bl{α:Type}[Inhabited α]{a b:List α}{x y:α}{f:α->α}(c:f x=y):fN (a++x :: b) a.length f=a++y :: b:=by
 unfold fN
 rw[jf (x:=x) s_,c,List.set_append_right _ _ (zj _)]
 simp
theorem r0.start{n:Nat}:r0 n 0 (List.replicate n 0) (List.replicate n 0) (List.replicate n 0):=⟨s_,s_,s_⟩
theorem A7{α:Type}{x:α}{n k:Nat}(h:k<n):List.replicate (n-k) x=x :: List.replicate (n-(k+1)) x:=by
 rw[show n-k=(n-(k+1))+1 by omega];rfl
theorem r0.next{n k:Nat}{up le:List Nat}{sz:List Int}(h:r0 n k up le sz)(hk:k<n):r0 n (k+1) (fN up k fun _=>k) (fN le k fun _=>k) (fN sz k fun _=>1):=by
 obtain⟨rfl,rfl,rfl⟩:=h
 have c:fN (List.range k++List.replicate (n-k) 0) k (fun _=>k)=List.range (k+1)++List.replicate (n-(k+1)) 0:=by
  have:=Bl (a:=List.range k) (b:=List.replicate (n-(k+1)) 0) (x:=0) (y:=k) (f:=fun _=>k) rfl
  rw[qq]at this
  rw[A7 hk,this,sL]
  simp
 refine⟨c,c,?_⟩
 have:=Bl (a:=List.replicate k (1:Int)) (b:=List.replicate (n-(k+1)) 0) (x:=0) (y:=1) (f:=fun _=>1) rfl
 rw[tO]at this
 rw[A7 hk,this,List.replicate_succ']
 simp
theorem r0.fin{n:Nat}{up le:List Nat}{sz:List Int}(h:r0 n n up le sz):up=List.range n/\le=List.range n/\sz=List.replicate n 1:=by
 obtain⟨rfl,rfl,rfl⟩:=h
 simp
theorem r0.len{n k:Nat}{up le:List Nat}{sz:List Int}(h:r0 n k up le sz)(hk:k<=n):up.length=n/\le.length=n/\sz.length=n:=by
 obtain⟨rfl,rfl,rfl⟩:=h
 simp
 omega
def fS(x:Int):List Value:=[.int .i64 x]
def Ds.wu(s:Ds)(up:List Nat):Ds:={ s with up:=up }
structure pR (d:Nat->Nat) (n:Nat) (s:Ds) (a0:Nat) (up:List Nat) (a:Nat):Prop where
 ok:(s.wu up).vY d n
 an:a<n
 la:fJ s.lb a=fJ s.lb a0
 ro:∀ i,i<n->fJ s.up i=i->fJ up i=i
theorem pR.start{d:Nat->Nat}{n a:Nat}{s:Ds}(h:s.vY d n)(b:a<n):pR d n s a s.up a:=⟨h,b,rfl,fun _ _ h=>h⟩
theorem pR.half{d:Nat->Nat}{n a0 a:Nat}{s:Ds}{up:List Nat}(h:pR d n s a0 up a)(p:fJ up a≠a) :
 pR d n s a0 (fN up a fun _=>fJ up (fJ up a)) (fJ up (fJ up a))/\fJ (fN up a fun _=>fJ up (fJ up a)) a=fJ up (fJ up a)/\d (fJ up (fJ up a))<d a:=by
 obtain⟨b,k,x,r⟩:=h
 have z:up.length=n:=b.ul
 have o:∀ i,i<n->fJ up i<n:=b.ub
 have g:∀ i,i<n->fJ s.lb (fJ up i)=fJ s.lb i:=b.vS
 have l:∀ i,i<n->fJ up i≠i->d (fJ up i)<d i:=b.dec
 have hp:=o a k
 have q:=o _ hp
 have f:∀ i,fJ (fN up a fun _=>fJ up (fJ up a)) i=if a=i then fJ up (fJ up a)else fJ up i:=fun i=>iS o_
 have A:=l a k p
 have v:d (fJ up (fJ up a))<=d (fJ up a):=by
  by_cases c:fJ up (fJ up a)=fJ up a
  . rw[c];exact zj _
  . exact Nat.le_of_lt (l _ hp c)
 have y:fJ up (fJ up a)≠a:=fun e=>by rw[e]at v;omega
 have m:∀ i,fJ (fN up a fun _=>fJ up (fJ up a)) i=i->fJ up i=i:=by
  intro i hi
  rw[f]at hi
  split at hi
  . rename_i e;subst e;exact absurd hi y
  . exact hi
 refine⟨⟨⟨by show (fN up a fun _=>fJ up (fJ up a)).length=n;rw[gC];exact z,b.ll,b.sl,b.bl,?_,?_,?_,?_,?_,b.low,b.qJ,b.KK⟩,q,by rw[g _ hp,g _ k];exact x,?_⟩,by rw[f,if_pos rfl],o_⟩
 . intro i hi
   show fJ (fN up a fun _=>fJ up (fJ up a)) i<n
   rw[f]
   split
   . exact q
   . exact o i hi
 . intro i hi
   show fJ s.lb (fJ (fN up a fun _=>fJ up (fJ up a)) i)=fJ s.lb i
   rw[f]
   split
   . rename_i e;subst e;rw[g _ hp,g _ k]
   . exact g i hi
 . intro i hi
   show fJ (fN up a fun _=>fJ up (fJ up a)) i≠i->d (fJ (fN up a fun _=>fJ up (fJ up a)) i)<d i
   rw[f]
   split
   . rename_i e;subst e;intro _;omega
   . exact l i hi
 . intro i j hi w c t u
   exact b.tI i j hi w (m i c) (m j t) u
 . intro i hi c
   exact b.gH i hi (m i c)
 . intro i hi c
   rw[f]
   split
   . rename_i e;subst e;exact absurd (r _ hi c) p
   . exact r i hi c
theorem pR.Py{d:Nat->Nat}{n a0 a:Nat}{s:Ds}{up:List Nat}(h:pR d n s a0 up a)(b:fJ up a≠a) :
 pR d n s a0 (fN up a fun _=>fJ up (fJ up a)) (fJ (fN up a fun _=>fJ up (fJ up a)) a)/\d (fJ (fN up a fun _=>fJ up (fJ up a)) a)<d a:=by
 rw[h.half b |>.2.1]
 exact⟨(h.half b).1,(h.half b).2.2⟩
theorem Ds.join{d:Nat->Nat}{n x y:Nat}{s:Ds}{sz:List Int}{m:Nat}{c:Int}(h:s.vY d n)(b:x<n)(f:y<n)(t:fJ s.up x=x)(u:fJ s.up y=y)(G:x≠y)(hs:sz.length=n)(hk:∀ z∈sz,gR .i64 z)
 (hm:m=min (fJ s.le x) (fJ s.le y)) (C:gR .i64 c):Ds.ok n ⟨s.uv,s.lv,s.sv,fN s.up y fun _=>x,fN s.le x fun _=>m,sz,c,jG s.lb (fJ s.lb x) (fJ s.lb y)⟩:=by
 have E:fJ s.lb x≠fJ s.lb y:=fun e=>G (h.tI x y b f t u e)
 have r:∀ i,fJ (fN s.up y fun _=>x) i=if y=i then x else fJ s.up i:=fun i=>iS (by rw[h.ul];exact f)
 have D:∀ i,fJ (fN s.le x fun _=>m) i=if x=i then m else fJ s.le i:=fun i=>iS (by rw[h.ll];exact b)
 have hb:∀ i,i<n->fJ (jG s.lb (fJ s.lb x) (fJ s.lb y)) i=if fJ s.lb i=max (fJ s.lb x) (fJ s.lb y)then min (fJ s.lb x) (fJ s.lb y)else fJ s.lb i:=fun i hi=>AL (by rw[h.bl];exact hi)
 refine⟨⟨fun i=>d i+if fJ s.lb i=fJ s.lb y then d x+1 else 0,by show (fN s.up y fun _=>x).length=n;rw[gC];exact h.ul,by show (fN s.le x fun _=>m).length=n;rw[gC];exact h.ll,hs,by show (jG s.lb (fJ s.lb x) (fJ s.lb y)).length=n;rw[JE];exact h.bl,?_,?_,?_,?_,?_,?_,?_,hk⟩,C⟩
 . intro i hi
   show fJ (fN s.up y fun _=>x) i<n
   rw[r]
   split
   . exact b
   . exact h.ub i hi
 . intro i hi
   show fJ (jG s.lb (fJ s.lb x) (fJ s.lb y)) (fJ (fN s.up y fun _=>x) i)=fJ (jG s.lb (fJ s.lb x) (fJ s.lb y)) i
   rw[r,hb i hi]
   by_cases e:y=i
   . subst e
     rw[if_pos rfl,hb x b]
     split<;>split<;>omega
   . rw[if_neg e,hb _ (h.ub i hi),h.vS i hi]
 . intro i hi
   show fJ (fN s.up y fun _=>x) i≠i->d (fJ (fN s.up y fun _=>x) i)+_<d i+_
   rw[r]
   by_cases e:y=i
   . subst e
     rw[if_pos rfl,if_pos rfl,if_neg E]
     omega
   . rw[if_neg e,h.vS i hi]
     intro p
     have:=h.dec i hi p
     omega
 . intro i j hi v p A B
   have a : fJ (fN s.up y fun _=>x) i=i:=p
   have l : fJ (fN s.up y fun _=>x) j=j:=A
   have g : fJ (jG s.lb (fJ s.lb x) (fJ s.lb y)) i=fJ (jG s.lb (fJ s.lb x) (fJ s.lb y)) j:=B
   rw[r]at a l
   rw[hb i hi,hb j v]at g
   have o:y≠i:=fun e=>by rw[if_pos e]at a; omega
   have w:y≠j:=fun e=>by rw[if_pos e]at l; omega
   rw[if_neg o]at a
   rw[if_neg w]at l
   have J:=h.tI i y hi f a u
   have L:=h.tI j y v f l u
   have K:=h.tI i j hi v a l
   have M:=h.tI i x hi b a t
   have N:=h.tI j x v b l t
   by_cases e1:fJ s.lb i=fJ s.lb y
   . exact absurd (J e1).symm o
   by_cases k:fJ s.lb j=fJ s.lb y
   . exact absurd (L k).symm w
   by_cases e3:fJ s.lb i=fJ s.lb x
   . by_cases e4:fJ s.lb j=fJ s.lb x
     . rw[M e3,N e4]
     . exfalso
       split at g <;> split at g <;> omega
   . by_cases e4:fJ s.lb j=fJ s.lb x
     . exfalso
       split at g <;> split at g <;> omega
     . refine K ?_
       split at g <;> split at g <;> omega
 . intro i hi p
   show fJ (fN s.le x fun _=>m) i=fJ (jG s.lb (fJ s.lb x) (fJ s.lb y)) i
   have a : fJ (fN s.up y fun _=>x) i=i:=p
   rw[r]at a
   rw[D,hb i hi,hm,h.gH x b t,h.gH y f u]
   have o:y≠i:=fun e=>by rw[if_pos e]at a; omega
   rw[if_neg o]at a
   by_cases e:x=i
   . subst e
     rw[if_pos rfl]
     split<;>omega
   . rw[if_neg e,h.gH i hi a, if_neg]
     intro k
     have a1:=h.tI i x hi b a t
     have a2:=h.tI i y hi f a u
     rcases sM (fJ s.lb x) (fJ s.lb y)with q|q
     . rw[yZ q]at k;exact o (a2 k).symm
     . rw[zC q]at k;exact e (a1 k).symm
 . intro i hi
   show fJ (jG s.lb (fJ s.lb x) (fJ s.lb y)) i<=i
   rw[hb i hi]
   have:=h.low i hi
   split<;>omega
 . intro i hi
   show fJ (jG s.lb (fJ s.lb x) (fJ s.lb y)) (fJ (jG s.lb (fJ s.lb x) (fJ s.lb y)) i)=fJ (jG s.lb (fJ s.lb x) (fJ s.lb y)) i
   have bi:=h.low i hi
   have bx:=h.low x b
   have O:=h.low y f
   have ix:=h.qJ x b
   have I:=h.qJ y f
   have H:=h.qJ i hi
   rw[hb i hi]
   split
   . have F:min (fJ s.lb x) (fJ s.lb y)<n:=by omega
     rw[hb _ F]
     have:fJ s.lb (min (fJ s.lb x) (fJ s.lb y))=min (fJ s.lb x) (fJ s.lb y):=by
      rcases sM (fJ s.lb x) (fJ s.lb y)with q|q
      . rw[qW q];exact ix
      . rw[zA q];exact I
     rw[this]
     split<;>rfl
   . rename_i e
     rw[hb _ o_,H,if_neg e]
theorem pR.two{d:Nat->Nat}{n a b x y:Nat}{s:Ds}{h f:List Nat}(h1:pR d n s a h x)(r1:fJ h x=x)(c:pR d n (s.wu h) b f y)(r2:fJ f y=y) :
 (s.wu f).vY d n/\fJ f x=x/\fJ f y=y/\x<n/\y<n/\fJ s.lb x=fJ s.lb a/\fJ s.lb y=fJ s.lb b/\(x=y↔fJ s.lb a=fJ s.lb b):=by
 have i:=c.ro x h1.an r1
 refine⟨c.ok,i,r2,h1.an,c.an,h1.la,c.la,fun e=>?_,fun e=>?_⟩
 . have e1:=h1.la
   have g:fJ s.lb y=fJ s.lb b:=c.la
   rw[<-e1,<-g,e]
 . have e1:=h1.la
   have g:fJ s.lb y=fJ s.lb b:=c.la
   exact c.ok.tI x y h1.an c.an i r2 (e1.trans (e.trans g.symm))
theorem QO{lb:List Nat}{x y:Nat}:jG lb x y=jG lb y x:=by unfold jG;rw[Nat.max_comm,Nat.min_comm]
theorem QT{lb:List Nat}{x y a b:Nat}(h1:x=a)(c:y=b):jG lb x y=jG lb a b:=by rw[h1,c]
theorem To{k:IntKind}{zs:List Int}{i:Nat}{f:Int->Int}(h:∀ z∈zs,gR k z)(b:gR k (f (fJ zs i))):∀ z∈fN zs i f,gR k z:=fun z c=>by
 rcases List.mem_or_eq_of_mem_set c with a|a
 . exact h z a
 . exact a▸b
theorem Fg{a b:Nat}:(if (b:Int)<(a:Int)then(b:Int)else(a:Int))=((min a b:Nat):Int):=by split<;>omega
theorem aa4{a b:Nat}:(if (a:Int)<(b:Int)then(b:Int)else(a:Int))=((max a b:Nat):Int):=by split<;>omega
theorem F7(x:Int):gR .i64 (IntKind.i64.wrap x):=by
 rw[IntKind.wrap_i64]
 show (-9223372036854775808:Int)<=_/\_<=(9223372036854775807:Int)
 omega
theorem adv(v:Value){e:TypeId}{n:Nat}:fL fV v e 1 (List.replicate n 0)=fL fS v e 1 (List.replicate n 0):=by
 unfold fL
 have h:(List.replicate n (0:Nat)).flatMap fV=(List.replicate n (0:Int)).flatMap fS:=by
  induction n with
  | zero=>rfl
  | succ n a=>rw[List.replicate_succ,List.replicate_succ,zx,zx,a];rfl
 rw[h,tO,tO]
end Go.Sx
namespace Go.Sx
open Go
def iV(es:List Ge):List Nat:=es.flatMap fun e=>[e.u,e.v]
theorem xo(es:List Ge):(iV es).length=2*es.length:=by
 induction es with
 | nil=>rfl
 | cons e es a=>simp only[iV,zx,zq,zd,zh]at *;omega
theorem Aj{es:List Ge}{i:Nat}(h:i<es.length):(iV es)[2*i]? = some (fJ es i).u/\(iV es)[2*i+1]? = some (fJ es i).v:=by
 induction es generalizing i with
 | nil=>simp at h
 | cons e es a =>
  cases i with
  | zero=>exact⟨rfl,rfl⟩
  | succ i =>
   have:=a (i:=i) (by simpa using h)
   have e1:fJ (e :: es) (i+1)=fJ es i:=by simp[fJ]
   rw[e1]
   simpa[iV,show 2*(i+1)=2*i+1+1 by omega,show 2*(i+1)+1=2*i+1+1+1 by omega]using this
theorem V2{es:List Ge}{i:Nat}(h:i<es.length):iV (es.take (i+1))=iV (es.take i)++[(fJ es i).u,(fJ es i).v]:=by
 have a:es.take (i+1)=es.take i++[fJ es i]:=by rw[pQ,gB h];rfl
 rw[a]
 simp[iV]
def nY(E:List Nat)(v:Nat):Nat:=E.count v
def sw(E:List Nat)(v:Nat):Nat:=E.countP fun x=>decide (x<v)
theorem Qx(E:List Nat)(v:Nat):sw E (v+1)=sw E v+nY E v:=by
 unfold sw nY
 induction E with
 | nil=>rfl
 | cons x E a =>
  rw[wK,wK,wL,a]
  by_cases h1:x<v
  . rw[if_pos (by simp;omega),if_pos (by simpa using h1),if_neg (by simp;omega)];omega
  . by_cases h2:x=v
    . subst h2
      rw[if_pos s_,if_neg s_,if_pos s_];omega
    . rw[if_neg (by simp;omega),if_neg (by simpa using h1),if_neg (by simpa using h2)];omega
theorem aaR(E:List Nat):sw E 0=0:=by unfold sw;rw[BC];simp
theorem Qw(E:List Nat)(v:Nat):sw E v<=E.length:=LG
theorem NT(E:List Nat)(v:Nat):nY E v<=E.length:=List.count_le_length
theorem Vu{E:List Nat}{k v:Nat}(h:E[k]? = some v):nY (E.take k) v<nY E v:=by
 have a:k<E.length:=(ze.1 h).1
 have b:E=E.take k++v :: E.drop (k+1):=by
  conv=>lhs;rw[<-uW k E]
  rw[yS a,(ze.1 h).2]
 unfold nY
 conv=>rhs;rw[b]
 rw[GD,List.count_cons_self]
 omega
theorem Vt{E:List Nat}{k v:Nat}(h:E[k]? = some v)(x:Nat):nY (E.take (k+1)) x=nY (E.take k) x+if v=x then 1 else 0:=by
 unfold nY
 rw[pQ,h,GD]
 simp[wL]
def nJ(n:Nat)(E:List Nat):List Nat:=0 :: (List.range n).map (nY E)
theorem wo{n:Nat}{E:List Nat}:(nJ n E).length=n+1:=by simp[nJ]
theorem Be{n v:Nat}{E:List Nat}(h:v<n):fJ (nJ n E) (v+1)=nY E v:=jf (by simp[nJ,qX h])
theorem AN{α:Type}[Inhabited α]{xs ys:List α}(h:xs.length=ys.length)(a:∀ i,i<xs.length->fJ xs i=fJ ys i):xs=ys:=by
 apply nS
 intro i
 by_cases hi:i<xs.length
 . rw[gB hi,gB o_,a i hi]
 . rw[zw o_,zw o_]
theorem adU{n:Nat}:List.replicate (n+1) 0=nJ n []:=by
 refine AN (by simp[nJ]) fun i hi=>?_
 rw[tO]at hi
 rw[AO hi]
 cases i with
 | zero=>rfl
 | succ i=>rw[Be o_];rfl
theorem Sn{n v:Nat}{E:List Nat}(h:v<n):fN (nJ n E) (v+1) (fun _=>fJ (nJ n E) (v+1)+1)=nJ n (E++[v]):=by
 refine AN (by rw[gC,wo,wo]) fun i hi=>?_
 rw[gC,wo]at hi
 rw[iS (by rw[wo];omega)]
 cases i with
 | zero=>rw[if_neg o_];rfl
 | succ i =>
  rw[Be (show i<n by omega),Be (show i<n by omega),Be h]
  unfold nY
  rw[GD]
  by_cases e:v=i
  . subst e;simp
  . rw[if_neg o_];simp[e]
def mD(n:Nat)(E:List Nat)(k:Nat):List Nat:=(List.range (n+1)).map fun j=>if j<=k then sw E j else nY E (j-1)
theorem yA{n k:Nat}{E:List Nat}:(mD n E k).length=n+1:=by simp[mD]
theorem yB{n k j:Nat}{E:List Nat}(h:j<=n):fJ (mD n E k) j=if j<=k then sw E j else nY E (j-1):=jf (by rw[mD,lK,qX o_];rfl)
theorem adW{n:Nat}{E:List Nat}:nJ n E=mD n E 0:=by
 refine AN (by rw[wo,yA]) fun i hi=>?_
 rw[wo]at hi
 rw[yB o_]
 cases i with
 | zero=>rw[if_pos o_,aaR];rfl
 | succ i=>rw[if_neg o_,Be o_];rfl
theorem adV{n k:Nat}{E:List Nat}(h:k<n):fN (mD n E k) (k+1) (fun _=>fJ (mD n E k) (k+1)+fJ (mD n E k) k)=mD n E (k+1):=by
 refine AN (by rw[gC,yA,yA]) fun i hi=>?_
 rw[gC,yA]at hi
 rw[iS (by rw[yA];omega),yB (show i<=n by omega),yB (show i<=n by omega),yB (show k+1<=n by omega),yB (show k<=n by omega)]
 by_cases e:k+1=i
 . subst e
   rw[if_pos rfl,if_neg o_,if_pos (zj _),if_pos (zj _),Qx,show k+1-1=k by omega];omega
 . rw[if_neg e]
   by_cases h1:i<=k
   . rw[if_pos h1,if_pos o_]
   . rw[if_neg h1,if_neg o_]
def Bg(n:Nat)(es:List Ge):List Nat:=mD n (iV es) n
theorem aen{n j:Nat}{es:List Ge}(h:j<=n):fJ (Bg n es) j=sw (iV es) j:=by rw[Bg,yB h,if_pos h]
theorem SB{n:Nat}{es:List Ge}:(Bg n es).length=n+1:=yA
def og(n:Nat)(E:List Nat)(k:Nat):List Nat:=(List.range (n+1)).map fun v=>sw E v+nY (E.take k) v
theorem xM{n k:Nat}{E:List Nat}:(og n E k).length=n+1:=by simp[og]
theorem CL{n k v:Nat}{E:List Nat}(h:v<=n):fJ (og n E k) v=sw E v+nY (E.take k) v:=jf (by rw[og,lK,qX o_];rfl)
theorem abJ{n:Nat}{es:List Ge}:Bg n es=og n (iV es) 0:=by
 refine AN (by rw[SB,xM]) fun i hi=>?_
 rw[SB]at hi
 rw[aen o_,CL o_]
 simp[nY]
theorem Q4{n k v:Nat}{E:List Nat}(hv:v<n)(h:E[k]? = some v):fN (og n E k) v (fun _=>fJ (og n E k) v+1)=og n E (k+1):=by
 refine AN (by rw[gC,xM,xM]) fun i hi=>?_
 rw[gC,xM]at hi
 rw[iS (by rw[xM];omega),CL (show i<=n by omega),CL (show i<=n by omega),CL (show v<=n by omega),Vt h]
 by_cases e:v=i
 . subst e;rw[if_pos rfl,if_pos rfl];omega
 . rw[if_neg e,if_neg e];rfl
theorem Q3{n k v:Nat}{E:List Nat}(hv:v<n)(h:E[k]? = some v):fJ (og n E k) v<E.length:=by
 rw[CL o_]
 have a:=Vu h
 have b:=Qx E v
 have c:=Qw E (v+1)
 omega
def qL(n:Nat)(E:List Nat):Nat->List Nat
 | 0=>List.replicate E.length 0
 | k+1=>fN (qL n E k) (fJ (og n E k) (fJ E k)) fun _=>k / 2
theorem Jo{n:Nat}{E:List Nat}:∀ k,(qL n E k).length=E.length
 | 0=>by simp[qL]
 | k+1=>by rw[qL,gC];exact Jo k
def lsF(n:Nat)(es:List Ge):List Nat:=qL n (iV es) (2*es.length)
def pS(n:Nat)(es:List Ge):Prop:=∀ e∈es,e.u<n/\e.v<n/\e.u≠e.v
theorem pS.at{n:Nat}{es:List Ge}(h:pS n es){i:Nat}(hi:i<es.length):(fJ es i).u<n/\(fJ es i).v<n/\(fJ es i).u≠(fJ es i).v:=h _ (zg (gB hi))
theorem aaS{n i:Nat}{es:List Ge}(h:i<es.length):qL n (iV es) (2*i+1)=fN (qL n (iV es) (2*i)) (fJ (og n (iV es) (2*i)) (fJ es i).u) fun _=>i:=by
 rw[qL,jf (Aj h).1,show 2*i / 2=i by omega]
theorem aaT{n i:Nat}{es:List Ge}(h:i<es.length):qL n (iV es) (2*(i+1))=fN (qL n (iV es) (2*i+1)) (fJ (og n (iV es) (2*i+1)) (fJ es i).v) fun _=>i:=by
 rw[show 2*(i+1)=2*i+1+1 by omega,qL,jf (Aj h).2,show (2*i+1) / 2=i by omega]
structure Gr where
 ev:Value
 sv:Value
 lv:Value
theorem Sp{n j:Nat}{E:List Nat}(h:j<=n):fJ (nJ n E) j<=E.length:=by
 cases j with
 | zero=>exact mU _
 | succ j=>rw[Be o_];exact NT _ _
theorem Sq{n k j:Nat}{E:List Nat}(h:j<=n):fJ (mD n E k) j<=E.length:=by
 rw[yB h]
 split
 . exact Qw _ _
 . exact NT _ _
theorem St.reR{bs:List (World×List Nat)}{L:List fT}{R R' : fT}{w:World}(j:Nat)(h:St bs L w)(hi:L[j]? = some R)(e:R=R'):St bs (L.set j R') w:=by
 subst e
 rwa [show L.set j R=L from by
  apply nS
  intro i
  rw[rS]
  split
  . rename_i e
    subst e
    split
    . exact hi.symm
    . rename_i a
      rw[zw o_]at hi
      cases hi
  . rfl]
end Go.Sx
namespace Go.Sx
open Go
def sj(es:List Ge)(i j:Nat):Prop:=(fJ es i).w<(fJ es j).w\/((fJ es i).w=(fJ es j).w/\i<j)
instance (es:List Ge) (i j:Nat):Decidable (sj es i j):=by unfold sj;infer_instance
theorem aao{es:List Ge}(i:Nat):¬ sj es i i:=by unfold sj;omega
theorem aan{es:List Ge}{i j:Nat}(h:sj es i j):¬ sj es j i:=by unfold sj at *;omega
structure r6 (es:List Ge) (o:List Nat):Prop where
 perm:o.Perm (List.range es.length)
 KG:o.Pairwise (sj es)
theorem r6.uniq{es:List Ge}{o o' : List Nat}(h:r6 es o)(c : r6 es o'):o=o' :=
 D9 (r:=sj es) aao (fun a b h=>aan h) h.KG c.KG fun x=>(h.perm.mem_iff).trans (c.perm.mem_iff).symm
theorem r6.len{es:List Ge}{o:List Nat}(h:r6 es o):o.length=es.length:=by rw[h.perm.length_eq,qq]
theorem r6.lt{es:List Ge}{o:List Nat}(h:r6 es o){i:Nat}(hi:i∈o):i<es.length:=zz.1 (h.perm.mem_iff.1 hi)
def ir(es:List Ge)(n:Nat)(f:List Nat):List Nat:=f.foldl (fun lb i=>jG lb (fJ lb (fJ es i).u) (fJ lb (fJ es i).v)) (List.range n)
theorem Ji{es:List Ge}{n:Nat}{f:List Nat}{i:Nat}:ir es n (f++[i])=jG (ir es n f) (fJ (ir es n f) (fJ es i).u) (fJ (ir es n f) (fJ es i).v):=by
 unfold ir
 rw[List.foldl_append]
 rfl
theorem EZ{es:List Ge}{n:Nat}(f:List Nat):(ir es n f).length=n:=by
 unfold ir
 rw[<-List.foldr_reverse]
 induction f.reverse with
 | nil=>exact qq
 | cons i f a=>rw[List.foldr_cons,JE];exact a
def mo(es:List Ge)(n:Nat)(f:List Nat)(i:Nat):Prop:=fJ (ir es n f) (fJ es i).u≠fJ (ir es n f) (fJ es i).v
instance (es:List Ge) (n:Nat) (f:List Nat) (i:Nat):Decidable (mo es n f i):=by unfold mo;infer_instance
def jI(es:List Ge)(n:Nat)(o:List Nat):List Nat:=o.foldl (fun f i=>if mo es n f i then f++[i]else f) []
theorem IE{es:List Ge}{n:Nat}{o:List Nat}{i:Nat}:jI es n (o++[i])=if mo es n (jI es n o) i then jI es n o++[i]else jI es n o:=by
 unfold jI
 rw[List.foldl_append]
 rfl
theorem EM{es:List Ge}{n k:Nat}{o:List Nat}(h:k<o.length):jI es n (o.take (k+1))=if mo es n (jI es n (o.take k)) (fJ o k)then jI es n (o.take k)++[fJ o k]else jI es n (o.take k):=by
 rw[<-IE,pQ,gB h]
 rfl
theorem EL{es:List Ge}{n:Nat}(o:List Nat):(jI es n o).Sublist o:=by
 have h:∀ r:List Nat,(jI es n r.reverse).Sublist r.reverse:=by
  intro r
  induction r with
  | nil=>exact List.Sublist.refl _
  | cons i r a =>
   rw[List.reverse_cons,IE]
   split
   . exact a.append (List.Sublist.refl _)
   . exact a.trans (List.sublist_append_left _ _)
 simpa using h o.reverse
theorem Ql{es:List Ge}{n:Nat}{f:List Nat}{i:Nat}:ir es n (if mo es n f i then f++[i]else f)=jG (ir es n f) (fJ (ir es n f) (fJ es i).u) (fJ (ir es n f) (fJ es i).v):=by
 split
 . exact Ji
 . rename_i h
   have e:fJ (ir es n f) (fJ es i).u=fJ (ir es n f) (fJ es i).v:=Decidable.not_not.1 h
   rw[e,QU]
structure nT (es:List Ge) (n:Nat) (f:List Nat):Prop where
 of:∃ o,r6 es o/\f=jI es n o
theorem nT.uniq{es:List Ge}{n:Nat}{f a : List Nat}(h:nT es n f)(b : nT es n a):f=a := by
 obtain⟨o,c,rfl⟩:=h
 obtain⟨e, d,rfl⟩:=b
 rw[c.uniq d]
theorem nT.lt{es:List Ge}{n:Nat}{f:List Nat}(h:nT es n f){i:Nat}(hi:i∈f):i<es.length:=by
 obtain⟨o,a,rfl⟩:=h
 exact a.lt ((EL o).subset hi)
def rI(m k:Nat):List Nat:=List.range k++List.replicate (m-k) 0
theorem adf{m:Nat}:List.replicate m 0=rI m 0:=by simp[rI]
theorem ada{m:Nat}:rI m m=List.range m:=by simp[rI]
theorem adb{m k:Nat}(h:k<=m):(rI m k).length=m:=by simp[rI];omega
theorem ade{m k:Nat}(h:k<m):fN (rI m k) k (fun _=>k)=rI m (k+1):=by
 have:=Bl (a:=List.range k) (b:=List.replicate (m-(k+1)) 0) (x:=0) (y:=k) (f:=fun _=>k) rfl
 rw[qq]at this
 rw[rI,A7 h,this,rI,sL]
 simp
end Go.Sx
namespace Go.Sx
open Go
section
variable {r:Option Nat} {P:Program} {ops:Array Oper} {Q:Exit->Act->World->Prop} {n:Nat} {ds:List Deferred} {s:List (Nat×Value)} {rest:List Oper} {w w0:World} {d:Nat} {dd:Option Nat} {T e:TypeId} {ty:TypeId} {pos:String} {af:Array Edge} {g:Option (Nat×Bool)} {x y:Operand} {α:Type} {cf:α->List Value} {ok:Nat->Prop} {ys:List α} {c:α} {sz k off off' se by_ m i:Nat} {z v:Value} {kk:IntKind}
theorem ZT(l:ev n s x=jP sz v k off)(p:ev n s y = .int kk (i:Nat))(d:P.underlying T=some (.array m e))(j:TI P e se by_ z)(r:i<m)(h:off+i*se=off')(a:gU sz cf ok w0 v ys)(f:ys[k]? = some c) :
 (execOp (ev n s) ⟨dd,.indexAddr T x y,ty,pos,af,g⟩).run P w = .ok (.value (jP sz v k off')) w:=by
 obtain⟨b,o,t, q,rfl,_⟩:=a.place f
 subst h
 exact P0 l p d j ⟨o_,o_⟩ (by simp only[mc,kQ])
theorem uz(j:gA ops n s g=true)(p:ev n s x=jP sz v k off)(q:ev n s y = .int kk (i:Nat))(f:P.underlying T=some (.array m e))(o:TI P e se by_ z)(a:i<m)(l:off+i*se=off')(b:gU sz cf ok w0 v ys)(h:ys[k]? = some c)
 (K:WL r P ops Q rest (Fr n ((d,jP sz v k off') :: s) ds) w):WL r P ops Q (⟨some d,.indexAddr T x y,ty,pos,af,g⟩ :: rest) (Fr n s ds) w:=pw j (fun _=>ZT p q f o a l b h) K
end
structure iU where
 a:Nat
 b:Nat
instance:Inhabited iU:=⟨⟨0,0⟩⟩
abbrev iU.cells(x:iU):List Value:=[.int .i64 (x.a:Int),.int .i64 (x.b:Int)]
structure Un (n:Nat) (lb:List Nat) (us:List iU):Prop where
 len:us.length=n
 bl:lb.length=n
 le:∀ i,i<n->(fJ us i).a<=i
 vS:∀ i,i<n->fJ lb (fJ us i).a=fJ lb i
 root:∀ i,i<n->(fJ us i).a=i->fJ lb i=i
 low:∀ i,i<n->fJ lb i<=i
 qJ:∀ i,i<n->fJ lb (fJ lb i)=fJ lb i
structure tZ (n:Nat) (lb:List Nat) (us0:List iU) (a0:Nat) (us:List iU) (i:Nat):Prop where
 un:Un n lb us
 nd:∀ j,(fJ us j).b=(fJ us0 j).b
 lt:i<n
 la:fJ lb i=fJ lb a0
theorem tZ.start{n a:Nat}{lb:List Nat}{b:List iU}(h:Un n lb b)(c:a<n):tZ n lb b a b a:=⟨h,fun _=>rfl,c,rfl⟩
theorem tZ.half{n a0 i:Nat}{lb:List Nat}{m b us2:List iU}(h:tZ n lb m a0 b i)(s:(fJ b i).a≠i)(l:us2=fN b i fun x=>{ x with a:=(fJ b (fJ b i).a).a }) :
 tZ n lb m a0 us2 (fJ us2 i).a/\(fJ us2 i).a<i:=by
 have hi:=h.lt
 have o:=h.un.len
 have p:=h.un.le i hi
 have hp:(fJ b i).a<n:=by omega
 have q:=h.un.le _ hp
 have g:=h.un.vS i hi
 have k:=h.un.vS _ hp
 have d:∀ j,fJ us2 j=if i=j then { fJ b i with a:=(fJ b (fJ b i).a).a } else fJ b j:=fun j=>by rw[l];exact iS o_
 have e1:(fJ us2 i).a=(fJ b (fJ b i).a).a:=by rw[d,if_pos rfl]
 rw[e1]
 refine⟨⟨⟨by rw[l,gC];exact o,h.un.bl,fun j c=>?_,fun j c=>?_,fun j c f=>?_,h.un.low,h.un.qJ⟩,fun j=>?_,o_,by rw[k,g];exact h.la⟩,o_⟩
 . rw[d]
   split
   . rename_i e;subst e;show (fJ b (fJ b i).a).a<=i;omega
   . exact h.un.le j c
 . rw[d]
   split
   . rename_i e;subst e;show fJ lb (fJ b (fJ b i).a).a=_;rw[k,g]
   . exact h.un.vS j c
 . rw[d]at f
   split at f
   . rename_i e
     subst e
     have r:(fJ b (fJ b i).a).a=i:=f
     omega
   . exact h.un.root j c f
 . rw[d]
   split
   . rename_i e;subst e;exact h.nd i
   . exact h.nd j
theorem tZ.fin{n a0 i:Nat}{lb:List Nat}{d b:List iU}(h:tZ n lb d a0 b i)(c:(fJ b i).a=i):i=fJ lb a0:=by rw[<-h.la,h.un.root i h.lt c]
end Go.Sx
namespace Go.Sx
open Go
theorem Un.join{n x y a b c:Nat}{lb:List Nat}{f us2:List iU}(h:Un n lb f)(B:x<n)(C:y<n)(ex:fJ lb x=x)(u:fJ lb y=y)(A:x≠y)(s:a=min x y)(hb:b=max x y)
 (o:us2=fN (fN f b fun z=>{ z with a:=a }) a fun z=>{ z with b:=c }):Un n (jG lb x y) us2/\∀ j,(fJ us2 j).b=if j=a then c else(fJ f j).b:=by
 have t:=h.len
 have v:a<b:=by omega
 have w:b<n:=by omega
 have p:∀ j,fJ us2 j=if a=j then { fJ f a with b:=c } else if b=j then { fJ f b with a:=a } else fJ f j:=by
  intro j
  rw[o,iS (by rw[gC];omega),iS o_,iS o_]
  by_cases e1:a=j
  . rw[if_pos e1,if_pos e1,if_neg o_]
  . rw[if_neg e1,if_neg e1]
 have l:∀ j,(fJ us2 j).a=if b=j then a else(fJ f j).a:=by
  intro j
  rw[p]
  by_cases e1:a=j
  . subst e1;rw[if_pos rfl,if_neg o_]
  . rw[if_neg e1]
    split<;>rfl
 have hm:∀ j,j<n->fJ (jG lb x y) j=if fJ lb j=b then a else fJ lb j:=fun j d=>by rw[AL (by rw[h.bl];exact d),<-s,<-hb]
 have q:fJ lb b=b:=by rcases(show b=x\/b=y by omega)with e|e<;>rw[e]<;>assumption
 have m:fJ lb a=a:=by rcases(show a=x\/a=y by omega)with e|e<;>rw[e]<;>assumption
 refine⟨⟨by rw[o,gC,gC];exact t,by rw[JE];exact h.bl,fun j d=>?_,fun j d=>?_,fun j d k=>?_,fun j d=>?_,fun j d=>?_⟩,fun j=>?_⟩
 . rw[l]
   split
   . omega
   . exact h.le j d
 . rw[l,hm j d]
   split
   . rename_i e
     subst e
     rw[hm a o_,m,if_neg o_,q,if_pos rfl]
   . have g:=h.le j d
     rw[hm _ o_,h.vS j d]
 . rw[l]at k
   split at k
   . omega
   . rename_i e
     rw[hm j d]
     have g:=h.root j d k
     rw[g,if_neg (fun i=>e i.symm)]
 . rw[hm j d]
   have g:=h.low j d
   split<;>omega
 . have g:=h.low j d
   have r:=h.qJ j d
   rw[hm j d]
   split
   . rw[hm a o_,m,if_neg o_]
   . rename_i e
     rw[hm _ o_,r,if_neg e]
 . rw[p]
   by_cases e1:a=j
   . rw[if_pos e1,if_pos (show j=a from e1.symm)]
   . rw[if_neg e1,if_neg (show ¬ j=a from fun e=>e1 e.symm)]
     split
     . rename_i i;subst i;rfl
     . rfl
structure mJ where
 l:List Int
 r:List Int
 p:List Int
 h:List Int
 s:List Nat
 d:List Nat
def mJ.init(n m:Nat):mJ:=⟨List.replicate m (-1),List.replicate m (-1),List.replicate m (-1),List.replicate m 0,List.replicate n 1++List.replicate (m-n) 0,List.range n⟩
def mJ.step(lb:List Nat)(e:Ge)(x:Nat)(t:mJ):mJ :=
 ⟨fN t.l x (fun _=>((fJ t.d (min (fJ lb e.u) (fJ lb e.v)):Nat):Int)),fN t.r x (fun _=>((fJ t.d (max (fJ lb e.u) (fJ lb e.v)):Nat):Int)),
  fN (fN t.p (fJ t.d (min (fJ lb e.u) (fJ lb e.v))) (fun _=>(x:Int))) (fJ t.d (max (fJ lb e.u) (fJ lb e.v))) (fun _=>(x:Int)),fN t.h x (fun _=>e.w),
  fN t.s x (fun _=>fJ t.s (fJ t.d (min (fJ lb e.u) (fJ lb e.v)))+fJ t.s (fJ t.d (max (fJ lb e.u) (fJ lb e.v)))),fN t.d (min (fJ lb e.u) (fJ lb e.v)) (fun _=>x)⟩
def gL(es:List Ge)(n:Nat)(f:List Nat):Nat->mJ
 | 0=>mJ.init n (n+f.length)
 | i+1=>mJ.step (ir es n (f.take i)) (fJ es (fJ f i)) (n+i) (gL es n f i)
def fU(es:List Ge)(n:Nat)(f:List Nat):mJ:=gL es n f f.length
theorem Vy{l:List Nat}{a b:Nat}(h:a≠b):l.count a+l.count b<=l.length:=by
 induction l with
 | nil=>simp
 | cons x l c =>
  rw[wL,wL,zd]
  by_cases h1:x=a
  . subst h1;rw[if_pos s_,if_neg (by simpa using h)];omega
  . rw[if_neg (by simpa using h1)]
    split<;>omega
theorem abn{lb:List Nat}{x y j:Nat}(h:x≠y):(jG lb x y).count j=if j=max x y then 0 else if j=min x y then lb.count x+lb.count y else lb.count j:=by
 unfold jG
 induction lb with
 | nil=>simp
 | cons z lb a =>
  rw[kf,wL,a,wL,wL,wL]
  simp only[beq_iff_eq]
  by_cases h1:j=max x y
  . rw[if_pos h1,if_pos h1,if_neg]
    split<;>omega
  . rw[if_neg h1,if_neg h1]
    by_cases h2:j=min x y
    . rw[if_pos h2,if_pos h2]
      by_cases h3:z=max x y
      . rw[if_pos h3,if_pos o_]
        rcases sM x y with q|q
        . rw[yZ q]at h3;rw[if_neg o_,if_pos o_];omega
        . rw[zC q]at h3;rw[if_pos o_,if_neg o_];omega
      . rw[if_neg h3]
        by_cases h4:z=j
        . rw[if_pos h4]
          rcases sM x y with q|q
          . rw[qW q]at h2;rw[if_pos o_,if_neg o_];omega
          . rw[zA q]at h2;rw[if_neg o_,if_pos o_];omega
        . rw[if_neg h4,if_neg o_,if_neg o_];omega
    . rw[if_neg h2,if_neg h2]
      by_cases h3:z=max x y
      . rw[if_pos h3,if_neg o_,if_neg o_]
      . rw[if_neg h3]
structure qy (es:List Ge) (n:Nat) (f:List Nat) (i:Nat) (us:List iU):Prop where
 un:Un n (ir es n (f.take i)) us
 dd:∀ j,j<n->(fJ us j).b=fJ (gL es n f i).d j
 nd:∀ j,j<n->fJ (gL es n f i).d j<n+i
 sz:∀ j,j<n->fJ (ir es n (f.take i)) j=j->fJ (gL es n f i).s (fJ (gL es n f i).d j)=(ir es n (f.take i)).count j
theorem Bk{es:List Ge}{n:Nat}{f:List Nat}:∀ i,(gL es n f i).l.length=n+f.length/\(gL es n f i).r.length=n+f.length/\(gL es n f i).p.length=n+f.length/\(gL es n f i).h.length=n+f.length/\(gL es n f i).s.length=n+f.length/\(gL es n f i).d.length=n
 | 0=>by simp[gL,mJ.init]
 | i+1=>by
  have h:=Bk (es:=es) (n:=n) (f:=f) i
  simp only[gL,mJ.step,gC]
  exact h
theorem Vx{n j:Nat}(h:j<n):(List.range n).count j=1:=by
 have a:=List.nodup_iff_count.1 (u5 (n:=n)) j
 have b:=List.count_pos_iff.2 (zz.2 h)
 omega
theorem Un.init{n:Nat}:Un n (List.range n) ((List.range n).map fun i=>⟨i,i⟩):=by
 have h:∀ i,i<n->fJ ((List.range n).map fun i=>(⟨i,i⟩:iU)) i=⟨i,i⟩:=fun i hi=>jf (by rw[lK,qX hi];rfl)
 exact⟨s_,s_,fun i hi=>by rw[h i hi];exact zj _,fun i hi=>by rw[h i hi],fun i hi _=>oe hi,fun i hi=>by rw[oe hi];exact zj _,fun i hi=>by rw[oe hi,oe hi]⟩
theorem qy.start{es:List Ge}{n:Nat}{f:List Nat}:qy es n f 0 ((List.range n).map fun i=>⟨i,i⟩):=by
 have h:∀ i,i<n->fJ ((List.range n).map fun i=>(⟨i,i⟩:iU)) i=⟨i,i⟩:=fun i hi=>jf (by rw[lK,qX hi];rfl)
 refine⟨Un.init,fun j a=>?_,fun j a=>?_,fun j a _=>?_⟩
 . rw[h j a];exact(oe a).symm
 . show fJ (List.range n) j<n+0
   rw[oe a];omega
 . show fJ (List.replicate n 1++List.replicate (n+f.length-n) 0) (fJ (List.range n) j)=(List.range n).count j
   rw[oe a,Vx a]
   exact jf (by rw[sH (by simpa using a),sI,if_pos a])
theorem qy.at{es:List Ge}{n:Nat}{f:List Nat}{i:Nat}{e:List iU}(h:qy es n f i e)(d:pS n es)(hi:i<f.length)(c:∀ k∈f,k<es.length)(b:mo es n (f.take i) (fJ f i)) :
 (fJ es (fJ f i)).u<n/\(fJ es (fJ f i)).v<n/\fJ (ir es n (f.take i)) (fJ es (fJ f i)).u<n/\fJ (ir es n (f.take i)) (fJ es (fJ f i)).v<n/\fJ (ir es n (f.take i)) (fJ es (fJ f i)).u≠fJ (ir es n (f.take i)) (fJ es (fJ f i)).v:=by
 have a:=d.at (c _ (zg (gB hi)))
 have g:=h.un.low _ a.1
 have j:=h.un.low _ a.2.1
 exact⟨a.1,a.2.1,o_,o_,b⟩
theorem qy.next{es:List Ge}{n:Nat}{f:List Nat}{i:Nat}{S us2 B:List iU}(h:qy es n f i S)(M:pS n es)(hi:i<f.length)(L:∀ k∈f,k<es.length)(J:mo es n (f.take i) (fJ f i))
 (I:Un n (ir es n (f.take i)) us2) (hb:∀ j,j<n->(fJ us2 j).b=fJ (gL es n f i).d j)
 (K:B=fN (fN us2 (max (fJ (ir es n (f.take i)) (fJ es (fJ f i)).u) (fJ (ir es n (f.take i)) (fJ es (fJ f i)).v)) fun z=>{ z with a:=min (fJ (ir es n (f.take i)) (fJ es (fJ f i)).u) (fJ (ir es n (f.take i)) (fJ es (fJ f i)).v) }) (min (fJ (ir es n (f.take i)) (fJ es (fJ f i)).u) (fJ (ir es n (f.take i)) (fJ es (fJ f i)).v)) fun z=>{ z with b:=n+i }) :
 qy es n f (i+1) B:=by
 obtain⟨E,F,G,H,o⟩:=h.at M hi L J
 have e1:=h.un.qJ _ E
 have C:=h.un.qJ _ F
 have r:ir es n (f.take (i+1))=jG (ir es n (f.take i)) (fJ (ir es n (f.take i)) (fJ es (fJ f i)).u) (fJ (ir es n (f.take i)) (fJ es (fJ f i)).v):=by
  rw[pQ,gB hi]
  exact Ji
 generalize w:fJ (ir es n (f.take i)) (fJ es (fJ f i)).u=x at *
 generalize A:fJ (ir es n (f.take i)) (fJ es (fJ f i)).v=y at *
 obtain⟨Q,R⟩:=Un.join (c:=n+i) I G H e1 C o rfl rfl K
 have p:=Bk (es:=es) (n:=n) (f:=f) i
 have hd:∀ j,fJ (gL es n f (i+1)).d j=if min x y=j then n+i else fJ (gL es n f i).d j:=by
  intro j
  simp only[gL,mJ.step,w,A]
  exact iS (by rw[p.2.2.2.2.2];omega)
 have hs:∀ j,fJ (gL es n f (i+1)).s j=if n+i=j then fJ (gL es n f i).s (fJ (gL es n f i).d (min x y))+fJ (gL es n f i).s (fJ (gL es n f i).d (max x y))else fJ (gL es n f i).s j:=by
  intro j
  simp only[gL,mJ.step,w,A]
  exact iS (by rw[p.2.2.2.2.1];omega)
 have N:fJ (ir es n (f.take i)) (min x y)=min x y:=by rcases sM x y with q|q<;>simp only[qW,zA,q]<;>assumption
 have t:fJ (ir es n (f.take i)) (max x y)=max x y:=by rcases sM x y with q|q<;>simp only[zC,yZ,q]<;>assumption
 refine⟨r▸Q,fun j g=>?_,fun j g=>?_,fun j g l=>?_⟩
 . rw[R,hd]
   by_cases e:j=min x y
   . rw[if_pos e,if_pos e.symm]
   . rw[if_neg e,if_neg (fun q=>e q.symm),hb j g]
 . rw[hd]
   have:=h.nd j g
   split<;>omega
 . rw[r]at l ⊢
   rw[abn o,hd]
   rw[AL (by rw[h.un.bl];exact g)]at l
   by_cases e:min x y=j
   . rw[if_pos e,if_neg o_,if_pos e.symm,hs,if_pos rfl,h.sz _ o_ N,h.sz _ o_ t]
     rcases sM x y with q|q
     . rw[qW q,yZ q]
     . rw[zA q,zC q];omega
   . rw[if_neg e]
     have O:j≠max x y:=by
      intro D
      split at l
      . omega
      . rename_i m;rw[D,t]at m;exact m rfl
     have P:fJ (ir es n (f.take i)) j=j:=by
      split at l
      . rename_i m;omega
      . exact l
     rw[if_neg O,if_neg (fun q=>e q.symm),hs,if_neg (by have:=h.nd j g;omega)]
     exact h.sz j g P
theorem YB{es:List Ge}{n:Nat}(o:List Nat):∀ i,i<(jI es n o).length->mo es n ((jI es n o).take i) (fJ (jI es n o) i):=by
 have h:∀ r:List Nat,∀ i,i<(jI es n r.reverse).length->mo es n ((jI es n r.reverse).take i) (fJ (jI es n r.reverse) i):=by
  intro r
  induction r with
  | nil=>intro i hi;simp[jI]at hi
  | cons k r b =>
   intro i hi
   rw[List.reverse_cons,IE]at hi ⊢
   split at hi
   . rename_i a
     rw[if_pos a]
     rw[zq,LJ]at hi
     by_cases e:i=(jI es n r.reverse).length
     . subst e
       rw[List.take_left' rfl]
       have:fJ (jI es n r.reverse++[k]) (jI es n r.reverse).length=k:=jf s_
       rw[this]
       exact a
     . rw[Gx o_]
       have:fJ (jI es n r.reverse++[k]) i=fJ (jI es n r.reverse) i:=by unfold fJ;rw[sH o_]
       rw[this]
       exact b i o_
   . rename_i a
     rw[if_neg a]
     exact b i hi
 simpa using h o.reverse
theorem nT.mo{es:List Ge}{n:Nat}{f:List Nat}(h:nT es n f){i:Nat}(hi:i<f.length):mo es n (f.take i) (fJ f i):=by
 obtain⟨o,_,rfl⟩:=h
 exact YB o i hi
theorem qy.two{es:List Ge}{n:Nat}{f:List Nat}{i:Nat}{z:List iU}(h:qy es n f i z)(r:pS n es)(hi:i<f.length)(p:∀ k∈f,k<es.length)(o:mo es n (f.take i) (fJ f i)){x y:Nat}(t:fJ (ir es n (f.take i)) (fJ es (fJ f i)).u=x)(w:fJ (ir es n (f.take i)) (fJ es (fJ f i)).v=y) :
 fJ (gL es n f i).d (min x y)<n+i/\fJ (gL es n f i).d (max x y)<n+i/\fJ (gL es n f i).s (fJ (gL es n f i).d (min x y))+fJ (gL es n f i).s (fJ (gL es n f i).d (max x y))<=n:=by
 obtain⟨j,m,a,b,g⟩:=h.at r hi p o
 have e1:=h.un.qJ _ j
 have e:=h.un.qJ _ m
 rw[t]at a g e1
 rw[w]at b g e
 have c:=Vy (l:=ir es n (f.take i)) g
 rw[EZ]at c
 rcases sM x y with q|q
 . rw[qW q,yZ q,h.sz x a e1,h.sz y b e]
   exact⟨h.nd x a,h.nd y b,c⟩
 . rw[zA q,zC q,h.sz x a e1,h.sz y b e]
   exact⟨h.nd y b,h.nd x a,o_⟩
def nt{α:Type}(x y:α)(m k:Nat):List α:=List.replicate k x++List.replicate (m-k) y
theorem FD{α:Type}{x y:α}{m:Nat}:List.replicate m y=nt x y m 0:=by simp[nt]
theorem Km{α:Type}{x y:α}{m:Nat}:nt x y m m=List.replicate m x:=by simp[nt]
theorem Sb{α:Type}{x y:α}{m k:Nat}(h:k<=m):(nt x y m k).length=m:=by simp[nt];omega
theorem FC{α:Type}[Inhabited α]{x y:α}{m k:Nat}(h:k<m):fN (nt x y m k) k (fun _=>x)=nt x y m (k+1):=by
 have:=Bl (a:=List.replicate k x) (b:=List.replicate (m-(k+1)) y) (x:=y) (y:=x) (f:=fun _=>x) rfl
 rw[tO]at this
 rw[nt,A7 h,this,nt,List.replicate_succ']
 simp
def rM(n k:Nat):List iU:=((List.range k).map fun i=>⟨i,i⟩)++List.replicate (n-k) ⟨0,0⟩
theorem agU{n:Nat}:List.replicate n (⟨0,0⟩:iU)=rM n 0:=by simp[rM]
theorem agR{n:Nat}:rM n n=(List.range n).map fun i=>⟨i,i⟩:=by simp[rM]
theorem agS{n k:Nat}(h:k<=n):(rM n k).length=n:=by simp[rM];omega
theorem agT{n k:Nat}(h:k<n):fN (rM n k) k (fun _=>⟨k,k⟩)=rM n (k+1):=by
 have:=Bl (a:=(List.range k).map fun i=>(⟨i,i⟩:iU)) (b:=List.replicate (n-(k+1)) ⟨0,0⟩) (x:=⟨0,0⟩) (y:=⟨k,k⟩) (f:=fun _=>⟨k,k⟩) rfl
 rw[zn,qq]at this
 rw[rM,A7 h,this,rM,sL]
 simp
theorem nT.len{es:List Ge}{n:Nat}{f:List Nat}(h:nT es n f):f.length<=es.length:=by
 obtain⟨o,a,rfl⟩:=h
 have:=(EL (es:=es) (n:=n) o).length_le
 rw[a.len]at this
 exact this
end Go.Sx
namespace Go.Sx
open Go
section
variable (es:List Ge) (n:Nat) (f:List Nat)
def nA(i:Nat):Nat:=min (fJ (ir es n (f.take i)) (fJ es (fJ f i)).u) (fJ (ir es n (f.take i)) (fJ es (fJ f i)).v)
def nB(i:Nat):Nat:=max (fJ (ir es n (f.take i)) (fJ es (fJ f i)).u) (fJ (ir es n (f.take i)) (fJ es (fJ f i)).v)
def nL(i:Nat):Nat:=fJ (gL es n f i).d (nA es n f i)
def nR(i:Nat):Nat:=fJ (gL es n f i).d (nB es n f i)
def gH(y:Nat):Nat:=if y<n then y else nA es n f (y-n)
end
structure iA (es:List Ge) (n:Nat) (f:List Nat):Prop where
 g:pS n es
 f:nT es n f
theorem iA.K8{es:List Ge}{n:Nat}{f:List Nat}(h:iA es n f):∀ i,i<=f.length->∃ b,qy es n f i b
 | 0,_=>⟨_,qy.start⟩
 | i+1,hi=>by
  obtain⟨b,a⟩:=h.K8 i o_
  exact⟨_,a.next h.g o_ (fun k c=>h.f.lt c) (h.f.mo o_) a.un a.dd rfl⟩
theorem iA.st{es:List Ge}{n:Nat}{f:List Nat}(h:iA es n f){i:Nat}(hi:i<f.length) :
 nA es n f i<nB es n f i/\nB es n f i<n/\fJ (ir es n (f.take i)) (nA es n f i)=nA es n f i/\fJ (ir es n (f.take i)) (nB es n f i)=nB es n f i/\nL es n f i<n+i/\nR es n f i<n+i/\ir es n (f.take (i+1))=jG (ir es n (f.take i)) (nA es n f i) (nB es n f i):=by
 obtain⟨p,a⟩:=h.K8 i o_
 have d:=h.f.mo hi
 obtain⟨b1,b2,b3,m,o⟩:=a.at h.g hi (fun k b=>h.f.lt b) d
 obtain⟨e,j,_⟩:=a.two h.g hi (fun k b=>h.f.lt b) d rfl rfl
 have e1:=a.un.qJ _ b1
 have c:=a.un.qJ _ b2
 have l:ir es n (f.take (i+1))=jG (ir es n (f.take i)) (fJ (ir es n (f.take i)) (fJ es (fJ f i)).u) (fJ (ir es n (f.take i)) (fJ es (fJ f i)).v):=by
  rw[pQ,gB hi]
  exact Ji
 unfold nL nR nA nB
 refine⟨o_,o_,?_,?_,e,j,?_⟩
 . rcases sM (fJ (ir es n (f.take i)) (fJ es (fJ f i)).u) (fJ (ir es n (f.take i)) (fJ es (fJ f i)).v)with q|q
   . rw[qW q];exact e1
   . rw[zA q];exact c
 . rcases sM (fJ (ir es n (f.take i)) (fJ es (fJ f i)).u) (fJ (ir es n (f.take i)) (fJ es (fJ f i)).v)with q|q
   . rw[yZ q];exact c
   . rw[zC q];exact e1
 . rw[l]
   rcases sM (fJ (ir es n (f.take i)) (fJ es (fJ f i)).u) (fJ (ir es n (f.take i)) (fJ es (fJ f i)).v)with q|q
   . rw[qW q,yZ q]
   . rw[zA q,zC q];exact QO
structure u9 (es:List Ge) (n:Nat) (f:List Nat) (i:Nat):Prop where
 a:∀ x,x<n->fJ (gL es n f i).l x = -1/\fJ (gL es n f i).r x = -1/\fJ (gL es n f i).h x=0/\fJ (gL es n f i).s x=1
 b:∀ j,j<i->fJ (gL es n f i).l (n+j)=(nL es n f j:Int)/\fJ (gL es n f i).r (n+j)=(nR es n f j:Int)/\fJ (gL es n f i).h (n+j)=(fJ es (fJ f j)).w /\
  fJ (gL es n f i).s (n+j)=fJ (gL es n f i).s (nL es n f j)+fJ (gL es n f i).s (nR es n f j)/\fJ (gL es n f i).p (nL es n f j)=((n+j:Nat):Int)/\fJ (gL es n f i).p (nR es n f j)=((n+j:Nat):Int)
 c:∀ y,y<n+f.length->fJ (gL es n f i).p y = -1\/∃ j,j<i/\fJ (gL es n f i).p y=((n+j:Nat):Int)/\(y=nL es n f j\/y=nR es n f j)
 e:∀ y,y<n+f.length->fJ (gL es n f i).s y<=n
 d:∀ l,l<n->fJ (ir es n (f.take i)) l=l->fJ (gL es n f i).p (fJ (gL es n f i).d l) = -1/\gH es n f (fJ (gL es n f i).d l)=l
theorem u9.start{es:List Ge}{n:Nat}{f:List Nat}:u9 es n f 0:=by
 refine⟨fun x b=>?_,fun j d=>by omega,fun y c=>.inl ?_,fun y c=>?_,fun l a _=>?_⟩
 . show fJ (List.replicate (n+f.length) (-1)) x = -1/\fJ (List.replicate (n+f.length) (-1)) x = -1/\fJ (List.replicate (n+f.length) 0) x=0/\fJ (List.replicate n 1++List.replicate (n+f.length-n) 0) x=1
   refine⟨AO o_,AO o_,AO o_,jf ?_⟩
   rw[sH (by simpa using b),sI,if_pos b]
 . exact AO c
 . show fJ (List.replicate n 1++List.replicate (n+f.length-n) 0) y<=n
   by_cases h1:y<n
   . rw[jf (x:=1) (by rw[sH (by simpa using h1),sI,if_pos h1])];omega
   . rw[jf (x:=0) (by rw[Lz (by simp;omega),sI,if_pos (by simp;omega)])];omega
 . show fJ (List.replicate (n+f.length) (-1)) (fJ (List.range n) l) = -1/\gH es n f (fJ (List.range n) l)=l
   rw[oe a]
   exact⟨AO o_,if_pos a⟩
theorem u9.next{es:List Ge}{n:Nat}{f:List Nat}(h:iA es n f){i:Nat}(hi:i<f.length)(v:u9 es n f i):u9 es n f (i+1):=by
 obtain⟨s1,s2,s3,L,s5,s6,s7⟩:=h.st hi
 obtain⟨l1,l2,l3,l4,l5,l6⟩:=Bk (es:=es) (n:=n) (f:=f) i
 obtain⟨P,G⟩:=v.d _ o_ s3
 obtain⟨Q,H⟩:=v.d _ s2 L
 have Y:nL es n f i≠nR es n f i:=fun e=>by
  have e1:gH es n f (nL es n f i)=nA es n f i:=G
  have m:gH es n f (nR es n f i)=nB es n f i:=H
  rw[e,m]at e1
  omega
 have E:∀ y,fJ (gL es n f (i+1)).l y=if n+i=y then(nL es n f i:Int)else fJ (gL es n f i).l y:=by
  intro y
  have e1:(gL es n f (i+1)).l=fN (gL es n f i).l (n+i) (fun _=>(nL es n f i:Int)):=rfl
  rw[e1,iS o_]
 have F:∀ y,fJ (gL es n f (i+1)).r y=if n+i=y then(nR es n f i:Int)else fJ (gL es n f i).r y:=by
  intro y
  have e1:(gL es n f (i+1)).r=fN (gL es n f i).r (n+i) (fun _=>(nR es n f i:Int)):=rfl
  rw[e1,iS o_]
 have D:∀ y,fJ (gL es n f (i+1)).h y=if n+i=y then(fJ es (fJ f i)).w else fJ (gL es n f i).h y:=by
  intro y
  have e1:(gL es n f (i+1)).h=fN (gL es n f i).h (n+i) (fun _=>(fJ es (fJ f i)).w):=rfl
  rw[e1,iS o_]
 have t:∀ y,fJ (gL es n f (i+1)).s y=if n+i=y then fJ (gL es n f i).s (nL es n f i)+fJ (gL es n f i).s (nR es n f i)else fJ (gL es n f i).s y:=by
  intro y
  have e1:(gL es n f (i+1)).s=fN (gL es n f i).s (n+i) (fun _=>fJ (gL es n f i).s (nL es n f i)+fJ (gL es n f i).s (nR es n f i)):=rfl
  rw[e1,iS o_]
 have td:∀ y,fJ (gL es n f (i+1)).d y=if nA es n f i=y then n+i else fJ (gL es n f i).d y:=by
  intro y
  have e1:(gL es n f (i+1)).d=fN (gL es n f i).d (nA es n f i) (fun _=>n+i):=rfl
  rw[e1,iS o_]
 have A:∀ y,fJ (gL es n f (i+1)).p y=if nR es n f i=y then((n+i:Nat):Int)else if nL es n f i=y then((n+i:Nat):Int)else fJ (gL es n f i).p y:=by
  intro y
  have e1:(gL es n f (i+1)).p=fN (fN (gL es n f i).p (nL es n f i) fun _=>((n+i:Nat):Int)) (nR es n f i) fun _=>((n+i:Nat):Int):=rfl
  rw[e1,iS (by rw[gC];omega),iS o_]
 refine⟨fun x Z=>?_,fun j hj=>?_,fun y q=>?_,fun y q=>?_,fun l K z=>?_⟩
 . rw[E,F,D,t,if_neg o_,if_neg o_,if_neg o_,if_neg o_]
   exact v.a x Z
 . by_cases e:j=i
   . subst e
     refine⟨by rw[E,if_pos rfl],by rw[F,if_pos rfl],by rw[D,if_pos rfl],?_,?_,by rw[A,if_pos rfl]⟩
     . rw[t,t,t,if_pos rfl,if_neg o_,if_neg o_]
     . rw[A,if_neg (fun e=>Y e.symm),if_pos rfl]
   . have S : j<i:=by omega
     obtain⟨b1,b2,b3,M,N,O⟩:=v.b j S
     obtain⟨_,_,_,_,q5,q6,_⟩:=h.st (show j<f.length by omega)
     have k1:∀ y,fJ (gL es n f i).p y=((n+j:Nat):Int)->fJ (gL es n f (i+1)).p y=((n+j:Nat):Int):=by
      intro y q
      rw[A,if_neg,if_neg,q]
      . intro m;rw[<-m]at q;have o:fJ (gL es n f i).p (nL es n f i) = -1:=P;rw[o]at q;omega
      . intro m;rw[<-m]at q;have o:fJ (gL es n f i).p (nR es n f i) = -1:=Q;rw[o]at q;omega
     rw[E,F,D,t,t,t,if_neg o_,if_neg o_,if_neg o_,if_neg o_,if_neg o_,if_neg o_]
     exact⟨b1,b2,b3,M,k1 _ N,k1 _ O⟩
 . rw[A]
   by_cases e1:nR es n f i=y
   . exact .inr ⟨i,o_,by rw[if_pos e1],.inr e1.symm⟩
   . rw[if_neg e1]
     by_cases m:nL es n f i=y
     . exact .inr ⟨i,o_,by rw[if_pos m],.inl m.symm⟩
     . rw[if_neg m]
       rcases v.c y q with u|⟨j,u,I,J⟩
       . exact .inl u
       . exact .inr ⟨j,o_,I,J⟩
 . rw[t]
   split
   . obtain⟨us,u⟩:=h.K8 i o_
     exact(u.two h.g hi (fun k T=>h.f.lt T) (h.f.mo hi) rfl rfl).2.2
   . exact v.e y q
 . rw[s7,AL (by rw[EZ];exact K)]at z
   have X:max (nA es n f i) (nB es n f i)=nB es n f i:=by omega
   have W:min (nA es n f i) (nB es n f i)=nA es n f i:=by omega
   rw[X,W]at z
   rw[td]
   by_cases e:nA es n f i=l
   . rw[if_pos e]
     refine⟨?_,?_⟩
     . rw[A,if_neg o_,if_neg o_]
       rcases v.c (n+i) o_ with u|⟨j,u,I,J⟩
       . exact u
       . obtain⟨_,_,_,_,q5,q6,_⟩:=h.st (show j<f.length by omega)
         omega
     . unfold gH
       rw[if_neg o_,show n+i-n=i by omega]
       exact e
   . rw[if_neg e]
     have U:fJ (ir es n (f.take i)) l=l:=by
      split at z
      . exact absurd z e
      . exact z
     have V:l≠nB es n f i:=by
      intro o
      rw[if_pos (by rw[o];exact L)]at z
      exact e z
     obtain⟨R,B⟩:=v.d l K U
     refine⟨?_,B⟩
     rw[A,if_neg,if_neg,R]
     . intro o
       rw[<-o]at B
       have C:gH es n f (nL es n f i)=nA es n f i:=G
       exact e (C.symm.trans B)
     . intro o
       rw[<-o]at B
       have C:gH es n f (nR es n f i)=nB es n f i:=H
       exact V (B.symm.trans C)
theorem iA.vK{es:List Ge}{n:Nat}{f:List Nat}(h:iA es n f):∀ i,i<=f.length->u9 es n f i
 | 0,_=>u9.start
 | i+1,hi=>(h.vK i o_).next h o_
theorem iA.v{es:List Ge}{n:Nat}{f:List Nat}(h:iA es n f):u9 es n f f.length:=h.vK _ (zj _)
theorem iA.vP{es:List Ge}{n:Nat}{f:List Nat}(h:iA es n f){i:Nat}(hi:i<f.length):gH es n f (nL es n f i)=nA es n f i/\gH es n f (nR es n f i)=nB es n f i/\gH es n f (n+i)=nA es n f i:=by
 obtain⟨s1,s2,s3,a,b,c,e⟩:=h.st hi
 have v:=h.vK i o_
 refine⟨(v.d _ o_ s3).2,(v.d _ s2 a).2,?_⟩
 unfold gH
 rw[if_neg o_,show n+i-n=i by omega]
theorem nT.kj{es:List Ge}{n:Nat}{f:List Nat}(h:nT es n f){i:Nat}(hi:i+1<f.length):(fJ es (fJ f i)).w<=(fJ es (fJ f (i+1))).w:=by
 obtain⟨o,a,rfl⟩:=h
 have b:=a.KG.sublist (EL (es:=es) (n:=n) o)
 have c:=(wJ.1 b) i (i+1) o_ hi o_
 rw[jf (zk (show i<(jI es n o).length by omega)),jf (zk hi)]
 unfold sj at c
 omega
theorem aaG{L:List Nat}{p q:Nat->Bool}(x:Nat)(c:x∈L)(hp:p x=true)(f:q x=false)(h:∀ l∈L,q l=true->p l=true):(L.filter q).length<(L.filter p).length:=by
 induction L with
 | nil=>cases c
 | cons y L g =>
  have e:∀ M:List Nat,(∀ l∈M,q l=true->p l=true)->(M.filter q).length<=(M.filter p).length:=by
   intro M
   induction M with
   | nil=>intro _;exact zj _
   | cons z M i =>
    intro d
    have a:=i fun l b=>d l (by simp[b])
    rw[oQ,oQ]
    cases hqz:q z with
    | true=>rw[d z s_ hqz];simpa using a
    | false =>
     cases p z with
     | true=>simp;omega
     | false=>simpa using a
  rw[oQ,oQ]
  rcases zb.1 c with rfl|c
  . rw[hp,f]
    have:=e L fun l b=>h l (by simp[b])
    simp
    omega
  . have a:=g c fun l b=>h l (by simp[b])
    cases hqy:q y with
    | true=>rw[h y s_ hqy];simpa using a
    | false =>
     cases p y with
     | true=>simp;omega
     | false=>simpa using a
theorem nT.room{es:List Ge}{n:Nat}{f:List Nat}(h:nT es n f)(k:pS n es):f.length<=n:=by
 have j:iA es n f:=⟨k,h⟩
 -- each step makes one label less
 have key:∀ i,i<=f.length->i+((List.range n).filter fun l=>decide (fJ (ir es n (f.take i)) l=l)).length<=n:=by
  intro i
  induction i with
  | zero=>intro _;have:=yU (fun l=>decide (fJ (ir es n (f.take 0)) l=l)) (List.range n);rw[qq]at this;omega
  | succ i p =>
   intro hi
   have q:=p o_
   obtain⟨s1,s2,s3,d,s,t,g⟩:=j.st (show i<f.length by omega)
   have c:max (nA es n f i) (nB es n f i)=nB es n f i:=by omega
   have b:min (nA es n f i) (nB es n f i)=nA es n f i:=by omega
   have r:((List.range n).filter fun l=>decide (fJ (ir es n (f.take (i+1))) l=l)).length<((List.range n).filter fun l=>decide (fJ (ir es n (f.take i)) l=l)).length:=by
    refine aaG (nB es n f i) (zz.2 s2) (by simpa using d) ?_ fun l m a=>?_
    . rw[g,AL (by rw[EZ];exact s2),c,b,if_pos d]
      simp;omega
    . have o := zz.1 m
      rw[g,AL (by rw[EZ];exact o),c,b]at a
      simp only[decide_eq_true_eq]at a ⊢
      split at a
      . rename_i e;rw[<-a]at e;omega
      . exact a
   omega
 have:=key f.length (zj _)
 omega
theorem iA.inner{es:List Ge}{n:Nat}{f:List Nat}(h:iA es n f){i:Nat}(hi:i<f.length) :
 (fU es n f).l[n+i]? = some (nL es n f i:Int)/\(fU es n f).r[n+i]? = some (nR es n f i:Int)/\(fU es n f).h[n+i]? = some (fJ es (fJ f i)).w/\(fU es n f).p[nL es n f i]? = some ((n+i:Nat):Int)/\(fU es n f).p[nR es n f i]? = some ((n+i:Nat):Int) /\
 fJ (fU es n f).s (n+i)=fJ (fU es n f).s (nL es n f i)+fJ (fU es n f).s (nR es n f i)/\fJ (fU es n f).s (n+i)<=n/\nL es n f i<n+i/\nR es n f i<n+i/\nL es n f i≠nR es n f i:=by
 obtain⟨o,q,t,u,x,y⟩:=Bk (es:=es) (n:=n) (f:=f) f.length
 obtain⟨b1,b2,b3,a,c,d⟩:=h.v.b i hi
 obtain⟨s1,s2,s3,z,j,k,A⟩:=h.st hi
 obtain⟨k1,g,m⟩:=h.vP hi
 refine⟨?_,?_,?_,?_,?_,a,h.v.e _ o_,j,k,fun e=>?_⟩
 . rw[<-b1];exact gB (by show n+i<(gL es n f f.length).l.length;omega)
 . rw[<-b2];exact gB (by show n+i<(gL es n f f.length).r.length;omega)
 . rw[<-b3];exact gB (by show n+i<(gL es n f f.length).h.length;omega)
 . rw[<-c];exact gB (by show nL es n f i<(gL es n f f.length).p.length;omega)
 . rw[<-d];exact gB (by show nR es n f i<(gL es n f f.length).p.length;omega)
 . rw[e,g]at k1;omega
theorem lJ{es:List Ge}{n:Nat}{f:List Nat}:(fU es n f).l.length=n+f.length/\(fU es n f).r.length=n+f.length/\(fU es n f).p.length=n+f.length/\(fU es n f).h.length=n+f.length/\(fU es n f).s.length=n+f.length:=by
 obtain⟨a,b,c,d,e,g⟩:=Bk (es:=es) (n:=n) (f:=f) f.length
 exact⟨a,b,c,d,e⟩
theorem iA.par{es:List Ge}{n:Nat}{f:List Nat}(h:iA es n f){y:Nat}(e:y<n+f.length):(fU es n f).p[y]? = some (-1)\/∃ j,j<f.length/\(fU es n f).p[y]? = some ((n+j:Nat):Int)/\(y=nL es n f j\/y=nR es n f j):=by
 have g:=(lJ (es:=es) (n:=n) (f:=f)).2.2.1
 rcases h.v.c y e with a|⟨j,a,b,d⟩
 . exact .inl (by rw[<-a];exact gB (by show y<(fU es n f).p.length;omega))
 . exact .inr ⟨j,a,by rw[<-b];exact gB (by show y<(fU es n f).p.length;omega),d⟩
def Pg(v:Value):List Value:=[v]
def nq(es:List Ge)(n:Nat)(f:List Nat)(m k:Nat):List Nat:=(List.range k).map (gH es n f)++List.replicate (m-k) 0
theorem aaB{es:List Ge}{n m:Nat}{f:List Nat}:List.replicate m 0=nq es n f m 0:=by simp[nq]
theorem aay{es:List Ge}{n m:Nat}{f:List Nat}:nq es n f m m=(List.range m).map (gH es n f):=by simp[nq]
theorem aaz{es:List Ge}{n m k:Nat}{f:List Nat}(h:k<=m):(nq es n f m k).length=m:=by simp[nq];omega
theorem Qo{es:List Ge}{n m k j c:Nat}{f:List Nat}(hk:k<=m)(h:j<k):(fN (nq es n f m k) k fun _=>c)[j]? = some (gH es n f j):=by
 unfold fN nq
 rw[rS,if_neg o_,sH (by simpa using h),lK,qX h]
 rfl
theorem Qp{es:List Ge}{n m k c:Nat}{f:List Nat}(h:k<m)(d:c=gH es n f k):fN (nq es n f m k) k (fun _=>c)=nq es n f m (k+1):=by
 have:=Bl (a:=(List.range k).map (gH es n f)) (b:=List.replicate (m-(k+1)) 0) (x:=0) (y:=c) (f:=fun _=>c) rfl
 rw[zn,qq]at this
 rw[nq,A7 h,this,nq,sL,d]
 simp
theorem aaA{es:List Ge}{n m k c d:Nat}{f:List Nat}(h:k<m)(a:c=gH es n f k):fN (fN (nq es n f m k) k (fun _=>d)) k (fun _=>c)=nq es n f m (k+1):=by
 rw[<-Qp h a]
 unfold fN
 rw[List.set_set]
theorem St.aac{bs:List (World×List Nat)}{L:List fT}{w w0:World}{b:Nat}{T:TypeId}{cs:List Value}(h:St bs L w)(hb:(w0,[])∈bs)(a:(blk b T cs).holds w0):(blk b T cs).holds w :=
 (blk b T cs).loc w0 w (fun c d => h.keep hb (by
  have e:c = b:=by simpa[blk]using d
  subst e
  exact(z6.1 a).1) oB) a
structure Mg where
 a:Nat
 b:Nat
 h:Int
 s:Nat
instance:Inhabited Mg:=⟨⟨0,0,0,0⟩⟩
abbrev Mg.cells(x:Mg):List Value:=[.int .i64 (x.a:Int),.int .i64 (x.b:Int),.int .i64 x.h,.int .i64 1,.int .i64 (x.s:Int)]
def Jz(es:List Ge)(n:Nat)(f:List Nat)(i:Nat):Mg:=⟨nA es n f i,nB es n f i,(fJ es (fJ f i)).w,fJ (fU es n f).s (n+i)⟩
def nE(es:List Ge)(n:Nat)(f:List Nat)(k:Nat):List Mg:=(List.range k).map (Jz es n f)
theorem abc{es:List Ge}{n k:Nat}{f:List Nat}:nE es n f (k+1)=nE es n f k++[Jz es n f k]:=by unfold nE;rw[sL,sK];rfl
theorem QE{es:List Ge}{n k:Nat}{f:List Nat}:(nE es n f k).length=k:=by simp[nE]
theorem Qq{es:List Ge}{n m j:Nat}{f:List Nat}(h:j<m):((List.range m).map (gH es n f))[j]? = some (gH es n f j):=by rw[lK,qX h];rfl
end Go.Sx
namespace Go.Sx
open Go
structure jZ (ps:List Int):Prop where
 up:∀ i,i<ps.length->fJ ps i<0\/(i:Int)<fJ ps i/\fJ ps i<(ps.length:Int)
def gm(ps:List Int)(i:Nat):Nat:=if h:(i:Int)<fJ ps i/\i<ps.length then gm ps (fJ ps i).toNat+1 else 0
termination_by ps.length-i
decreasing_by omega
def jC(ps:List Int)(k i:Nat):List Nat:=(List.range k).filter fun j=>decide (fJ ps j=(i:Int))
def nG(ps:List Int)(k:Nat):List Nat:=(List.range k).filter fun j=>decide (fJ ps j<0)
section
variable {ps:List Int} {k i j:Nat}
theorem ado(h:fJ ps k<0):nG ps (k+1)=nG ps k++[k]:=by simp[nG,sL,wQ,h]
theorem adn(h:¬ fJ ps k<0):nG ps (k+1)=nG ps k:=by simp[nG,sL,wQ,h]
theorem Qf:jC ps (k+1) i=if fJ ps k=(i:Int)then jC ps k i++[k]else jC ps k i:=by
 unfold jC
 rw[sL,wQ]
 split<;>rename_i h<;>simp[h]
theorem aah(h:fJ ps k<0):jC ps (k+1) i=jC ps k i:=by rw[Qf,if_neg o_]
theorem QD:j∈jC ps k i↔j<k/\fJ ps j=(i:Int):=by simp[jC]
theorem Fe:j∈nG ps k↔j<k/\fJ ps j<0:=by simp[nG]
theorem aag:(jC ps k i).Nodup:=u5.sublist wP
theorem adm:(nG ps k).Nodup:=u5.sublist wP
theorem adl:(nG ps k).length<=k:=kg (yU _ _) s_
theorem Qe:(jC ps k i).length<=k:=kg (yU _ _) s_
theorem Ek(h:fJ ps i<0):gm ps i=0:=by rw[gm,dif_neg o_]
theorem Ai(hp:jZ ps)(a:j<ps.length)(h:fJ ps j=(i:Int)):gm ps j=gm ps i+1:=by
 have b:=hp.up j a
 rw[gm,dif_pos o_,h]
 rfl
theorem HZ:gm ps i<=ps.length-i:=by
 induction hm:ps.length-i using Nat.strongRecOn generalizing i with
 | _ m a =>
  rw[gm]
  split
  . rename_i h
    have:=a (ps.length-(fJ ps i).toNat) o_ rfl
    omega
  . omega
end
structure Bf (ps:List Int) (i j:Nat) (od:List Nat) (dp:List Nat):Prop where
 nd:od.Nodup
 lt:∀ x∈od,x<ps.length
 len:dp.length=ps.length
 mem:∀ x,x<ps.length->(x∈od↔fJ ps x<0\/(∃ p∈od.take i,fJ ps x=(p:Int))\/i<od.length/\x∈(jC ps ps.length (fJ od i)).take j)
 dep:∀ x∈od,fJ dp x=gm ps x
 I1:i<=od.length
 zero:∀ x,x<ps.length->x∉od->fJ dp x=0
section
variable {ps:List Int} {i j:Nat} {od dp:List Nat}
theorem Bf.JU(h:Bf ps i j od dp):od.length<=ps.length:=AS _ _ h.nd h.lt
theorem Bf.start:Bf ps 0 0 (nG ps ps.length) (List.replicate ps.length 0) where
 nd:=adm
 lt x hx:=(Fe.1 hx).1
 len:=by simp
 mem x hx:=by simp[Fe,hx]
 dep x hx:=by
  rw[Ek (Fe.1 hx).2]
  exact jf (by simp[(Fe.1 hx).1])
 I1:=by simp
 zero x hx _:=jf (by simp[hx])
theorem Bf.new(h:Bf ps i j od dp)(hi:i<od.length){c:Nat}(e:(jC ps ps.length (fJ od i))[j]? = some c):c<ps.length/\fJ ps c=((fJ od i:Nat):Int)/\c∉od:=by
 obtain⟨d,g⟩:=QD.1 (zg e)
 refine⟨d,g,fun hm=>?_⟩
 rcases(h.mem c d).1 hm with b|⟨p,hp,b⟩|⟨_,b⟩
 . omega
 . have l:p=fJ od i:=by omega
   subst l
   have f:=h.nd
   rw[<-uW i od]at f
   have k:fJ od i∈od.drop i:=zg (i:=0) (by rw[Dr,qt];exact gB hi)
   exact(zr.1 f).2.2 _ hp _ k rfl
 . obtain⟨q,a⟩:=List.mem_iff_getElem?.1 b
   rw[sG]at a
   split at a
   . rename_i n
     obtain⟨m,o⟩:=ze.1 a
     have:=(List.getElem?_inj m aag).1 (a.trans e.symm)
     omega
   . cases a
theorem Bf.vP(hp:jZ ps)(h:Bf ps i j od dp)(hi:i<od.length){c:Nat}(l:(jC ps ps.length (fJ od i))[j]? = some c) :
 Bf ps i (j+1) (od++[c]) (fN dp c (fun _=>fJ dp (fJ od i)+1)):=by
 obtain⟨g,m,k⟩:=h.new hi l
 have o:fJ (od++[c]) i=fJ od i:=jf (by rw[sH hi];exact gB hi)
 refine⟨?_,?_,by rw[gC];exact h.len,?_,?_,by rw[zq];have:=h.I1;omega,?_⟩
 . refine zr.2 ⟨h.nd,s_,?_⟩
   rintro a n b hb rfl
   simp only[lB]at hb
   exact k (hb▸n)
 . intro x f
   rcases zo.1 f with d|d
   . exact h.lt x d
   . simp only[lB]at d
     exact d▸g
 . intro x f
   rw[o,Gx o_,pQ,l]
   simp only[zo,lB,Option.toList_some,zq,LJ]
   rw[h.mem x f]
   constructor
   . rintro((d|d|⟨_,d⟩)|d)
     . exact .inl d
     . exact .inr (.inl d)
     . exact .inr (.inr ⟨o_,.inl d⟩)
     . exact .inr (.inr ⟨o_,.inr d⟩)
   . rintro(d|d|⟨_,d|d⟩)
     . exact .inl (.inl d)
     . exact .inl (.inr (.inl d))
     . exact .inl (.inr (.inr ⟨hi,d⟩))
     . exact .inr d
 . intro x f
   rcases zo.1 f with d|d
   . have q:c≠x:=fun e=>k (e▸d)
     rw[j5 q]
     exact h.dep x d
   . simp only[lB]at d
     subst d
     rw[ko (by rw[h.len];exact g),Ai hp g m,h.dep _ (zg (gB hi))]
 . intro x f p
   have d:x∉od/\x≠c:=by simpa using p
   rw[j5 (Ne.symm d.2)]
   exact h.zero x f d.1
theorem Bf.next(h:Bf ps i j od dp)(hi:i<od.length)(d:(jC ps ps.length (fJ od i)).length<=j):Bf ps (i+1) 0 od dp:=by
 refine⟨h.nd,h.lt,h.len,fun x c=>?_,h.dep,hi,h.zero⟩
 rw[h.mem x c,wN d,pQ,gB hi]
 simp only[QD,List.take_zero,oB,and_false,or_false,zo,Option.toList_some,lB]
 constructor
 . rintro(a|⟨p,a,b⟩|⟨_,_,b⟩)
   . exact .inl a
   . exact .inr ⟨p,.inl a,b⟩
   . exact .inr ⟨_,.inr rfl,b⟩
 . rintro(a|⟨p,a|a,b⟩)
   . exact .inl a
   . exact .inr (.inl ⟨p,a,b⟩)
   . subst a
     exact .inr (.inr ⟨hi,c,b⟩)
theorem Bf.all(hp:jZ ps)(h:Bf ps od.length 0 od dp):∀ x,x<ps.length->x∈od:=by
 intro x
 induction hm:ps.length-x using Nat.strongRecOn generalizing x with
 | _ m c =>
  intro b
  rw[h.mem x b]
  rcases hp.up x b with a|⟨a,d⟩
  . exact .inl a
  . refine .inr (.inl ⟨(fJ ps x).toNat,?_,o_⟩)
    rw[tU]
    exact c (ps.length-(fJ ps x).toNat) o_ _ rfl o_
theorem Bf.fin(hp:jZ ps)(h:Bf ps od.length 0 od dp):od.length=ps.length/\dp=(List.range ps.length).map (gm ps):=by
 refine⟨Nat.le_antisymm h.JU ?_,?_⟩
 . have b:=CK (List.range ps.length) od u5 fun x a=>h.all hp x (zz.1 a)
   simpa using b
 . apply nS
   intro x
   by_cases a:x<ps.length
   . rw[gB (by rw[h.len];exact a),h.dep x (h.all hp x a)]
     simp[a]
   . rw[zw (by rw[h.len];omega),zw (by simp;omega)]
end
def n9(f:Nat->Int)(n k:Nat):List Int:=(List.range k).map f++List.replicate (n-k) 0
section
variable {f:Nat->Int} {n k j:Nat}
theorem Ys(h:k<=n):(n9 f n k).length=n:=by simp[n9];omega
theorem Yu:n9 f n 0=List.replicate n 0:=by simp[n9]
theorem Yr:n9 f n n=(List.range n).map f:=by simp[n9]
theorem Yt(h:k<n):fN (n9 f n k) k (fun _=>f k)=n9 f n (k+1):=by
 unfold n9 fN
 rw[List.set_append_right _ _ s_,sL,sK,ox]
 simp only[zn,qq,Nat.sub_self,kf,Dz]
 obtain⟨m,hm⟩:∃ m,n-k=m+1:=⟨n-k-1,o_⟩
 rw[hm,List.replicate_succ,List.set_cons_zero,show n-(k+1)=m by omega]
 rfl
theorem Jt{α:Type}[Inhabited α]{g:Nat->α}(h:j<n):fJ ((List.range n).map g) j=g j:=jf (by simp[h])
end
def kn(ps:List Int):Nat->Nat->Int
 | 0,v=>fJ ps v
 | k+1,v=>if 0<=kn ps k v then kn ps k (kn ps k v).toNat else kn ps k v
def jo(ps:List Int)(k:Nat):List Int:=(List.range ps.length).map (kn ps k)
section
variable {ps:List Int} {k v:Nat}
theorem Ja(hp:jZ ps)(hv:v<ps.length):kn ps k v<0\/(v:Int)<kn ps k v/\kn ps k v<(ps.length:Int):=by
 induction k generalizing v with
 | zero=>exact hp.up v hv
 | succ k a =>
  have b:=a hv
  unfold kn
  split
  . have c:=a (v:=(kn ps k v).toNat) o_
    omega
  . omega
theorem EY(h:0<=kn ps k v):kn ps (k+1) v=kn ps k (kn ps k v).toNat:=by
 show (if 0<=kn ps k v then _ else _)=_
 rw[if_pos h]
theorem Jb(h:¬ 0<=kn ps k v):kn ps (k+1) v=kn ps k v:=by
 show (if 0<=kn ps k v then _ else _)=_
 rw[if_neg h]
theorem AG:(jo ps k).length=ps.length:=by simp[jo]
theorem uA(h:v<ps.length):fJ (jo ps k) v=kn ps k v:=Jt h
theorem ZY:jo ps 0=ps:=by
 apply nS
 intro j
 by_cases hj:j<ps.length
 . rw[gB hj,gB (by rw[AG];exact hj),uA hj]
   rfl
 . rw[zw (by rw[AG];omega),zw o_]
theorem Z2(hp:jZ ps)(hv:v<ps.length)(h:0<=fJ (jo ps k) v):fJ (jo ps k) (fJ (jo ps k) v).toNat=kn ps (k+1) v:=by
 rw[uA hv]at h ⊢
 rw[EY h,uA]
 have:=Ja hp hv (k:=k)
 omega
theorem ZZ(hv:v<ps.length)(h:¬ 0<=fJ (jo ps k) v):fJ (jo ps k) v=kn ps (k+1) v:=by
 rw[uA hv]at h ⊢
 rw[Jb h]
theorem IB{f:Nat->Int}{n:Nat}{x:Int}(h:v<n)(a:x=f v):fN (n9 f n v) v (fun _=>x)=n9 f n (v+1):=by
 rw[a];exact Yt h
end
section
variable {ps:List Int} {l:List (Value×List Int)} {k q n:Nat} {v:Value}
theorem Yh{α:Type}[Inhabited α]{l:List α}(h:q<k):fJ (l.eraseIdx k) q=fJ l q:=by
 unfold fJ
 rw[List.getElem?_eraseIdx_of_lt h]
theorem ZX(a:l.length=n)(hk:k<n)(h:∀ q,q<k->(fJ l q).2=jo ps q):∀ q,q<k+1->(fJ (fN l k (fun _=>(v,jo ps k))) q).2=jo ps q:=by
 intro q b
 rw[iS o_]
 split
 . rename_i e;subst e;rfl
 . exact h q o_
end
def jm(ps hs:List Int)(T:Int)(x:Nat):Nat:=if h:((x:Int)<fJ ps x/\x<ps.length)/\fJ hs (fJ ps x).toNat<=T then jm ps hs T (fJ ps x).toNat else x
termination_by ps.length-x
decreasing_by omega
section
variable {ps hs:List Int} {T:Int} {x:Nat}
theorem Ei(hp:jZ ps)(a:x<ps.length)(h:0<=fJ ps x)(b:fJ hs (fJ ps x).toNat<=T):jm ps hs T x=jm ps hs T (fJ ps x).toNat:=by
 have:=hp.up x a
 rw[jm,dif_pos ⟨⟨o_,a⟩,b⟩]
theorem Eh(h:¬ (0<=fJ ps x/\fJ hs (fJ ps x).toNat<=T)):jm ps hs T x=x:=by
 rw[jm,dif_neg (fun a=>h ⟨o_,a.2⟩)]
theorem HQ(a:x<ps.length)(hp:jZ ps):jm ps hs T x<ps.length:=by
 induction hm:ps.length-x using Nat.strongRecOn generalizing x with
 | _ m b =>
  by_cases h:0<=fJ ps x/\fJ hs (fJ ps x).toNat<=T
  . have c:=hp.up x a
    rw[Ei hp a h.1 h.2]
    exact b (ps.length-(fJ ps x).toNat) o_ o_ rfl
  . rw[Eh h]
    exact a
end
theorem P3{l:List (Value×List Int)}(h:l.length=13):l.flatMap kJ=[(fJ l 0).1,(fJ l 1).1,(fJ l 2).1,(fJ l 3).1,(fJ l 4).1,(fJ l 5).1,(fJ l 6).1,(fJ l 7).1,(fJ l 8).1,(fJ l 9).1,(fJ l 10).1,(fJ l 11).1,(fJ l 12).1]:=by
 match l,h with
 | [a0,a1,a2,a3,a4,a5,a6,a7,a8,a9,a10,a11,a12],_=>rfl
theorem iA.Rn{es:List Ge}{n:Nat}{f:List Nat}(h:iA es n f){y:Nat}(d:y<n+f.length):fJ (fU es n f).p y = -1\/(y:Int)<fJ (fU es n f).p y/\fJ (fU es n f).p y<((n+f.length:Nat):Int):=by
 rcases h.par d with a|⟨j,a,c,b⟩
 . exact .inl (jf a)
 . have e:=jf c
   obtain⟨_,_,_,_,_,_,_,g,i,_⟩:=h.inner a
   refine .inr ?_
   rcases b with b|b<;>omega
theorem iA.qP{es:List Ge}{n:Nat}{f:List Nat}(h:iA es n f):jZ (fU es n f).p :=
 ⟨fun i hi=>by
  have c:=(lJ (es:=es) (n:=n) (f:=f)).2.2.1
  rcases h.Rn (y:=i) o_ with a|⟨a,b⟩
  . exact .inl o_
  . exact .inr ⟨a,o_⟩⟩
theorem iA.JY{es:List Ge}{n:Nat}{f:List Nat}(h:iA es n f):∀ i,i<(fU es n f).p.length -> -1<=fJ (fU es n f).p i:=fun i hi=>by
 have c:=(lJ (es:=es) (n:=n) (f:=f)).2.2.1
 rcases h.Rn (y:=i) o_ with a|⟨a,b⟩<;>omega
end Go.Sx
namespace Go.Sx
open Go
def kB(es:List Ge)(n:Nat)(f:List Nat)(T:Int)(x:Nat):List Nat :=
 (List.range (n+f.length)).map fun y=>if x<=y then gH es n f (jm (fU es n f).p (fU es n f).h T y)else gH es n f y
def gY(es:List Ge)(n:Nat)(f:List Nat)(T:Int):List Nat:=(List.range n).map fun y=>gH es n f (jm (fU es n f).p (fU es n f).h T y)
section
variable {es:List Ge} {n:Nat} {f:List Nat} {T:Int} {x:Nat}
theorem xD:(kB es n f T x).length=n+f.length:=by simp[kB]
theorem aas:(gY es n f T).length=n:=by simp[gY]
theorem Jh{y:Nat}(h:y<n+f.length):fJ (kB es n f T x) y=if x<=y then gH es n f (jm (fU es n f).p (fU es n f).h T y)else gH es n f y:=by
 unfold kB
 rw[Jt h]
theorem aap:kB es n f T (n+f.length)=(List.range (n+f.length)).map (gH es n f):=by
 unfold kB
 refine yY fun y a=>?_
 rw[if_neg (by rw[zz]at a;omega)]
theorem aaq(h:f.length<=f.length):(kB es n f T 0).take n=gY es n f T:=by
 unfold kB gY
 rw[<-List.map_take,List.take_range,qW o_]
 refine yY fun y _=>?_
 rw[if_pos (mU _)]
theorem Qi(b:iA es n f)(h:x<n+f.length)(a:¬ (0<=fJ (fU es n f).p x/\fJ (fU es n f).h (fJ (fU es n f).p x).toNat<=T)):kB es n f T (x+1)=kB es n f T x:=by
 unfold kB
 refine yY fun y c=>?_
 by_cases e:y=x
 . subst e
   rw[if_neg o_,if_pos (zj _),Eh a]
 . by_cases h1:x<=y
   . rw[if_pos h1,if_pos o_]
   . rw[if_neg h1,if_neg o_]
theorem aar(a:iA es n f)(h:x<n+f.length)(d:0<=fJ (fU es n f).p x)(g:fJ (fU es n f).h (fJ (fU es n f).p x).toNat<=T) :
 (fJ (fU es n f).p x).toNat<n+f.length/\fN (kB es n f T (x+1)) x (fun _=>fJ (kB es n f T (x+1)) (fJ (fU es n f).p x).toNat)=kB es n f T x:=by
 obtain⟨i,j,k,l,m⟩:=lJ (es:=es) (n:=n) (f:=f)
 have o:=a.qP.up x o_
 have b:(fJ (fU es n f).p x).toNat<n+f.length:=by omega
 refine⟨b,?_⟩
 rw[Jh b,if_pos o_]
 apply nS
 intro y
 by_cases hy:y<n+f.length
 . have e1:(fN (kB es n f T (x+1)) x fun _=>gH es n f (jm (fU es n f).p (fU es n f).h T (fJ (fU es n f).p x).toNat))[y]? = some (fJ (fN (kB es n f T (x+1)) x fun _=>gH es n f (jm (fU es n f).p (fU es n f).h T (fJ (fU es n f).p x).toNat)) y):=gB (by rw[gC,xD];exact hy)
   have c:(kB es n f T x)[y]? = some (fJ (kB es n f T x) y):=gB (by rw[xD];exact hy)
   rw[e1,c,iS (by rw[xD];exact h),Jh hy,Jh hy]
   by_cases e:x=y
   . subst e
     rw[if_pos rfl,if_pos (zj _),Ei a.qP o_ d g]
   . rw[if_neg e]
     by_cases h1:x<=y
     . rw[if_pos h1,if_pos o_]
     . rw[if_neg h1,if_neg o_]
 . rw[zw (by rw[gC,xD];omega),zw (by rw[xD];omega)]
end
end Go.Sx
namespace Go.Sx
open Go
structure rY (lab:List Nat) (m:List (Int×Nat)):Prop where
 nd:(m.map Prod.fst).Nodup
 get:∀ x:Nat,gi m (x:Int)=lab.count x
 mem:∀ a,a∈m.map Prod.fst↔∃ x,x∈lab/\a=(x:Int)
theorem rY.start:rY [] []:=⟨wR,fun x=>rfl,fun a=>by simp⟩
theorem rY.next{lab:List Nat}{m:List (Int×Nat)}(h:rY lab m)(x:Nat):rY (lab++[x]) (gD m (x:Int) (lab.count x+1)):=by
 refine⟨CI h.nd _ _,fun y=>?_,fun a=>?_⟩
 . have b:=h.get y
   unfold gi at b ⊢
   rw[vU,GD]
   by_cases e:x=y
   . subst e
     rw[if_pos rfl]
     simp
   . rw[if_neg o_,b]
     simp[e]
 . rw[Qd]
   split
   . rename_i hm
     rw[h.mem]
     constructor
     . rintro⟨z,c,e⟩;exact⟨z,by simp[c],e⟩
     . rintro⟨z,c,e⟩
       rcases zo.1 c with b|b
       . exact⟨z,b,e⟩
       . rw[lB]at b
         subst b
         obtain⟨y,f,d⟩:=(h.mem _).1 hm
         exact⟨y,f,by rw[e,d]⟩
   . rw[zo,h.mem,lB]
     constructor
     . rintro(⟨z,c,e⟩|e)
       . exact⟨z,by simp[c],e⟩
       . exact⟨x,s_,e⟩
     . rintro⟨z,c,e⟩
       rcases zo.1 c with b|b
       . exact .inl ⟨z,b,e⟩
       . rw[lB]at b
         subst b
         exact .inr e
def jE(n:Nat)(lab:List Nat):List Nat:=(List.range n).filter fun x=>decide (x∈lab)
structure Gp where
 l:Nat
 s:Nat
instance:Inhabited Gp:=⟨⟨0,0⟩⟩
def Gp.cells(x:Gp):List Value:=[.int .i64 x.l,.int .i64 x.s]
def ny(n:Nat)(lab:List Nat):List Gp:=(jE n lab).map fun x=>⟨x,lab.count x⟩
theorem Ni{n x:Nat}{lab:List Nat}(h:x∈jE n lab):x<n/\x∈lab:=by
 unfold jE at h
 rw[mV,zz]at h
 exact⟨h.1,by simpa using h.2⟩
theorem Hx{n:Nat}{lab:List Nat}:(jE n lab).length<=n:=kg (yU _ _) s_
theorem rY.keys{n:Nat}{lab:List Nat}{m:List (Int×Nat)}(h:rY lab m)(f:∀ x∈lab,x<n){e ys:List Int}(hp:e.Perm (m.map Prod.fst))(d:ys.Perm e)(hs:mL ys ys.length):ys=gx (jE n lab):=by
 have g:ys.Nodup:=(d.trans hp).nodup_iff.2 h.nd
 refine Nl (hs.kj g) ?_ fun a=>?_
 . unfold gx jE
   rw[GF]
   exact(GA.sublist wP).imp fun {a b} i=>by omega
 . rw[(d.trans hp).mem_iff,h.mem]
   unfold gx
   rw[z7]
   constructor
   . rintro⟨x,c,rfl⟩
     exact⟨x,by unfold jE;rw[mV,zz];exact⟨f x c,by simpa using c⟩,rfl⟩
   . rintro⟨x,c,rfl⟩
     exact⟨x,(Ni c).2,rfl⟩
theorem rY.len{n:Nat}{lab:List Nat}{m:List (Int×Nat)}(h:rY lab m)(d:∀ x∈lab,x<n):m.length<=n:=by
 have b:(m.map Prod.fst).length<=((List.range n).map fun i:Nat=>(i:Int)).length:=xL _ _ h.nd fun a c=>by
  obtain⟨x,e,rfl⟩:=(h.mem a).1 c
  exact z7.2 ⟨x,zz.2 (d x e),rfl⟩
 simpa using b
theorem Qj{es:List Ge}{n:Nat}{f:List Nat}{T:Int}(a:iA es n f):∀ x∈gY es n f T,x<n:=by
 intro x b
 unfold gY at b
 obtain⟨y,c,rfl⟩:=z7.1 b
 rw[zz]at c
 obtain⟨g,j,k,l,m⟩:=lJ (es:=es) (n:=n) (f:=f)
 have d:=HQ (hs:=(fU es n f).h) (T:=T) (x:=y) (ps:=(fU es n f).p) o_ a.qP
 unfold gH
 split
 . assumption
 . rename_i e
   have:=a.st (i:=jm (fU es n f).p (fU es n f).h T y-n) o_
   omega
end Go.Sx
namespace Go.Sx
open Go
def nZ{α:Type}(cf:α->List Value)(sz:Nat)(e:TypeId)(m:List (Int×(Value×List α))):fT:=gj (m.map fun p=>fL cf p.2.1 e sz p.2.2)
section
variable {α:Type} {cf:α->List Value} {bs:List (World×List Nat)} {L:List fT} {w:World} {e:TypeId} {sz:Nat} {m:List (Int×(Value×List α))} {a:Int}
theorem St.Pb{a:List (Int×(Value×List α))}(h:St bs (nZ cf sz e m :: L) w)(hp:m.Perm a):St bs (nZ cf sz e a :: L) w :=
 St.pack _ _ ((St.unpack h).perm ((hp.map _).append_right _))
theorem St.Yk{p:Int×(Value×List α)}(h:St bs (nZ cf sz e (p :: m) :: L) w):St bs (fL cf p.2.1 e sz p.2.2 :: nZ cf sz e m :: L) w:=by
 have a:St bs (([fL cf p.2.1 e sz p.2.2]++m.map fun p=>fL cf p.2.1 e sz p.2.2)++L) w:=St.unpack h
 rw[ox]at a
 have b:=a.perm (L' := (m.map fun p=>fL cf p.2.1 e sz p.2.2)++([fL cf p.2.1 e sz p.2.2]++L)) (by
  rw[<-ox,<-ox]
  exact List.Perm.append_right _ qp)
 exact(St.pack _ _ b).swap
theorem St.VD{p:Int×(Value×List α)}(h:St bs (fL cf p.2.1 e sz p.2.2 :: nZ cf sz e m :: L) w):St bs (nZ cf sz e (p :: m) :: L) w:=by
 have a:St bs ((m.map fun p=>fL cf p.2.1 e sz p.2.2)++(fL cf p.2.1 e sz p.2.2 :: L)) w:=St.unpack h.swap
 refine St.pack _ _ (a.perm ?_)
 show List.Perm _ (fL cf p.2.1 e sz p.2.2 :: ((m.map fun p=>fL cf p.2.1 e sz p.2.2)++L))
 exact tT
theorem St.Pd(a:Int)(h:St bs (nZ cf sz e m :: L) w):St bs (fL cf (gi m a).1 e sz (gi m a).2 :: nZ cf sz e (iZ m a) :: L) w:=by
 unfold gi
 cases hm:gZ m a with
 | none =>
  rw[QC hm]
  exact St.D8 h e sz
 | some x=>exact(h.Pb (JB hm)).Yk
theorem St.Pc{v:Value}{xs:List α}(h:St bs (fL cf v e sz xs :: nZ cf sz e (iZ m a) :: L) w):St bs (nZ cf sz e (gD m a (v,xs)) :: L) w :=
 (St.VD (p:=(a,(v,xs))) h).Pb (JD m a (v,xs)).symm
theorem St.Yl(h:St bs L w):St bs (nZ cf sz e ([]:List (Int×(Value×List α))) :: L) w:=St.pack [] L h
end
end Go.Sx
namespace Go.Sx
open Go
structure jD where
 e:Nat
 d:Nat
instance:Inhabited jD:=⟨⟨0,0⟩⟩
def jD.cells(x:jD):List Value:=[.int .i64 x.e,.int .i64 x.d]
abbrev AM:=List (Int×(Value×List jD))
theorem Pe{m:AM}{N:Nat}(h:∀ c,(gi m c).2.length<=N)(a:Int)(v:Value)(x:jD):∀ c,(gi (gD m a (v,(gi m a).2++[x])) c).2.length<=N+1:=by
 intro c
 have d:=h a
 have b:=h c
 unfold gi
 rw[vU]
 split
 . show ((gi m a).2++[x]).length<=_
   rw[zq,zd,zh]
   omega
 . exact Nat.le_succ_of_le b
theorem Yo:∀ c,(gi ([]:AM) c).2.length<=0:=fun c=>zj 0
end Go.Sx
namespace Go.Sx
open Go
theorem fW.ok.copy{fO fM:Nat}{s:fW}(h:s.ok fO fM){d:AW}(f:∃ k,d.A={ s.A with ps:=k })(l:d.A.ok){e:TW}(r:e.ok)(p:∀ x,e.mem x↔s.t.mem x)(q:e.A.n=s.t.A.n){im2:IM}(hk:(im2.map Prod.fst).Nodup)
 (g:∀ a,(gZ im2 a=none↔gZ s.im a=none)/\(gi im2 a).2=(gi s.im a).2) (jd tb ab mb:Nat) (lv:Value) :
 fW.ok fO fM ⟨jd,tb,ab,mb,lv,s.last,d,e,s.live,im2⟩/\∀ x,fW.has ⟨jd,tb,ab,mb,lv,s.last,d,e,s.live,im2⟩ x↔s.has x:=by
 obtain⟨k,f⟩:=f
 have c:∀ j,d.A.gX j↔s.A.gX j:=fun j=>by rw[f];exact Iff.rfl
 have o:d.A.n=s.A.n:=by rw[f]
 have hb:d.A.begun=s.A.begun:=by rw[f]
 refine⟨⟨o.trans h.n,q.trans h.tn,h.en,h.vn,l,r,h.ll.trans hb.symm,fun i hi=>h.slot i ((c i).1 hi),h.E5,fun i hi=>h.ne i ((c i).1 hi),fun id=>?_,hk,fun id i=>?_,fun id=>?_,fun id=>?_,
  fun i hi=>h.seq i ((c i).1 hi),fun i j hi m=>h.FI i j ((c i).1 hi) ((c j).1 m),h.sn⟩,fun x=>?_⟩
 . show e.mem id↔∃ i,d.A.gX i/\_
   rw[p,h.mem]
   exact⟨fun⟨i,a,b⟩=>⟨i,(c i).2 a,b⟩,fun⟨i,a,b⟩=>⟨i,(c i).1 a,b⟩⟩
 . show i∈(gi im2 id).2↔d.A.gX i/\_
   rw[(g id).2,c]
   exact h.inc id i
 . show ((gi im2 id).2).Nodup
   rw[(g id).2]
   exact h.nd id
 . show gZ im2 id=none↔(gi im2 id).2=[]
   rw[(g id).1,(g id).2]
   exact h.empty id
 . exact⟨fun⟨i,a,b⟩=>⟨i,(c i).1 a,b⟩,fun⟨i,a,b⟩=>⟨i,(c i).2 a,b⟩⟩
end Go.Sx
namespace Go.Sx
open Go
def mq(bs:List Int)(x:Int):Nat:=gN bs (x+1)
theorem HB{bs:List Int}{x:Int}:mq bs x<=bs.length:=yU _ _
def jJ(bs:List Int)(l:List Nat):List Int:=(List.range (bs.length+1)).map fun j=>(((l.filter fun s:Nat=>decide (mq bs (s:Int)=j)).length:Nat):Int)
section
variable {bs:List Int} {l:List Nat} {x:Nat} {j:Nat}
theorem s9:(jJ bs l).length=bs.length+1:=by simp[jJ]
theorem AB(h:j<=bs.length):fJ (jJ bs l) j=(((l.filter fun s:Nat=>decide (mq bs (s:Int)=j)).length:Nat):Int):=by
 unfold jJ
 rw[Jt o_]
theorem IS(h:j<=bs.length):0<=fJ (jJ bs l) j/\fJ (jJ bs l) j<=(l.length:Int):=by
 rw[AB h]
 have:=yU (fun s:Nat=>decide (mq bs (s:Int)=j)) l
 omega
theorem PD:jJ bs []=List.replicate (bs.length+1) 0:=by
 unfold jJ
 rw[List.eq_replicate_iff]
 exact⟨s_,fun b hb=>by obtain⟨j,_,rfl⟩:=z7.1 hb;rfl⟩
theorem PC{a:List Int}(b:a.length=bs.length+1)(h:∀ j,j<=bs.length->fJ a j=(((l.filter fun s:Nat=>decide (mq bs (s:Int)=j)).length:Nat):Int)):a=jJ bs l:=by
 apply nS
 intro j
 by_cases hj:j<=bs.length
 . rw[gB (show j<a.length by omega),gB (show j<(jJ bs l).length by rw[s9];omega),h j hj,AB hj]
 . rw[zw o_,zw (by rw[s9];omega)]
theorem YY:fN (jJ bs l) (mq bs (x:Int)) (fun _=>fJ (jJ bs l) (mq bs (x:Int))+1)=jJ bs (l++[x]):=by
 have hb:=HB (bs:=bs) (x:=(x:Int))
 refine PC (by rw[gC,s9]) fun j a=>?_
 rw[iS (by rw[s9];omega),wQ,zq]
 by_cases e:mq bs (x:Int)=j
 . rw[if_pos e,e,AB a]
   simp[e]
 . rw[if_neg e,AB a]
   simp[e]
theorem YX:fN (jJ bs (x :: l)) (mq bs (x:Int)) (fun _=>fJ (jJ bs (x :: l)) (mq bs (x:Int))-1)=jJ bs l:=by
 have hb:=HB (bs:=bs) (x:=(x:Int))
 refine PC (by rw[gC,s9]) fun j a=>?_
 rw[iS (by rw[s9];omega)]
 by_cases e:mq bs (x:Int)=j
 . rw[if_pos e,e,AB a,oQ]
   simp[e]
 . rw[if_neg e,AB a,oQ]
   simp[e]
theorem Ns(hs:bs.Pairwise fun a b=>a<b){k:Nat}{x:Int}(h:∀ p,p<k->fJ bs p<=x)(hk:k<=bs.length)(c:k=bs.length\/x<fJ bs k):k=mq bs x:=by
 refine mG.gN (x:=x+1) ⟨fun p hp=>by have:=h p hp;omega,fun p f d=>?_⟩ hk
 rcases c with rfl|c
 . omega
 . by_cases e:k=p
   . subst e;omega
   . have:=Ae hs (show k<p by omega) d
     omega
end
end Go.Sx
namespace Go.Sx
open Go
theorem Fo.top{xs:List Nd}{F:FT}(h:Fo xs F){j:Nat}(f:j≠0)(d:j<xs.length):∃ r,PR (gT (gQ xs F)) j r:=by
 obtain⟨m,hd⟩:=h.dep d
 clear d
 induction hd with
 | zero=>exact absurd rfl f
 | @step T q j m c n t k s =>
  have hs:∀ v u,nr (gz xs false T) q v u->gT (gQ xs F) v u:=fun v u hp=>⟨(gz xs false T,q),z7.2 ⟨(T,q),c,rfl⟩,hp⟩
  have o:=h.x9 c
  have hm:j∈gz xs false T:=(oq xs false T).mem_iff.2 n
  obtain⟨g, i⟩:∃ z,(gz xs false T).head? = some z:=by
   cases e:gz xs false T with
   | nil=>rw[e]at hm;simp at hm
   | cons z l=>exact⟨z,rfl⟩
  obtain⟨a,b⟩:=PR.ES i o hs hm
  by_cases hq:q=0
  . exact⟨g, a hq⟩
  . obtain⟨r,p⟩:=s hq
    exact⟨r,b r hq p⟩
theorem Fo.aaa{xs:List Nd}{F:FT}(h:Fo xs F){j:Nat}(b:j≠0)(c:j<xs.length):Joined xs F j j:=by
 obtain⟨r,a⟩:=h.top b c
 exact⟨r,a,a⟩
section
variable {xs ys zs:List Nd} {F R R2:FT} {i j:Nat} {a b:Tr}
theorem VP(m:Fo xs F)(n:Joined xs F i j)(h:kI xs F ys i a R)(k:kI (kq ys i) ((.nd a i .nil,0) :: R) zs j b R2)(hs:(fJ zs j).size=2):gz zs false (.nd b j .nil)=[i,j]:=by
 obtain⟨r,hi,o⟩:=n
 have d:=abX h.CA k (h.aaD o hi fun v u q f g=>m.sD f g)
 have hv:=(k.fo.rep (.nd b j .nil,0) s_).2.2.1.size
 have e:=(oq zs false (.nd b j .nil)).length_eq
 have p:=k.seq
 rw[p]at e d ⊢
 have e1:((b.mem++j :: Tr.nil.mem).length:Int)=2:=by rw[<-hv];exact hs
 have c:(gz zs false b++[j]).length=2:=by
  rw[e]
  show (b.mem++j :: Tr.nil.mem).length=2
  omega
 cases hb:gz zs false b with
 | nil=>rw[hb]at c;simp at c
 | cons x l =>
  rw[hb]at c d
  cases l with
  | cons y l=>simp at c
  | nil =>
   simp at d
   subst d
   rfl
theorem aaJ(f:Fo xs F)(h:kI xs F ys i a R)(k:kI (kq ys i) ((.nd a i .nil,0) :: R) zs j b R2)(t:¬ Joined xs F i j)(q:j≠0)(s:j<xs.length)(o:i≠0)(p:i<xs.length):∃ n,R2.Perm ((.nd a i .nil,0) :: n):=by
 rcases k.Db (.nd a i .nil) s_ with ⟨c,_⟩|c
 . exact Rr c
 . exfalso
   rw[h.CA.head]at c
   obtain⟨r,g⟩:=f.top q s
   obtain⟨m, l⟩:=f.top o p
   have w:r≠m := fun e=>t ⟨m, l, e▸g⟩
   obtain⟨x,p2⟩:=h.aaE g l w fun v u z c d=>f.sD c d
   have y:=k.top c (v:=j) (by simp[Tr.mem])
   have e:r=i:=PR.unique (P:=gT (gQ (kq ys i) ((.nd a i .nil,0) :: R))) (fun v u z c d=>h.CA.fo.sD c d) x y
   exact p2 (by rw[e];simp[Tr.mem])
end
theorem gf.lead{xs:List Nd}(h:gf xs){i:Nat}(hi:i<xs.length):gf (kq xs i):=h.iL hi fun x a b c d e=>⟨a,b,c,d,e⟩
theorem uC(xs:List Nd)(i:Nat):(kq xs i).length=xs.length:=gC
end Go.Sx
namespace Go.Sx
open Go
theorem QZ{n k:Nat}(a:n<=1000000):gf (mB n k):=by
 have key:∀ i,i<n+1->fJ (mB n k) i=vV i\/fJ (mB n k) i=uF:=fun i hi=>by
  rw[xI hi]
  split
  . exact .inl rfl
  . exact .inr rfl
 refine⟨fun i hi=>?_,fun i hi=>?_,fun i hi=>?_,fun i hi=>?_,fun i hi=>?_⟩<;>rw[qb]at * <;> rcases key i hi with e|e<;>rw[e]
 all_goals first
  | exact(by decide:gR .i64 0)
  | (simp only[vV,uF];omega)
  | (show (-9223372036854775808:Int)<=0/\(0:Int)<=9223372036854775807;omega)
end Go.Sx
namespace Go.Sx
open Go
def gK(ps:List Int):Nat->Nat->Nat
 | 0,v=>v
 | k+1,v=>gK ps k (fJ ps v).toNat
section
variable {ps:List Int} {k j v:Nat}
theorem tJ(a b:Nat):gK ps (a+b) v=gK ps b (gK ps a v):=by
 induction a generalizing v with
 | zero=>rw[lC];rfl
 | succ a c=>rw[Nat.succ_add];exact c
theorem agN:gK ps 1 v=(fJ ps v).toNat:=rfl
theorem El(hp:jZ ps)(hv:v<ps.length):0<gm ps v↔0<=fJ ps v:=by
 constructor
 . intro h
   rcases Int.lt_or_le (fJ ps v) 0 with a|a
   . rw[Ek a]at h
     omega
   . exact a
 . intro h
   rw[Ai hp hv (i:=(fJ ps v).toNat) o_]
   omega
theorem NY(hp:jZ ps)(hv:v<ps.length)(h:0<=fJ ps v):gm ps v=gm ps (fJ ps v).toNat+1:=Ai hp hv o_
theorem qj(hp:jZ ps)(hv:v<ps.length)(hk:k<=gm ps v):gK ps k v<ps.length/\gm ps (gK ps k v)=gm ps v-k/\v<=gK ps k v:=by
 induction k generalizing v with
 | zero=>exact⟨hv,rfl,zj _⟩
 | succ k d =>
  have a:=(El hp hv).1 o_
  have e:=hp.up v hv
  have f:=NY hp hv a
  obtain⟨b,c,g⟩:=d (v:=(fJ ps v).toNat) o_ o_
  refine⟨b,?_,?_⟩
  . show gm ps (gK ps k (fJ ps v).toNat)=_
    rw[c]
    omega
  . show v<=gK ps k (fJ ps v).toNat
    omega
theorem agO(hp:jZ ps)(hv:v<ps.length)(hk:k<gm ps v):fJ ps (gK ps k v)=((gK ps (k+1) v:Nat):Int):=by
 obtain⟨a,b,_⟩:=qj hp hv (Nat.le_of_lt hk)
 have c:=(El hp a).1 o_
 rw[tJ k 1,agN]
 omega
theorem P7(hp:jZ ps)(hv:v<ps.length):(2 ^ j<=gm ps v->kn ps j v=((gK ps (2 ^ j) v:Nat):Int))/\(gm ps v<2 ^ j->kn ps j v<0):=by
 induction j generalizing v with
 | zero =>
  have a:=El hp hv
  constructor
  . intro h
    show fJ ps v=(((fJ ps v).toNat:Nat):Int)
    have:=a.1 (by rw[Nat.pow_zero]at h;omega)
    omega
  . intro h
    show fJ ps v<0
    have b:¬ 0<gm ps v:=by rw[Nat.pow_zero]at h;omega
    rw[a]at b
    omega
 | succ j c =>
  have e:2 ^ (j+1)=2 ^ j+2 ^ j:=by rw[zdt];omega
  obtain⟨f,g⟩:=c hv
  rw[e]
  constructor
  . intro h
    have a:=f o_
    obtain⟨b,d,_⟩:=qj hp hv (k:=2 ^ j) o_
    rw[EY o_,a,mc,(c b).1 o_,<-tJ]
  . intro h
    rcases wS (gm ps v) (2 ^ j)with a|a
    . have:=g a
      rw[Jb o_]
      exact this
    . have b:=f a
      obtain⟨d,i,_⟩:=qj hp hv (k:=2 ^ j) a
      rw[EY o_,b,mc]
      exact(c d).2 o_
theorem Jc(hp:jZ ps)(hv:v<ps.length)(h:2 ^ j<=gm ps v):fJ (jo ps j) v=((gK ps (2 ^ j) v:Nat):Int):=by
 rw[uA hv]
 exact(P7 hp hv).1 h
theorem P6(hp:jZ ps)(hv:v<ps.length)(h:gm ps v<2 ^ j):fJ (jo ps j) v<0:=by
 rw[uA hv]
 exact(P7 hp hv).2 h
theorem P5(hp:jZ ps)(hm:∀ i,i<ps.length -> -1<=fJ ps i)(hv:v<ps.length) : -1<=kn ps j v:=by
 induction j generalizing v with
 | zero=>exact hm v hv
 | succ j a =>
  have b:=a hv
  have c:=Ja hp hv (k:=j)
  by_cases h:0<=kn ps j v
  . rw[EY h]
    exact a o_
  . rw[Jb h]
    exact b
end
structure oU (ps:List Int) (a b D j s:Nat):Prop where
 le:s<=D
 ne:gK ps s a≠gK ps s b
 Pf:D<s+2 ^ j\/gK ps (s+2 ^ j) a=gK ps (s+2 ^ j) b
section
variable {ps:List Int} {a b D j s:Nat}
theorem oU.start(h:a≠b)(c:D<8192):oU ps a b D 13 0:=⟨mU _,h,.inl (by rw[lC];exact c)⟩
theorem oU.next(hp:jZ ps)(hm:∀ i,i<ps.length -> -1<=fJ ps i)(n:a<ps.length)(hb:b<ps.length)(p:gm ps a=D)(q:gm ps b=D)(h:oU ps a b D (j+1) s) :
 (fJ (jo ps j) (gK ps s a)=fJ (jo ps j) (gK ps s b)->oU ps a b D j s) /\
 (fJ (jo ps j) (gK ps s a)≠fJ (jo ps j) (gK ps s b)->oU ps a b D j (s+2 ^ j)/\fJ (jo ps j) (gK ps s a)=((gK ps (s+2 ^ j) a:Nat):Int)/\fJ (jo ps j) (gK ps s b)=((gK ps (s+2 ^ j) b:Nat):Int)):=by
 have g:=h.le
 obtain⟨a1,a2,_⟩:=qj hp n (k:=s) o_
 obtain⟨b1,b2,_⟩:=qj hp hb (k:=s) o_
 have e:2 ^ (j+1)=2 ^ j+2 ^ j:=by rw[zdt];omega
 rcases wS (D-s) (2 ^ j)with l|l
 . have r:=P6 hp a1 (j:=j) o_
   have nb:=P6 hp b1 (j:=j) o_
   have o:=P5 hp hm a1 (j:=j)
   have mb:=P5 hp hm b1 (j:=j)
   rw[<-uA a1]at o
   rw[<-uA b1]at mb
   exact⟨fun _=>⟨g,h.ne,.inl o_⟩,fun c=>absurd (show fJ (jo ps j) (gK ps s a)=fJ (jo ps j) (gK ps s b) by omega) c⟩
 . have ya:=Jc hp a1 (j:=j) o_
   have d:=Jc hp b1 (j:=j) o_
   rw[<-tJ]at ya d
   refine⟨fun c=>⟨g,h.ne,.inr o_⟩,fun c=>⟨⟨o_,fun m=>c (by rw[ya,d,m]),?_⟩,ya,d⟩⟩
   have f:=h.Pf
   rw[e,<-kQ]at f
   exact f
theorem oU.fin(hp:jZ ps)(e:a<ps.length)(i:gm ps a=D)(h:oU ps a b D 0 s) :
 (fJ ps (gK ps s a)<0->s=D)/\(¬ fJ ps (gK ps s a)<0->s<D/\fJ ps (gK ps s a)=((gK ps (s+1) a:Nat):Int)/\gK ps (s+1) a=gK ps (s+1) b):=by
 have j:=h.le
 obtain⟨a1,a2,_⟩:=qj hp e (k:=s) o_
 have d:=El hp a1
 refine⟨fun f=>?_,fun f=>?_⟩
 . have g:¬ 0<gm ps (gK ps s a):=by rw[d];omega
   omega
 . have g:=d.2 o_
   refine⟨o_,agO hp e o_,?_⟩
   have c:=h.Pf
   rw[Nat.pow_zero]at c
   rcases c with c|c
   . omega
   . exact c
end
theorem H6{ps:List Int}(hp:jZ ps){i:Nat}(hi:i<ps.length):gm ps i+i<ps.length:=by
 induction hm:ps.length-i using Nat.strongRecOn generalizing i with
 | _ m a =>
  rcases hp.up i hi with h|⟨b,c⟩
  . rw[Ek h]
    omega
  . have:=a (ps.length-(fJ ps i).toNat) o_ (i:=(fJ ps i).toNat) o_ rfl
    rw[NY hp hi o_]
    omega
def rX(ps:List Int)(a b z:Nat)(B:Bool):Prop :=
 (B=true/\∃ s t,s<=gm ps a/\t<=gm ps b/\gK ps s a=z/\gK ps t b=z/\∀ c t', c <= gm ps a->t' <= gm ps b->gK ps c a=gK ps t' b->s<=c) \/
 (B=false/\z=0/\∀ s t,s<=gm ps a->t<=gm ps b->gK ps s a≠gK ps t b)
section
variable {ps:List Int} {a b A B D s:Nat}
theorem Jv(hp:jZ ps)(d:a<ps.length)(hb:b<ps.length){s t:Nat}(hs:s<=gm ps a)(e:t<=gm ps b)(h:gK ps s a=gK ps t b) :
 ∃ m,m<=min (gm ps a) (gm ps b)/\s=gm ps a-min (gm ps a) (gm ps b)+m/\gK ps m (gK ps (gm ps a-min (gm ps a) (gm ps b)) a)=gK ps m (gK ps (gm ps b-min (gm ps a) (gm ps b)) b):=by
 have c:=(qj hp d hs).2.1
 have f:=(qj hp hb e).2.1
 rw[h]at c
 refine⟨min (gm ps a) (gm ps b)-(gm ps a-s),o_,o_,?_⟩
 rw[<-tJ,<-tJ,show gm ps a-min (gm ps a) (gm ps b)+(min (gm ps a) (gm ps b)-(gm ps a-s))=s by omega,show gm ps b-min (gm ps a) (gm ps b)+(min (gm ps a) (gm ps b)-(gm ps a-s))=t by omega,h]
theorem Vi(hp:jZ ps)(c:a<ps.length)(hb:b<ps.length)(h:gK ps (gm ps a-min (gm ps a) (gm ps b)) a=gK ps (gm ps b-min (gm ps a) (gm ps b)) b) :
 rX ps a b (gK ps (gm ps a-min (gm ps a) (gm ps b)) a) true :=
 .inl ⟨rfl,_,_,Nat.sub_le _ _,Nat.sub_le _ _,rfl,h.symm,fun g t' hs d e=>by
  obtain⟨m,_,f,_⟩:=Jv hp c hb hs d e
  omega⟩
theorem oU.apart{j:Nat}(h:oU ps A B D j s){m:Nat}(hm:gK ps m A=gK ps m B):s<m:=by
 apply Nat.lt_of_not_le
 intro a
 apply h.ne
 rw[show s=m+(s-m) by omega,tJ,tJ,hm]
theorem Vl(hp:jZ ps)(g:a<ps.length)(hb:b<ps.length)(hA:A=gK ps (gm ps a-min (gm ps a) (gm ps b)) a)(d:B=gK ps (gm ps b-min (gm ps a) (gm ps b)) b)
 (h:oU ps A B (min (gm ps a) (gm ps b)) 0 s) (h1:s<min (gm ps a) (gm ps b)) (f:gK ps (s+1) A=gK ps (s+1) B):rX ps a b (gK ps (s+1) A) true:=by
 refine .inl ⟨rfl,gm ps a-min (gm ps a) (gm ps b)+(s+1),gm ps b-min (gm ps a) (gm ps b)+(s+1),o_,o_,by rw[tJ,<-hA],by rw[tJ,<-d,f],fun k t' hs i e=>?_⟩
 obtain⟨m,_,j,c⟩:=Jv hp g hb hs i e
 rw[<-hA,<-d]at c
 have:=h.apart c
 omega
theorem Vj(hp:jZ ps)(f:a<ps.length)(hb:b<ps.length)(hA:A=gK ps (gm ps a-min (gm ps a) (gm ps b)) a)(d:B=gK ps (gm ps b-min (gm ps a) (gm ps b)) b)
 (h:oU ps A B (min (gm ps a) (gm ps b)) 0 s) (h1:s=min (gm ps a) (gm ps b)):rX ps a b 0 false:=by
 refine .inr ⟨rfl,rfl,fun k t' hs g e=>?_⟩
 obtain⟨m,i,j,c⟩:=Jv hp f hb hs g e
 rw[<-hA,<-d]at c
 have:=h.apart c
 omega
end
end Go.Sx
namespace Go.Sx
open Go
theorem Uj{y:Nat}(h:0<y):(2*y) &&& (2*y-1)=2*(y &&& (y-1)):=by
 apply Nat.eq_of_testBit_eq
 intro i
 rw[Nat.testBit_and]
 cases i with
 | zero=>simp[Nat.testBit_zero]
 | succ i=>rw[Dv,Dv,Dv,show 2*y / 2=y by omega,show (2*y-1) / 2=y-1 by omega,show 2*(y &&& (y-1)) / 2=y &&& (y-1) by omega,Nat.testBit_and]
theorem Uk{m:Nat}:(2*m+1) &&& (2*m+1-1)=2*m:=by
 rw[Nat.add_sub_cancel]
 apply Nat.eq_of_testBit_eq
 intro i
 rw[Nat.testBit_and]
 cases i with
 | zero=>simp[Nat.testBit_zero]
 | succ i=>rw[Dv,Dv,show (2*m+1) / 2=m by omega,show 2*m / 2=m by omega,Bool.and_self]
theorem Ul(k m:Nat):(2 ^ k*(2*m+1)) &&& (2 ^ k*(2*m+1)-1)=2 ^ k*(2*m+1)-2 ^ k:=by
 induction k with
 | zero=>rw[Nat.pow_zero,Nat.one_mul,Uk];omega
 | succ k b =>
  have a:0<2 ^ k*(2*m+1):=Nat.mul_pos (Nat.pow_pos d_) o_
  have e:2 ^ (k+1)*(2*m+1)=2*(2 ^ k*(2*m+1)):=by rw[zdt,Nat.mul_comm (2 ^ k) 2,Nat.mul_assoc]
  rw[e,Uj a,b,zdt]
  omega
theorem HW{x:Nat}(c:x≠0)(h:x<2 ^ 64):x &&& (x-1)=x-2 ^ Lib.ctz 64 x/\2 ^ Lib.ctz 64 x<=x:=by
 obtain⟨m,hm,d⟩:=Lib.ctzFrom_spec 64 x o_ h
 have e:Lib.ctz 64 x=Lib.ctzFrom 64 x:=by simp[Lib.ctz,c]
 rw[e]
 have a:=Ul (Lib.ctzFrom 64 x) m
 rw[<-hm]at a
 refine⟨a,?_⟩
 have b:2 ^ Lib.ctzFrom 64 x*1<=2 ^ Lib.ctzFrom 64 x*(2*m+1):=BD _ o_
 rw[<-hm,rW]at b
 exact b
theorem VH{x:Nat}(a:x≠0)(h:x<8192):Lib.ctz 64 x<13:=by
 have c:=(HW a (nQ h d_)).2
 apply Nat.lt_of_not_le
 intro b
 have d:2 ^ 13<=2 ^ Lib.ctz 64 x:=LN d_ b
 have e:(2:Nat) ^ 13=8192:=by decide
 omega
structure BJ (ps:List Int) (v0 d0 d v:Nat):Prop where
 le:d<=d0
 at_:v=gK ps (d0-d) v0
theorem BJ.next{ps:List Int}{b a d v:Nat}(hp:jZ ps)(hv:b<ps.length)(hd:a<=gm ps b)(i:a<8192)(h:BJ ps b a d v)(e:d≠0) :
 v<ps.length/\fJ (jo ps (Lib.ctz 64 d)) v=((gK ps (2 ^ Lib.ctz 64 d) v:Nat):Int)/\BJ ps b a (d &&& (d-1)) (gK ps (2 ^ Lib.ctz 64 d) v):=by
 have g:=h.le
 obtain⟨c,l⟩:=HW e (Nat.lt_of_le_of_lt g (nQ i d_))
 obtain⟨a1,a2,_⟩:=qj hp hv (k:=a-d) o_
 rw[<-h.at_]at a1 a2
 have f:=Jc hp a1 (j:=Lib.ctz 64 d)
 generalize 2 ^ Lib.ctz 64 d=E at *
 refine⟨a1,f o_,by rw[c];omega,?_⟩
 rw[c,show a-(d-E)=(a-d)+E by omega,tJ,<-h.at_]
end Go.Sx
namespace Go.Sx
open Go
theorem fW.HM{fO fM:Nat}{s:fW}(h:s.ok fO fM)(hA:s.t.A.ok){u v:Int}(g:u≠v){L:List Lv}{K:List Int}(y:L.length<fM)(m:∀ x,s.has x->x∈L)
 (l:∀ x,s.has x->x.u∈K/\x.v∈K) (p:u∈K) (hv:v∈K) (hk:K.length<=fO):s.gJ fO fM u v=0:=by
 have k:((s.A.list s.A.begun).map fun i:Nat=>(i:Int)).length<=(L.map Lv.slot).length:=xL _ _ (by
  rw[List.Nodup,GF]
  exact(s.A.CC _).imp fun {a b} z e=>by omega) fun j o=>by
  obtain⟨i,hi,rfl⟩:=z7.1 o
  have f:=(h.kS.oL i).1 hi
  exact z7.2 ⟨_,m _ ⟨i,f,rfl⟩,h.slot i f⟩
 rw[zn,zn,h.kS.AJ]at k
 obtain⟨c,k1,B,r⟩:=TW.HF h.tok hA g
 have w:c.length<=K.length:=xL c K k1 fun x q=>by
  rcases(r x).1 q with hm|rfl|rfl
  . obtain⟨i,hi,n⟩:=(h.mem x).1 hm
    have d:=l _ ⟨i,hi,rfl⟩
    rcases n with e|e
    . rw[<-e];exact d.1
    . rw[<-e];exact d.2
  . exact p
  . exact hv
 exact fW.Ah g o_ o_
structure WW.Ins (c:WC) (s s2:WW) (x:Lv):Prop where
 has:∃ i:Nat,∀ y,s2.u.has y↔(s.u.has y/\x.t<y.exp)\/y=⟨(i:Int),s.u.last+1,x.u,x.v,x.wt,x.t,x.t+c.win⟩
 last:s2.u.last=s.u.last+1
 now:s2.now=x.t
 added:s2.added=s.added+1
structure WW.T4 (c:WC) (s s2:WW) (x:Lv) (e:Int):Prop where
 step:WW.Step s s2 x
 ins:e=0->WW.Ins c s s2 x
 room:s.u.gJ c.fO c.fM x.u x.v=0->e=0
abbrev cW:WC:=⟨10,4,4,4⟩
abbrev wE(i:Nat)(q u v w t:Int):Lv:=⟨(i:Int),q,u,v,w,t,t+10⟩
section
variable {s s1 s2 s3:WW}
theorem ahs(b:∀ y,¬ s.u.has y)(c:s.u.last=0)(h:WW.Ins cW s s1 ⟨0,0,1,2,5,0,0⟩):(∃ i,∀ y,s1.u.has y↔y=wE i 1 1 2 5 0)/\s1.u.last=1:=by
 obtain⟨⟨i,hi⟩,a,_,_⟩:=h
 rw[c]at a hi
 exact⟨⟨i,fun y=>(hi y).trans ⟨fun h=>h.elim (fun h=>absurd h.1 (b y)) id,.inr⟩⟩,a⟩
theorem aht{i:Nat}(c:∀ y,s1.u.has y↔y=wE i 1 1 2 5 0)(d:s1.u.last=1)(h:WW.Ins cW s1 s2 ⟨0,0,2,3,7,4,0⟩):(∃ j,∀ y,s2.u.has y↔y=wE i 1 1 2 5 0\/y=wE j 2 2 3 7 4)/\s2.u.last=2:=by
 obtain⟨⟨j,b⟩,a,_,_⟩:=h
 rw[d]at a b
 refine⟨⟨j,fun y=>(b y).trans (or_congr_left ?_)⟩,a⟩
 rw[c]
 exact⟨fun h=>h.1,fun h=>⟨h,by rw[h];show (4:Int)<0+10;decide⟩⟩
theorem ahu{i j:Nat}(b:∀ y,s2.u.has y↔y=wE i 1 1 2 5 0\/y=wE j 2 2 3 7 4)(c:s2.u.last=2)(h:WW.Ins cW s2 s3 ⟨0,0,1,3,9,6,0⟩) :
 ∃ k,∀ y,s3.u.has y↔(y=wE i 1 1 2 5 0\/y=wE j 2 2 3 7 4)\/y=wE k 3 1 3 9 6:=by
 obtain⟨⟨k,a⟩,_,_,_⟩:=h
 rw[c]at a
 refine⟨k,fun y=>(a y).trans (or_congr_left ?_)⟩
 rw[b]
 refine⟨fun h=>h.1,fun h=>⟨h,?_⟩⟩
 rcases h with rfl|rfl
 . exact(by decide:(6:Int)<0+10)
 . exact(by decide:(6:Int)<4+10)
def lU:List Ge:=[⟨0,1,5⟩,⟨1,2,7⟩,⟨0,2,9⟩]
theorem ahw{fO fM:Nat}(U:s3.u.ok fO fM){i j k:Nat}(h:∀ y,s3.u.has y↔(y=wE i 1 1 2 5 0\/y=wE j 2 2 3 7 4)\/y=wE k 3 1 3 9 6){K:List Int}{L:List Lv}{es:List Ge}
 (R:s3.u.qx K) (S:s3.u.mW L) (s:pW K L es L.length):K=[1,2,3]/\L.length=3/\es=lU:=by
 have e1:L=[wE i 1 1 2 5 0,wE j 2 2 3 7 4,wE k 3 1 3 9 6]:=S.uniq ⟨fun x=>by rw[h];simp[or_assoc],s_⟩
 have P:K=[1,2,3]:=R.uniq ⟨s_,fun x=>by
  rw[U.mem]
  constructor
  . intro l
    simp only[zb,oB,or_false]at l
    rcases l with rfl|rfl|rfl
    . obtain⟨n,c,e⟩:=(h (wE i 1 1 2 5 0)).2 (.inl (.inl rfl));exact⟨n,c,by rw[e];exact .inl rfl⟩
    . obtain⟨n,c,e⟩:=(h (wE i 1 1 2 5 0)).2 (.inl (.inl rfl));exact⟨n,c,by rw[e];exact .inr rfl⟩
    . obtain⟨n,c,e⟩:=(h (wE j 2 2 3 7 4)).2 (.inl (.inr rfl));exact⟨n,c,by rw[e];exact .inr rfl⟩
  . rintro⟨n,c,m⟩
    rcases(h _).1 ⟨n,c,rfl⟩with (e|e)|e<;>rw[e]at m<;>rcases m with rfl|rfl<;>simp⟩
 subst e1 P
 refine⟨rfl,rfl,?_⟩
 have T:=s.len
 have f:∀ n:Nat,n<3->LS [1,2,3] (fJ [wE i 1 1 2 5 0,wE j 2 2 3 7 4,wE k 3 1 3 9 6] n) (fJ es n):=fun n c=>s.fst n c
 have g:∀ a:Nat,a<3->∀ x:Int,fJ ([1,2,3]:List Int) a=x->(a:Int)+1=x:=fun a m x l=>by
  match a,m with
  | 0,_=>exact l
  | 1,_=>exact l
  | 2,_=>exact l
 match es,T,f with
 | [a,b,d],_,f =>
  have fa:=f 0 d_
  have fb:=f 1 d_
  have Q:=f 2 d_
  obtain⟨a1,a2,a3,t,v⟩:=fa
  obtain⟨b1,b2,b3,A,B⟩:=fb
  obtain⟨F,G,H,I,J⟩:=Q
  have w:=g _ a1 _ a3;have z:=g _ a2 _ t
  have C:=g _ b1 _ b3;have D:=g _ b2 _ A
  have M:=g _ F _ H;have N:=g _ G _ I
  obtain⟨o,p,aw⟩:=a
  obtain⟨q,bv,E⟩:=b
  obtain⟨r,dv,O⟩:=d
  change (o:Int)+1=1 at w;change (p:Int)+1=2 at z;change aw=5 at v
  change (q:Int)+1=2 at C;change (bv:Int)+1=3 at D;change E=7 at B
  change (r:Int)+1=1 at M;change (dv:Int)+1=3 at N;change O=9 at J
  have:o=0:=by omega
  have:p=1:=by omega
  have:q=1:=by omega
  have:bv=2:=by omega
  have:r=0:=by omega
  have:dv=2:=by omega
  subst_vars
  rfl
end
end Go.Sx
namespace Go.Sx
open Go
theorem ahv:nT lU 3 [0,1]:=⟨[0,1,2],⟨List.Perm.refl _,d_⟩,d_⟩
theorem TL:(fU lU 3 [0,1]).p=[3,3,4,4,-1]/\(fU lU 3 [0,1]).h=[0,0,0,5,7]/\(fU lU 3 [0,1]).s=[1,1,1,2,3]:=by decide
theorem Ln{es:List Ge}{n:Nat}{f:List Nat}(h:iA es n f)(a:es=lU)(b:n=3):f=[0,1]:=by
 subst a b
 exact h.f.uniq ahv
section
variable {f:List Nat} (h:iA lU 3 f)
include h
theorem TM:gH lU 3 f (jm (fU lU 3 f).p (fU lU 3 f).h 7 2)=0/\fJ (fU lU 3 f).s (jm (fU lU 3 f).p (fU lU 3 f).h 7 2)=3:=by
 have hp:=h.qP
 obtain rfl:=Ln h rfl rfl
 obtain⟨e1,a,b⟩:=TL
 rw[e1]at hp
 rw[e1,a,b,Ei hp d_ d_ d_]
 show gH lU 3 [0,1] (jm _ _ 7 4)=0/\fJ _ (jm _ _ 7 4)=3
 rw[Eh d_]
 decide
theorem ahy{z:Nat}{B:Bool}(k:rX (fU lU 3 f).p 0 2 z B):B=true/\fJ (fU lU 3 f).h z=7:=by
 have hp:=h.qP
 obtain rfl:=Ln h rfl rfl
 obtain⟨e1,m,q⟩:=TL
 rw[e1]at hp k
 rw[m]
 have d:gm [3,3,4,4,-1] 4=0:=Ek d_
 have l:gm [3,3,4,4,-1] 3=1:=by rw[Ai hp (j:=3) (i:=4) d_ d_,d]
 have b:gm [3,3,4,4,-1] 0=2:=by rw[Ai hp (j:=0) (i:=3) d_ d_,l]
 have c:gm [3,3,4,4,-1] 2=1:=by rw[Ai hp (j:=2) (i:=4) d_ d_,d]
 rcases k with ⟨rfl,s,t,e,g,n,a,_⟩|⟨_,_,o⟩
 . rw[b]at e
   rw[c]at g
   refine⟨rfl,?_⟩
   subst n
   match s,e,t,g,a with
   | 0,_,0,_,a=>exact absurd a d_
   | 0,_,1,_,a=>exact absurd a d_
   | 1,_,0,_,a=>exact absurd a d_
   | 1,_,1,_,a=>exact absurd a d_
   | 2,_,0,_,a=>exact absurd a d_
   | 2,_,1,_,_=>decide
 . exact absurd d_ (o 2 1 (by rw[b];exact zj _) (by rw[c];exact zj _))
theorem ahx:f=[0,1]/\(nE lU 3 f f.length).map (fun m=>(m.a,m.b,m.h))=[(0,1,5),(0,2,7)]:=by
 obtain rfl:=Ln h rfl rfl
 exact⟨rfl,d_⟩
end
end Go.Sx
namespace Go.Sx
open Go
def FA(l:List Oper)(pre:List (List Nat))(mem:List Nat):Bool :=
 CQ l pre &&
 (l.all fun o => !EU o.op) &&
 ((List.range l.length).all fun j=>(l[j]?).all fun o=>o.after.toList.all fun e => !Region.binds .any e||decide (e.on<j)) &&
 ((
  List.range l.length).all fun j=>(List.range j).all fun i =>
  match l[i]?,l[j]? with
  | some x,some y => !(mS l.toArray x y||mS l.toArray y x)||(pre.getD j []).contains i
  | _,_=>true) &&
 (mem.all fun m=>decide (m<l.length))
def okD(pre:List (List Nat))(mem:List Nat)(i:Nat)(d:List Nat):Bool :=
 !(d.contains i)&&mem.all fun m=>(!((pre.getD i []).contains m)||d.contains m)&&(!(d.contains m) || !((pre.getD m []).contains i))
def tf(mem d:List Nat)(i:Nat):List Nat:=mem.filter fun j=>d.contains j||j==i
section
variable {Γ:Type} (P:Program) (ops:Array Oper) (Q:Exit->Act->World->Prop) (n:Nat) (ds:List Deferred) (s0:List (Nat×Value))
def me(l0:List Oper)(pre:List (List Nat))(mem:List Nat)(V:List (Γ->Value))(M:List Nat->Γ->World->Prop):Nat->(Γ->List (Nat×Value))->List Oper->List (Γ->Value)->Prop
 | i,s,o :: l,v :: vs =>
  (
   bif mem.contains i then ∀ d,okD pre mem i d=true->∀ g w,M d g w->mY P ops Q n ds s0 l0 o (s g) (fun v' w' => ∃ a, M (tf mem d i) a w' /\ v' = v a /\ lT pre i g a 0 V) w
   else ∀ d,okD pre mem i d=true->∀ g w,M d g w->mh P ops n o (s g) (v g) (M d g) w) /\
  me l0 pre mem V M (i+1) (fun g=>kz o.dst (v g) (s g)) l vs
 | _,_,[],[]=>True
 | _,_,_,_=>False
end
section
variable {Γ:Type} {r:Option Nat} {P:Program} {Q:Exit->Act->World->Prop} {n:Nat} {ds:List Deferred} {s0:List (Nat×Value)} {l:List Oper} {pre:List (List Nat)} {mem:List Nat} {V:List (Γ->Value)} {M:List Nat->Γ->World->Prop}
theorem me.get{l0:List Oper}:∀ (l:List Oper) (vs:List (Γ->Value)) (b:Nat) (s:Γ->List (Nat×Value)),me P l0.toArray Q n ds s0 l0 pre mem V M b s l vs->l.length=vs.length /\
 ∀ k o,l[k]? = some o->∃ v,vs[k]? = some v /\
  (
   bif mem.contains (b+k)then ∀ d,okD pre mem (b+k) d=true->∀ g w,M d g w->mY P l0.toArray Q n ds s0 l0 o (iN (fun j=>decide (j<b+k)) b l (vs.map (· g)) (s g)) (fun v' w' => ∃ f, M (tf mem d (b+k)) f w' /\ v' = v f /\ lT pre (b+k) g f 0 V) w
   else ∀ d,okD pre mem (b+k) d=true->∀ g w,M d g w->mh P l0.toArray n o (iN (fun j=>decide (j<b+k)) b l (vs.map (· g)) (s g)) (v g) (M d g) w):=by
 intro l
 induction l with
 | nil=>intro vs b s h;cases vs with|nil=>exact⟨rfl,fun k o c=>by simp at c⟩|cons v vs=>exact h.elim
 | cons o l m =>
  intro vs b s h
  cases vs with
  | nil=>exact h.elim
  | cons v vs =>
   obtain⟨q,r⟩:=h
   obtain⟨e,t⟩:=m vs (b+1) _ r
   refine⟨by simp[e],fun k y c=>?_⟩
   cases k with
   | zero =>
    simp at c
    subst c
    refine⟨v,rfl,?_⟩
    have hs:∀ g,iN (fun j=>decide (j<b+0)) b (o :: l) ((v :: vs).map (· g)) (s g)=s g:=by
     intro g
     have key:∀ (l:List Oper) (a:List Value) (i:Nat) (s:List (Nat×Value)),b<=i->iN (fun j=>decide (j<b+0)) i l a s=s:=by
      intro l
      induction l with
      | nil=>intro a i s _;cases a<;>rfl
      | cons o l m=>intro a i s hi;cases a with|nil=>rfl|cons u a=>simp only[iN];rw[show decide (i<b+0)=false by simp;omega];exact m a (i+1) s o_
     exact key _ _ _ _ (zj _)
    simp only[hs]
    exact q
   | succ k =>
    obtain⟨v', x, p⟩:=t k y (by simpa using c)
    refine⟨v', by simpa using x, ?_⟩
    rw[show b+1+k=b+(k+1) by omega]at p
    have hs:∀ g,iN (fun j=>decide (j<b+(k+1))) b (o :: l) ((v :: vs).map (· g)) (s g)=iN (fun j=>decide (j<b+(k+1))) (b+1) l (vs.map (· g)) (kz o.dst (v g) (s g)):=by
     intro g
     simp only[kf,iN]
     rw[show decide (b<b+(k+1))=true by simp]
     rfl
    simp only[hs]
    exact p
theorem contains_filter{S:Nat->Bool}{mem:List Nat}{j:Nat}(a:j∈mem):(mem.filter S).contains j=S j:=by
 cases h:S j with
 | true=>simp[h,a]
 | false=>simp[h]
theorem Q8{S:Nat->Bool}{i:Nat}(d:(mem.all fun m=>decide (m<l.length))=true)(a:∀ k,(pre.getD i []).contains k=true->S k=true)(e:∀ k,k<l.length->(pre.getD k []).contains i=true->S k=false)(b:S i=false):okD pre mem i (mem.filter S)=true:=by
 simp only[okD,lS,Gv,zm]
 refine⟨by simp[b],fun m hm=>⟨?_,?_⟩⟩
 . rw[contains_filter hm]
   cases h:(pre.getD i []).contains m with
   | true=>simp[a m h]
   | false=>rfl
 . rw[contains_filter hm]
   have c:m<l.length:=of_decide_eq_true (zm.1 d m hm)
   cases h:(pre.getD m []).contains i with
   | true=>simp[e m c h]
   | false=>simp
theorem RZ{id:Nat}{w:World}(hm:P.follows .mixedOrders=true)(pre:List (List Nat))(mem:List Nat)(ay:FA l pre mem=true)(V:List (Γ->Value))(M:List Nat->Γ->World->Prop)(g0:Γ)(sE:Γ->List (Nat×Value))
 (h0:M [] g0 w.drew) (hO:me P l.toArray Q n ds s0 l pre mem V M 0 (fun _=>s0) l V) (hE:∀ g,iN (fun _=>true) 0 l (V.map (· g)) s0=sE g)
 (aI:∀ g w', M mem g w' -> Q .normal (Fr n (sE g) ds) w'):WP r P (.region id l.toArray true) Q (Fr n s0 ds) w:=by
 simp only[FA,lS]at ay
 obtain⟨⟨⟨⟨ap,aQ⟩,aF⟩,aH⟩,al⟩:=ay
 obtain⟨aW,av⟩:=me.get (l0:=l) l V 0 (fun _=>s0) hO
 simp only[lC]at av
 -- conflicts are ordered
 have ae:∀ i j x y,l[i]? = some x->l[j]? = some y->i<j->(mS l.toArray x y=true\/mS l.toArray y x=true)->(pre.getD j []).contains i=true:=by
  intro i j x y X hy ak h
  have p:j<l.length:=(ze.1 hy).1
  have z:=zm.1 (zm.1 aH j (zz.2 p)) i (zz.2 ak)
  simp only[X,hy]at z
  rcases uX.1 z with A|A
  . exfalso
    have N:(mS l.toArray x y||mS l.toArray y x)=true:=by
     rcases h with h|h<;>simp[h]
    rw[N]at A
    cases A
  . exact A
 refine wpIn_region_any hm ?_
 have aY:l.toArray.size=l.length:=by simp
 -- the invariant
 let c:Array Bool->Nat->Bool:=fun a i=>a.getD i false
 have aV:∀ (fuel:Nat) (a:Array Bool) (g:Γ) (w:World),a.size=l.length->a.toList.countP (! ·)<=fuel->Down l (c a)->M (mem.filter (c a)) g w ->
  wpAnyIn (FW r) 0 P .any l.toArray Q fuel a (Fr n (iN (c a) 0 l (V.map (· g)) s0) ds) w:=by
  intro fuel
  have fin:∀ (a:Array Bool) (g:Γ) (w:World),a.size=l.length->(∀ i,i<l.length->c a i=true)->M (mem.filter (c a)) g w->Q .normal (Fr n (iN (c a) 0 l (V.map (· g)) s0) ds) w:=by
   intro a g w hs U E
   have e1:mem.filter (c a)=mem:=uY.2 fun m aO => U m (by simpa using of_decide_eq_true (zm.1 al m aO))
   rw[e1]at E
   have e2:Fr n (iN (c a) 0 l (V.map (· g)) s0) ds=Fr n (sE g) ds:=by
    rw[<-hE g]
    refine u6 ds fun t=>?_
    rw[oK,oK]
    congr 1
    refine AH l 0 _ _ rfl fun j o p _=>⟨?_,fun _=>rfl⟩
    rw[lC]
    exact U j (ze.1 p).1
   rw[e2]
   exact aI g w E
  have aB:∀ (a:Array Bool),a.size=l.length->Region.ready .any l.toArray a=[]->∀ i,i<l.length->c a i=true:=by
   intro a hs q i
   induction i using Nat.strongRecOn with
   | _ i ih =>
    intro hi
    cases O:c a i with
    | true=>rfl
    | false =>
     exfalso
     have:i∈Region.ready .any l.toArray a:=by
      rw[mem_ready]
      refine⟨?_,l[i],by simp[hi],fun e C hb=>?_⟩
      . have:i<a.size:=by omega
        simp only[c]at O
        simp[this]at O ⊢
        exact O
      . have z:=zm.1 aF i (zz.2 hi)
        rw[zk hi]at z
        simp only[Option.all_some,zm]at z
        have A:=z e (by simpa using C)
        rw[hb,Dx,Bool.false_or,decide_eq_true_eq]at A
        exact ih e.on A o_
     rw[q]at this
     cases this
  induction fuel with
  | zero =>
   intro a g w hs O hd E
   have hz:∀ x∈a.toList,x=true:=by
    intro x X
    have:=BC.1 (Nat.le_zero.1 O) x X
    simpa using this
   have U:∀ i,i<l.length->c a i=true:=by
    intro i hi
    have aj : i<a.size:=by omega
    simp only[c]
    simp[aj]
    exact hz _ s_
   refine⟨?_,fin a g w hs U E⟩
   cases q:Region.ready .any l.toArray a with
   | nil=>rfl
   | cons i rs =>
    have:i∈Region.ready .any l.toArray a:=by rw[q];simp
    rw[mem_ready]at this
    obtain⟨z,o,ho,_⟩:=this
    have hi:i<l.length:=by simpa using(z6.1 ho).1
    have:=U i hi
    simp only[c]at this
    have aj : i<a.size:=by omega
    simp[aj]at z this
    rw[z]at this
    cases this
  | succ fuel ih =>
   intro a g w hs O hd E
   refine⟨fun q=>fin a g w hs (aB a hs q) E,fun i hi=>?_⟩
   obtain⟨ac,o,ho,ar⟩:=mem_ready.1 hi
   have D : l[i]? = some o:=by simpa using ho
   have W:i<l.length:=(ze.1 D).1
   have Z : i<a.size:=by omega
   have H:c a i=false:=by
    simp only[c];simp[Z]at ac ⊢;exact ac
   -- the set behind it
   let S:=c a
   let J := c (a.setIfInBounds i true)
   have H:S i=false:=H
   have hd:Down l S:=hd
   have G : ∀ j,J j=(S j||j==i):=fun j=>EN a i j Z
   have ai : Down l J := ⟨fun j B p Y e C hb=>by
    rw[G]at Y ⊢
    rcases uX.1 Y with h|h
    . rw[show S e.on=true from hd.closed j B p h e C hb];rfl
    . have:j=i:=by simpa using h
      subst this
      have:B=o:=Option.some.inj (p.symm.trans D)
      subst this
      rw[show S e.on=true from ar e C hb];rfl⟩
   have az:=fun j=>AV (S:=S) ap hd j
   have aP := fun j=>AV (S:=J) ap ai j
   -- what waits for i has not come up
   have R:∀ k,k<l.length->(pre.getD k []).contains i=true->S k=false:=by
    intro k I aM
    cases T:S k with
    | false=>rfl
    | true=>have:=az k T I i aM;rw[H]at this;cases this
   -- what i waits for has
   have ad:∀ k,(pre.getD i []).contains k=true->S k=true:=by
    intro k I
    have z:=aP i (by rw[G];simp) W k I
    rw[G]at z
    rcases uX.1 z with h|h
    . exact h
    . exfalso
      have e:k=i:=by simpa using h
      subst e
      have:=R k W I
      -- k is in fP own list: then it has come up before itself
      have A:=zm.1 (zm.1 ap k (zz.2 W)) k (by simpa using I)
      rw[zk W]at A
      simp only[Option.any_some,Du,lS,decide_eq_true_eq,zB,beq_iff_eq]at A
      obtain⟨e,C,⟨hb,aX⟩,N⟩:=A
      have aE:S e.on=true:=by
       have:l[k]=o:=by rw[zk W]at D; exact Option.some.inj D
       rw[this]at C
       exact ar e (by simpa using C) hb
      rcases N with N|N
      . omega
      . have:=az e.on aE o_ k (by simpa using N)
        rw[H]at this;cases this
   -- the slots that it looks at hold what they hold in the order of the text
   have agree:∀ t,t∈o.looksAt l.toArray->look (iN S 0 l (V.map (· g)) s0) t=look (iN (fun j=>decide (j<i)) 0 l (V.map (· g)) s0) t:=by
    intro t F
    rw[oK,oK]
    congr 1
    refine AH l 0 _ _ rfl fun j B p L=>⟨?_,fun _=>rfl⟩
    rw[lC]
    have aA:mS l.toArray B o=true:=by simp[mS,L,F]
    rcases Nat.lt_trichotomy j i with h|h|h
    . simp[h,ad j (ae j i B o p D h (.inl aA))]
    . subst h;simp[H,S]
    . have:=R j (ze.1 p).1 (ae i j o B D p h (.inr aA))
      simp[this];omega
   have au:execOp (ev n (iN S 0 l (V.map (· g)) s0)) o=execOp (ev n (iN (fun j=>decide (j<i)) 0 l (V.map (· g)) s0)) o:=by
    refine execOp_congr o (fun cs b e=>?_) fun x X=>?_
    . have:=zm.1 aQ o (zg D)
      rw[e]at this
      simp[EU]at this
    . cases x with
      | tmp t =>
       simp only[ev]
       rw[agree t (yW _ (Gu.2 ⟨.tmp t,by simpa using X,rfl⟩))]
      | _=>rfl
   have ab:gA l.toArray n (iN S 0 l (V.map (· g)) s0) o.guard=gA l.toArray n (iN (fun j=>decide (j<i)) 0 l (V.map (· g)) s0) o.guard:=by
    cases hg:o.guard with
    | none=>rfl
    | some gd =>
     obtain⟨jg,aZ⟩:=gd
     simp only[gA]
     have e:vC l.toArray.toList jg=(l.toArray[jg]?).bind (·.dst):=by rw[H8];simp
     rw[e]
     cases hdg:(l.toArray[jg]?).bind (·.dst)with
     | none=>rfl
     | some d =>
      simp only[ev]
      rw[agree d (yV _ (by rw[hg];simp only;rw[hdg];simp))]
   -- the frame behind it
   have aq:(a.setIfInBounds i true).toList.countP (! ·)<=fuel:=by
    have:(a.setIfInBounds i true).toList.countP (! ·)+1<=a.toList.countP (! ·):=by
     rw[Ly]
     have aw:i<a.toList.length:=by simpa using Z
     have aJ:a.toList[i]=false:=by simp[Z]at ac;simpa using ac
     have e:=uW i a.toList
     have e2:a.toList=a.toList.take i++false :: a.toList.drop (i+1):=by
      conv=>lhs;rw[<-e,yS aw,aJ]
     have e3:a.toList.set i true=a.toList.take i++true :: a.toList.drop (i+1):=by
      rw[Lw,if_pos aw]
     rw[e3]
     conv=>rhs;rw[e2]
     simp[List.countP_append,wK]
     omega
    omega
   have frame:∀ (s : Γ) (v:Γ->Value),V[i]? = some v->(∀ k u,V[k]? = some u->S k=true->u s = u g) ->
    (Fr n (iN S 0 l (V.map (· g)) s0) ds).put o.dst (v s)=Fr n (iN J 0 l (V.map (· s)) s0) ds:=by
    intro s v hv aR
    rw[zH]
    refine u6 ds fun t=>?_
    rw[Jn,oK,oK]
    by_cases hdt:o.dst=some t
    . rw[if_pos hdt]
      have:mP J t 0 l (V.map (· s))=some (v s):=by
       refine Qk l 0 i _ o (v s) D hdt (by simp[hv]) (by rw[lC,G];simp) fun j B ak p L=>?_
       rw[lC,G]
       have aU:mS l.toArray o B=true:=by simp[mS,hdt,L]
       have:=R j (ze.1 p).1 (ae i j o B D p ak (.inl aU))
       simp[this];omega
      rw[this];rfl
    . rw[if_neg hdt]
      congr 1
      refine AH l 0 _ _ s_ fun j B p L=>?_
      rw[lC,G]
      have aL:¬ j=i:=by
       rintro rfl
       have:B=o:=Option.some.inj (p.symm.trans D)
       subst this
       exact hdt L
      refine⟨by simp[aL],fun Y=>?_⟩
      have ax:j<V.length:=by have:=(ze.1 p).1;omega
      simp only[lK,zk ax,wM]
      rw[aR j _ (zk ax) Y]
   obtain⟨v,hv,aa⟩:=av i o D
   unfold wpOpIn
   rw[ho]
   simp only
   by_cases himem:i∈mem
   . -- an operation on memory
     have ah:mem.contains i=true:=by simpa using himem
     rw[ah]at aa
     have ao:okD pre mem i (mem.filter S)=true:=Q8 al ad R H
     have aK:tf mem (mem.filter S) i=mem.filter J := by
      unfold tf
      refine yR fun j p=>?_
      rw[G]
      have:(mem.filter S).contains j=S j:=contains_filter p
      rw[this]
     have aD : M (mem.filter S) g w:=E
     have next:∀ v' w', (∃ s, M (tf mem (mem.filter S) i) s w' /\ v' = v s /\ lT pre i g s 0 V) ->
      wpAnyIn (FW r) 0 P .any l.toArray Q fuel (a.setIfInBounds i true) ((Fr n (iN S 0 l (V.map (· g)) s0) ds).put o.dst v') w' := by
      rintro v' w' ⟨s, af,rfl,aS⟩
      have:=ih (a.setIfInBounds i true) s w' (by simpa using hs) aq ai (by rw[show mem.filter (c (a.setIfInBounds i true))=tf mem (mem.filter S) i from aK.symm];exact af)
      rw[frame s v hv ?_]
      . exact this
      . intro k u I T
        refine lT.get V 0 aS k u I ?_
        rw[lC]
        have aN:k<l.length:=by have:=(ze.1 I).1;omega
        have z:(pre.getD k []).contains i=false:=by
         cases h:(pre.getD k []).contains i with
         | false=>rfl
         | true=>have:=R k aN h;rw[T]at this;cases this
        have A:¬ k=i:=by rintro rfl;rw[H]at T;cases T
        rw[z];simp[A]
     rcases aa _ ao g w aD with ⟨F,am,ag⟩|⟨F,K⟩
     . rw[qU,ab,F,if_pos rfl]
       refine⟨fun _ _=>trivial,?_⟩
       rw[semAt_eq (vX am),oV, au]
       rcases ag with ⟨v', w', q,K⟩|⟨w', q,K⟩|⟨f,args,q,hC⟩
       . rw[q];exact next v' w' K
       . rw[q];exact next undef w' K
       . rw[q]
         refine⟨fun h=>by simp[FW]at h,uq.2 (Calls.mono hC ?_)⟩
         intro e w' C
         cases e with
         | returned v' => exact next v' w' C
         | panicked ch =>
          refine C _ fun t aT => ?_
          rw[oK,Cr l 0 _ (fun j B p L=>absurd L (aT B (zg p)))]
          rfl
         | outgrown=>exact C
     . rw[qU,ab,F]
       exact⟨fun _ _=>trivial,next undef w K⟩
   . have ah:mem.contains i=false:=by simpa using himem
     rw[ah]at aa
     have aG : mem.filter J = mem.filter S:=by
      refine yR fun j p=>?_
      rw[G]
      have:¬ j=i:=by rintro rfl;exact himem p
      simp[this]
     have ao:okD pre mem i (mem.filter S)=true:=Q8 al ad R H
     have next:∀ w', M (mem.filter S) g w' -> wpAnyIn (FW r) 0 P .any l.toArray Q fuel (a.setIfInBounds i true) ((Fr n (iN S 0 l (V.map (· g)) s0) ds).put o.dst (v g)) w' := by
      intro w' af
      have:=ih (a.setIfInBounds i true) g w' (by simpa using hs) aq ai (by rw[show mem.filter (c (a.setIfInBounds i true))=mem.filter S from aG];exact af)
      rw[frame g v hv (fun _ _ _ _=>rfl)]
      exact this
     rcases aa _ ao g w E with ⟨F,am,ag⟩|⟨F,K⟩
     . rw[qU,ab,F,if_pos rfl]
       refine⟨fun _ _=>trivial,?_⟩
       rw[semAt_eq (vX am),oV, au]
       rcases ag with q|⟨f,args,q,hC⟩
       . rw[q];exact next w E
       . rw[q]
         refine⟨fun h=>by simp[FW]at h,uq.2 (Calls.mono hC ?_)⟩
         rintro e w' ⟨v', rfl,rfl,aC⟩
         exact next w' aC
     . rw[qU,ab,F]
       exact⟨fun _ _=>trivial,by rw[<-K];exact next w E⟩
 have e0:Fr n s0 ds=Fr n (iN (c (Array.replicate l.toArray.size false)) 0 l (V.map (· g0)) s0) ds:=by
  refine u6 ds fun t=>?_
  rw[oK,Cr l 0 _ (fun j o _ _=>?_)]
  . rfl
  . simp only[c];exact s8 _ _
 have hz:mem.filter (c (Array.replicate l.toArray.size false))=[]:=LA.2 fun j _=>by
  simp only[c];rw[s8];simp
 rw[e0]
 refine aV _ _ g0 _ s_ (kg LG s_) ⟨fun j o _ h=>?_⟩ (by rw[hz];exact h0)
 exfalso
 simp only[c]at h
 rw[s8]at h
 cases h
end
def Ck:List Nat->List Nat->Bool
 | [],[]=>true
 | a :: l,b :: m=>Nat.beq a b&&Ck l m
 | _,_=>false
theorem O6:∀ {l m:List Nat},Ck l m=true->l=m
 | [],[],_=>rfl
 | a :: l,b :: m,h=>by
  simp only[Ck,lS]at h
  rw[BA h.1,O6 h.2]
 | [],_ :: _,h=>by cases h
 | _ :: _,[],h=>by cases h
def uE{α:Type}:List (List Nat×α)->List Nat->Option α
 | [],_=>none
 | (k,a) :: l,d=>bif Ck k d then some a else uE l d
section
variable {Γ:Type} {r:Option Nat} {P:Program} {ops:Array Oper} {Q:Exit->Act->World->Prop} {n:Nat} {ds:List Deferred} {s0:List (Nat×Value)} {l0 l:List Oper} {pre:List (List Nat)} {mem:List Nat} {V vs:List (Γ->Value)} {v:Γ->Value}
variable {bs:List (World×List Nat)} {Ls:List (List Nat×((Γ->List fT)×(Γ->World->Prop)))} {i:Nat} {s:Γ->List (Nat×Value)} {o:Oper} {L L' : Γ->List fT} {F F' : Γ->World->Prop}
def pV(bs:List (World×List Nat))(Ls:List (List Nat×((Γ->List fT)×(Γ->World->Prop))))(d:List Nat)(g:Γ)(w:World):Prop :=
 match uE Ls d with
 | some (L,F)=>St bs (L g) w/\F g w
 | none=>False
def zF(C:List Nat->(Γ->List fT)->(Γ->World->Prop)->Prop):List (List Nat×((Γ->List fT)×(Γ->World->Prop)))->Prop
 | []=>True
 | (d,L,F) :: r=>C d L F/\zF C r
theorem zF.get{C:List Nat->(Γ->List fT)->(Γ->World->Prop)->Prop}:∀ {Ls:List (List Nat×((Γ->List fT)×(Γ->World->Prop)))} {d:List Nat},zF C Ls->uE Ls d=some (L,F)->C d L F
 | [],_,_,h=>by cases h
 | (k,L0,F0) :: r,d,hf,h=>by
  simp only[uE]at h
  cases hk:Ck k d with
  | true =>
   rw[hk]at h
   simp only[cond_true,Option.some.injEq,Prod.mk.injEq]at h
   obtain⟨rfl,rfl⟩:=h
   rw[<-O6 hk]
   exact hf.1
  | false =>
   rw[hk]at h
   exact zF.get hf.2 h
theorem JP:me P ops Q n ds s0 l0 pre mem V (pV bs Ls) i s [] []:=trivial
theorem k8(hm:mem.contains i=false)(h:∀ g w C,mh P ops n o (s g) (v g) C w)(K:me P ops Q n ds s0 l0 pre mem V (pV bs Ls) (i+1) (fun g=>kz o.dst (v g) (s g)) l vs) :
 me P ops Q n ds s0 l0 pre mem V (pV bs Ls) i s (o :: l) (v :: vs):=by
 refine⟨?_,K⟩
 rw[hm]
 intro d _ g w e
 rcases h g w (pV bs Ls d g)with ⟨b,c,a|a⟩|a
 . exact .inl ⟨b,c,.inl a⟩
 . exact .inl ⟨b,c,.inr a⟩
 . exact .inr a
theorem xN(hm:mem.contains i=false)(h:zF (fun d L F=>bif okD pre mem i d then ∀ g w,St bs (L g) w->F g w->mh P ops n o (s g) (v g) (fun w' => St bs (L g) w' /\ F g w') w else True) Ls)
 (K:me P ops Q n ds s0 l0 pre mem V (pV bs Ls) (i+1) (fun g=>kz o.dst (v g) (s g)) l vs):me P ops Q n ds s0 l0 pre mem V (pV bs Ls) i s (o :: l) (v :: vs):=by
 refine⟨?_,K⟩
 rw[hm]
 intro d hd g w a
 unfold pV at a ⊢
 cases hl:uE Ls d with
 | none=>rw[hl]at a;exact a.elim
 | some p =>
  obtain⟨L,F⟩:=p
  rw[hl]at a
  have b:=h.get hl
  simp only[hd,cond_true]at b
  exact b g w a.1 a.2
theorem uJ(hm:mem.contains i=true)
 (h:zF (fun d L F=>bif okD pre mem i d then ∃ L' F', uE Ls (tf mem d i)=some (L', F')/\∀ g w,St bs (L g) w->F g w->mY P ops Q n ds s0 l0 o (s g) (fun v' w' => ∃ b, (St bs (L' b) w' /\ F' b w')/\v' = v b /\ lT pre i g b 0 V) w else True) Ls)
 (K:me P ops Q n ds s0 l0 pre mem V (pV bs Ls) (i+1) (fun g=>kz o.dst (v g) (s g)) l vs):me P ops Q n ds s0 l0 pre mem V (pV bs Ls) i s (o :: l) (v :: vs):=by
 refine⟨?_,K⟩
 rw[hm]
 intro d hd g w a
 unfold pV at a ⊢
 cases hl:uE Ls d with
 | none=>rw[hl]at a;exact a.elim
 | some p =>
  obtain⟨L,F⟩:=p
  rw[hl]at a
  have c:=h.get hl
  simp only[hd,cond_true]at c
  obtain⟨L', F', f, e⟩:=c
  rw[f]
  exact e g w a.1 a.2
theorem Kg{id:Nat}{w:World}(hm:P.follows .mixedOrders=true)(pre:List (List Nat))(mem:List Nat)(j:FA l pre mem=true)(V:List (Γ->Value))(Ls:List (List Nat×((Γ->List fT)×(Γ->World->Prop))))(a:Γ)
 (sE:Γ->List (Nat×Value)) (d:uE Ls []=some (L,F)) (k:St bs (L a) w) (c:∀ w', gw [] w w' -> F a w') (f:me P l.toArray Q n ds s0 l pre mem V (pV bs Ls) 0 (fun _=>s0) l V)
 (b:∀ g,iN (fun _=>true) 0 l (V.map (· g)) s0=sE g) (e:uE Ls mem=some (L', F'))
 (i:∀ g w', St bs (L' g) w' -> F' g w' -> Q .normal (Fr n (sE g) ds) w'):WP r P (.region id l.toArray true) Q (Fr n s0 ds) w :=
 RZ hm pre mem j V (pV bs Ls) a sE (by unfold pV;rw[d];exact⟨k.grow (gw.drew [] w),c _ (gw.drew [] w)⟩) f b fun g w' h=>by
  unfold pV at h
  rw[e]at h
  exact i g w' h.1 h.2
end
end Go.Sx
namespace Go.Sx
open Go
def rL(g:Nat->Nat)(i b:Nat):Nat->Nat:=fun j=>if j=i then b else g j
def qN(i6:List (Nat×(Nat->fT)))(c:Nat->Bool)(g:Nat->Nat):List fT:=i6.filterMap fun p=>if c p.1 then some (p.2 (g p.1))else none
theorem QL{g:Nat->Nat}:∀ i6:List (Nat×(Nat->fT)),qN i6 (fun _=>false) g=[]
 | []=>rfl
 | p :: i6=>by rw[qN,oP];exact QL i6
theorem QJ{c:Nat->Bool}{g:Nat->Nat}:∀ i6:List (Nat×(Nat->fT)),(∀ p∈i6,c p.1=true)->qN i6 c g=i6.map fun p=>p.2 (g p.1)
 | [],_=>rfl
 | p :: i6,h=>by
  have:=QJ i6 (g:=g) fun x a=>h x (by simp[a])
  unfold qN at *
  rw[oP,h p s_]
  simp[this]
theorem QM{c c' : Nat->Bool}{g:Nat->Nat}{i b:Nat}:∀ i6:List (Nat×(Nat->fT)),(∀ p∈i6,p.1≠i)->(∀ p∈i6,c' p.1=(c p.1||p.1==i))->qN i6 c' (rL g i b)=qN i6 c g
 | [],_,_=>rfl
 | p :: i6,h,hc=>by
  have e:=QM (g:=g) (b:=b) i6 (fun x a=>h x (by simp[a])) (fun x a=>hc x (by simp[a]))
  have d:=h p s_
  have f:c' p.1=c p.1:=by rw[hc p s_];simp[d]
  unfold qN at *
  rw[oP,oP,e,f]
  simp[rL,d]
theorem QK{c c' : Nat->Bool}{g:Nat->Nat}{i b:Nat}{R:Nat->fT}:∀ i6:List (Nat×(Nat->fT)),(i,R)∈i6->(i6.map (·.1)).Nodup->c i=false->(∀ p∈i6,c' p.1=(c p.1||p.1==i))->(R b :: qN i6 c g).Perm (qN i6 c' (rL g i b))
 | [],h,_,_,_=>by simp at h
 | p :: i6,h,hn,hi,hc=>by
  rw[kf,zt]at hn
  rcases zb.1 h with rfl|h
  . have d:=QM (g:=g) (b:=b) i6 (fun x a e=>hn.1 (by rw[show (i,R).1=x.1 from e.symm];exact List.mem_map_of_mem a)) (fun x a=>hc x (by simp[a]))
    have j:c' i=true:=by rw[hc (i,R) s_];simp
    unfold qN at *
    rw[oP,oP,d]
    simp only[hi,j]
    simp[rL]
  . have d:=QK (g:=g) (b:=b) i6 h hn.2 hi fun x a=>hc x (by simp[a])
    have k:p.1≠i:=fun e=>hn.1 (e▸List.mem_map_of_mem (f:=(·.1)) h)
    have j:c' p.1=c p.1:=by rw[hc p s_];simp[k]
    unfold qN at *
    rw[oP,oP,j]
    cases c p.1 with
    | false=>simpa using d
    | true =>
     simp only[if_true,rL,k,if_false]
     exact(List.Perm.swap _ _ _).trans (d.cons _)
section
variable {r:Option Nat} {P:Program} {ops:Array Oper} {Q:Exit->Act->World->Prop} {n:Nat} {ds:List Deferred} {s0:List (Nat×Value)} {l0 l:List Oper} {pre:List (List Nat)} {mem:List Nat} {V vs:List ((Nat->Nat)->Value)} {v:(Nat->Nat)->Value}
variable {bs:List (World×List Nat)} {i q:Nat} {s:(Nat->Nat)->List (Nat×Value)} {o:Oper} {L0:List fT} {LE:(Nat->Nat)->List fT} {i6:List (Nat×(Nat->fT))} {R:Nat->fT} {val:Nat->Value}
def qZ(bs:List (World×List Nat))(i6:List (Nat×(Nat->fT)))(L0:List fT)(q:Nat)(LE:(Nat->Nat)->List fT)(d:List Nat)(g:Nat->Nat)(w:World):Prop :=
 if d.contains q=true then St bs (LE g) w else St bs (qN i6 (fun j=>d.contains j) g++L0) w
def AK(pre:List (List Nat))(mem:List Nat)(i6:List (Nat×(Nat->fT)))(q:Nat):Prop:=(i6.map (·.1)).Nodup/\(∀ p∈i6,mem.contains p.1=true/\(pre.getD q []).contains p.1=true/\p.1≠q)/\mem.contains q=true
theorem JC{is:List Nat}(h:i6.map (·.1)=is)(h1:(decide is.Nodup&&is.all (fun j=>mem.contains j&&(pre.getD q []).contains j && !(j==q))&&mem.contains q)=true):AK pre mem i6 q:=by
 simp only[lS,decide_eq_true_eq,zm]at h1
 refine⟨h▸h1.1.1,fun p hp=>?_,h1.2⟩
 have:=h1.1.2 p.1 (h▸List.mem_map_of_mem hp)
 exact⟨this.1.1,this.1.2,by simpa using this.2⟩
theorem JR{M:List Nat->(Nat->Nat)->World->Prop}:me P ops Q n ds s0 l0 pre mem V M i s [] []:=trivial
theorem mC{M:List Nat->(Nat->Nat)->World->Prop}(hm:mem.contains i=false)(h:∀ g w C,mh P ops n o (s g) (v g) C w)(K:me P ops Q n ds s0 l0 pre mem V M (i+1) (fun g=>kz o.dst (v g) (s g)) l vs) :
 me P ops Q n ds s0 l0 pre mem V M i s (o :: l) (v :: vs):=by
 refine⟨?_,K⟩
 rw[hm]
 intro d _ g w e
 rcases h g w (M d g)with ⟨b,c,a|a⟩|a
 . exact .inl ⟨b,c,.inl a⟩
 . exact .inl ⟨b,c,.inr a⟩
 . exact .inr a
theorem I7{d:List Nat}{j:Nat}(h:mem.contains j=true):(tf mem d i).contains j=(d.contains j||j==i):=by
 unfold tf
 exact contains_filter (S:=fun j=>d.contains j||j==i) (by simpa using h)
theorem JT{d:List Nat}{m:Nat}(h:okD pre mem i d=true)(hm:mem.contains m=true):d.contains i=false/\((pre.getD i []).contains m=true->d.contains m=true)/\((pre.getD m []).contains i=true->d.contains m=false):=by
 unfold okD at h
 simp only[lS,zm,zB,Gv]at h
 have b:=h.2 m (by simpa using hm)
 refine⟨h.1,fun e=>?_,fun e=>?_⟩
 . rcases b.1 with a|a
   . rw[e]at a;cases a
   . exact a
 . rcases b.2 with a|a
   . exact a
   . rw[e]at a;cases a
theorem sB(hk:AK pre mem i6 q)(hp:(i,R)∈i6)(hv:∀ g b,v (rL g i b)=val b)(h:∀ g w L,St bs L w->∀ N,(∀ b w', St bs (R b :: L) w' -> N (val b) w')->mY P ops Q n ds s0 l0 o (s g) N w)
 (hs:∀ g b,lT pre i g (rL g i b) 0 V) (K:me P ops Q n ds s0 l0 pre mem V (qZ bs i6 L0 q LE) (i+1) (fun g=>kz o.dst (v g) (s g)) l vs) :
 me P ops Q n ds s0 l0 pre mem V (qZ bs i6 L0 q LE) i s (o :: l) (v :: vs):=by
 obtain⟨m,r,t⟩:=hk.2.1 _ hp
 refine⟨?_,K⟩
 rw[m]
 intro d hd g w a
 have f:=JT hd hk.2.2
 have k:=f.2.2 r
 unfold qZ at a
 rw[if_neg (by rw[k];decide)]at a
 refine h g w _ a _ fun b w' x => ⟨rL g i b,?_,(hv g b).symm,hs g b⟩
 unfold qZ
 rw[if_neg (by rw[I7 hk.2.2,k];simp;exact fun e=>t e.symm)]
 exact x.perm ((QK (c:=fun j=>d.contains j) (c' := fun j=>(tf mem d i).contains j) i6 hp hk.1 f.1 fun p u => I7 (hk.2.1 p u).1).append_right L0)
theorem JQ(hk:AK pre mem i6 q)(hv:∀ g b,v (rL g q b)=val b)(h:∀ g w,St bs ((i6.map fun p=>p.2 (g p.1))++L0) w->∀ N,(∀ b w', St bs (LE (rL g q b)) w' -> N (val b) w')->mY P ops Q n ds s0 l0 o (s g) N w)
 (hs:∀ g b,lT pre q g (rL g q b) 0 V) (K:me P ops Q n ds s0 l0 pre mem V (qZ bs i6 L0 q LE) (q+1) (fun g=>kz o.dst (v g) (s g)) l vs) :
 me P ops Q n ds s0 l0 pre mem V (qZ bs i6 L0 q LE) q s (o :: l) (v :: vs):=by
 refine⟨?_,K⟩
 rw[hk.2.2]
 intro d hd g w a
 have e:=(JT hd hk.2.2).1
 unfold qZ at a
 rw[if_neg (by rw[e];decide),QJ (c:=fun j=>d.contains j) i6 fun p hp=>(JT hd (hk.2.1 p hp).1).2.1 (hk.2.1 p hp).2.1]at a
 refine h g w a _ fun b w' f => ⟨rL g q b,?_,(hv g b).symm,hs g b⟩
 unfold qZ
 rw[if_pos (by rw[I7 hk.2.2];simp)]
 exact f
theorem Kf{id:Nat}{w:World}(hm:P.follows .mixedOrders=true)(pre:List (List Nat))(mem:List Nat)(i6:List (Nat×(Nat->fT)))(q:Nat)(e:FA l pre mem=true)(f:mem.contains q=true)(V:List ((Nat->Nat)->Value))(LE:(Nat->Nat)->List fT)(sE:(Nat->Nat)->List (Nat×Value))
 (i:St bs L0 w) (c:me P l.toArray Q n ds s0 l pre mem V (qZ bs i6 L0 q LE) 0 (fun _=>s0) l V) (b:∀ g,iN (fun _=>true) 0 l (V.map (· g)) s0=sE g)
 (d:∀ g w', St bs (LE g) w' -> Q .normal (Fr n (sE g) ds) w'):WP r P (.region id l.toArray true) Q (Fr n s0 ds) w :=
 RZ hm pre mem e V (qZ bs i6 L0 q LE) (fun _=>0) sE (by unfold qZ;rw[if_neg s_];have a:qN i6 (fun j=>([]:List Nat).contains j) (fun _=>0)=[]:=QL (g:=fun _=>0) i6;rw[a];exact i.grow (gw.drew [] w)) c b fun g w' h=>by
  unfold qZ at h
  rw[if_pos f]at h
  exact d g w' h
end
end Go.Sx
namespace Go.Sx
open Go
def Gw(w w' : World):Prop:=∃ q os,w' = Go.Sort.grow (w.drewN q) os
theorem Gw.drew(w:World):Gw w w.drew:=⟨1,#[],by rw[Go.Sort.grow_empty];rfl⟩
theorem Gw.alloc{w w' : World}(h:Gw w w')(o:Obj):Gw w (w'.alloc o):=by
 obtain⟨q,os,rfl⟩:=h
 exact⟨q,os ++ #[o],by rw[Go.Sort.alloc_eq_grow,Go.Sort.grow_grow]⟩
section
variable {Γ:Type} {r:Option Nat} {P:Program} {ops:Array Oper} {Q:Exit->Act->World->Prop} {n:Nat} {ds:List Deferred} {s0 s:List (Nat×Value)} {l:List Oper} {bs:List (World×List Nat)} {L:List fT} {w w0:World} {dd:Option Nat} {t e:TypeId} {ty:TypeId} {pos:String} {af:Array Edge} {g:Option (Nat×Bool)} {Nx:Value->World->Prop} {z:Value} {sz by_:Nat}
variable {L0 L' : Γ->List fT} {F F' : Γ->World->Prop}
theorem adh{id:Nat}{w:World}(hm:P.follows .mixedOrders=true)(pre:List (List Nat))(mem:List Nat)(j:AZ l pre mem=true)(V:List (Γ->Value))(Ls:List ((Γ->List fT)×(Γ->World->Prop)))(a:Γ)
 (sE:Γ->List (Nat×Value)) (e:Ls[0]? = some (L0,F)) (k:St bs (L0 a) w) (d:F a w.drew) (f:lD P l.toArray Q n ds s0 l pre mem V (js bs Ls) 0 (fun _=>s0) l V)
 (c:∀ g,iN (fun _=>true) 0 l (V.map (· g)) s0=sE g) (b:Ls[mem.length]? = some (L', F'))
 (i:∀ g w', St bs (L' g) w' -> F' g w' -> Q .normal (Fr n (sE g) ds) w'):WP r P (.region id l.toArray true) Q (Fr n s0 ds) w :=
 Ke hm pre mem j V (js bs Ls) a sE ((js.at e).2 ⟨k.grow (gw.drew [] w),d⟩) f c fun g w' h=>i g w' ((js.at b).1 h).1 ((js.at b).1 h).2
theorem aa0{len:Nat}{ps:List (Nat×Operand)}{vs cs:List Value}(d:Gw w0 w)(h:gA ops n s g=true)(hp:ps.map (fun q=>(q.1,ev n s q.2))=idx 0 vs)(k:P.underlying t=some (.slice e))(hi:TI P e sz by_ z)
 (i:vs.length=len) (hv:∀ v∈vs,v.cells.size=sz) (hcs:vs.flatMap (·.cells.toList)=cs) (c:Nat.ble (len*sz) 16777216=true) (a:Nat.ble len 16777216=true) (j:St bs L w)
 (K:∀ b w', St bs (row (.slice (some ⟨b,0,none⟩) len len) e sz len cs :: L) w' -> Gw w0 w' -> Nx (.slice (some ⟨b,0,none⟩) len len) w') :
 mY P ops Q n ds s0 l ⟨dd,.buildSlice t len ps.toArray,ty,pos,af,g⟩ s Nx w:=by
 subst i hcs
 have f:(vs.flatMap (·.cells.toList)).length=vs.length*sz:=by
  clear hp c a K
  induction vs with
  | nil=>simp
  | cons v vs o=>simp only[zx,zq,zd,rR,hv v s_,o (fun u m=>hv u (by simp[m])),rV];omega
 refine Fh h rfl (Nw hp k hi ?_ (oO c)) (K _ _ (QY j e sz _ _ f (by have:=oO a;simp only[maxLen];omega)) (d.alloc _))
 rw[Pm sz vs 0 _ hv s_]
 simp
end
end Go.Sx
namespace Go.Sx
open Go
def xU(b:Bool)(rc:Loop):Loop:=if b then { rc with state:=.done,pending:=some .ret } else rc
section
variable {P:Program} {ops:Array Oper} {Q:Exit->Act->World->Prop} {rest:List Oper} {n:Nat} {s:List (Nat×Value)} {ds:List Deferred} {w:World}
variable {x:Operand} {l:Nat} {bs:List (World×List Nat)} {L LL:List fT} {i:Nat} {rc:Loop}
theorem N8{R:Ending->World->Prop}{a:Act}(i:Nat)(b:St bs L w)(hi:L[i]? = some (iQ l { rc with state:=.busy }))(c:L.set i (iQ l (xU true rc))=LL)(K:∀ w', St bs LL w' -> R (.returned (.bool false)) w'):roundPost P l R .ret a w:=by
 refine⟨_,_,run_endRound (some .ret) (b.xG hi),K _ ?_⟩
 subst c
 exact b.CT hi _
theorem rfx{f:FuncId}{fi ca:List Value}{ps:List Nat}{a c:Code}{α:Type}(j:α->List fT)(C:α->Prop)(stop:α->Bool)(A:St bs L w)(B:ev n s x = .func (.func f) fi.toArray ca.toArray)(t:gh P f)
 (h1:∀ fn dd l o rc,rc=(⟨.ready,none,fn,(Fr n s ds).tmps,ps.toArray,a,c,dd⟩:Loop)->St bs (iQ l rc :: jW dd (some []) :: L) o ->
  CR P f (fi++[Value.func (.yield l) #[] #[]]++ca).toArray o (fun _ p=>∃ z,C z/\St bs (iQ l (xU (stop z) rc) :: jW dd (some []) :: j z) p))
 (q:∀ z dd g,C z->stop z=false->St bs (jW dd (some []) :: j z) g->Q .normal (Fr n s (⟨.collected dd,#[]⟩ :: ds)) g)
 (r:∀ z dd g,C z->stop z=true->St bs (jW dd (some []) :: j z) g->Q .ret (Fr n s (⟨.collected dd,#[]⟩ :: ds)) g):WP none P (.rangeFunc x ps.toArray a c) Q (Fr n s ds) w:=by
 refine wpIn_rangeFunc fun fn _=>?_
 have u:St bs (jW w.heap.size (some []) :: L) (w.alloc (.deferred (some []))) :=
  A.r7 (gw.alloc [] w _) (fun b hb=>by simp[jW]at hb;omega) (by simp[jW]) (fun b hb=>by simp[jW]at hb;simp;omega) (World.alloc_heap_new w _)
 have y:St bs (iQ (w.heap.size+1) ⟨.ready,none,fn,(Fr n s ds).tmps,ps.toArray,a,c,w.heap.size⟩ :: jW w.heap.size (some []) :: L) ((w.alloc (.deferred (some []))).alloc (.loop ⟨.ready,none,fn,(Fr n s ds).tmps,ps.toArray,a,c,w.heap.size⟩)) :=
  u.r7 (gw.alloc [] _ _) (fun b hb=>by simp[iQ]at hb;simp;omega) (by simp[iQ]) (fun b hb=>by simp[iQ]at hb;simp;omega) (by have:=World.alloc_heap_new (w.alloc (.deferred (some []))) (.loop ⟨.ready,none,fn,(Fr n s ds).tmps,ps.toArray,a,c,w.heap.size⟩);simpa[iQ]using this)
 refine⟨w.heap.size+1,_,_,⟨.fn (.func f) ca.toArray,(fi++[Value.func (.yield (w.heap.size+1)) #[] #[]]).toArray⟩,((w.alloc (.deferred (some []))).alloc (.loop ⟨.ready,none,fn,(Fr n s ds).tmps,ps.toArray,a,c,w.heap.size⟩)),f,(fi++[Value.func (.yield (w.heap.size+1)) #[] #[]]++ca).toArray,((w.alloc (.deferred (some []))).alloc (.loop ⟨.ready,none,fn,(Fr n s ds).tmps,ps.toArray,a,c,w.heap.size⟩)),run_enterLoop_outer fn _ _ _ _,?_,fun _ _=>trivial,?_,fun h=>by simp[FW]at h,?_⟩
 . rw[oV]
   simp only[resolve,rangeCall,Deferred.ofValue,B]
   simp[ev]
 . have:=t ((fi++[Value.func (.yield (w.heap.size+1)) #[] #[]]++ca).toArray) ((w.alloc (.deferred (some []))).alloc (.loop ⟨.ready,none,fn,(Fr n s ds).tmps,ps.toArray,a,c,w.heap.size⟩))
   simp only[invoke]
   simpa using this
 . refine uq.2 (Calls.mono (h1 fn w.heap.size (w.heap.size+1) _ _ rfl y) ?_)
   rintro e p ⟨v,rfl,z,k,d⟩
   have m:=fun D => (d.CT (i:=0) rfl D).sub (LD _ _)
   cases hz:stop z with
   | false =>
    rw[hz]at d
    refine⟨none,_,run_endLoop (d.xG (i:=0) rfl) (by simp[xU]),?_⟩
    exact q z w.heap.size _ k hz (m _)
   | true =>
    rw[hz]at d
    refine⟨some .ret,_,run_endLoop (d.xG (i:=0) rfl) (by simp[xU]),?_⟩
    exact wpIn_ret (r z w.heap.size _ k hz (m _))
end
end Go.Sx
namespace Go.Sx
open Go
section
variable {α:Type} {sz:Nat} {cf:α->List Value} {w w' : World} {v u:Value} {xs:List α} {bs:List (World×List Nat)} {L:List fT} {R:fT}
theorem St.rr{e:TypeId}(h:St bs L w)(i:Nat)(hi:L[i]? = some (fL cf v e sz xs))(a:∀ x:α,(cf x).length=sz:=by exact fun _=>rfl):gU sz cf (fun b=>v.ownBlock=some b) w v xs:=St.xZ h hi a
theorem St.oR(h:St bs L w)(i:Nat)(hi:L[i]? = some R):Own R w:=St.Ri h hi
theorem St.bc{b o:Nat}{T:TypeId}{cs:List Value}(h:St bs L w)(i:Nat)(hi:L[i]? = some (blk b T cs))(hv:cs[o]? = some v):w.cell? ⟨b,o,none⟩=some v:=St.ru h hi hv
theorem rO{p:Prop}(h:p:=by first|rfl|omega):p:=h
theorem iT{p:Prop}(h:p:=by rw[ot o_];omega):p:=h
theorem sT{p:Prop}(h:p:=by repeat (first|exact aeo|refine j7 rfl ?_|refine j7 trivial ?_)):p:=h
end
end Go.Sx
namespace Go.Sx
open Go
section
variable {α:Type} [Inhabited α] {cf:α->List Value} {k:Nat}
theorem Pp(a:∀ x:α,(cf x).length=k)(hk:0<k)(d:Array α):(Go.Sort.flatK cf k d).toList=d.toList.flatMap cf:=by
 apply nS
 intro t
 by_cases ht:t<d.size*k
 . have c:t / k<d.size:=(LK hk).2 ht
   have b:t%k<k:=BG _ hk
   have h:d.toList[t / k]? = some d[t / k]:=by simp[c]
   have i:(cf d[t / k])[t%k]? = some ((cf d[t / k])[t%k]'(by rw[a];exact b)):=zk (by rw[a];exact b)
   have e:=vI a d.toList (t / k) (t%k) _ _ h i
   have j:t / k*k+t%k=t:=BE t k
   rw[j]at e
   rw[e]
   have f:=Go.Sort.get_flatK cf k d t ht
   have g:t<(Go.Sort.flatK cf k d).size:=by simpa using ht
   rw[wO,tQ g]
   rw[getElem!_pos _ t g]at f
   rw[f,getElem!_pos d _ c,getElem!_pos _ _ (by rw[a];exact b)]
 . rw[zw (by simp;omega),zw (by rw[rA a];simp;omega)]
variable {P:Program} {w:World} {v:Value} {xs:List α} {e:TypeId} {f:FuncId} {fv:Value} {lt:α->α->Bool}
theorem Y8{b:Nat}{cur:Array Value}(h:∀ x:α,(cf x).length=k)(hk:0<k)(d:w.heap[b]? = some (.cells cur e (0,0)))(f:cur.toList.take (xs.length*k)=xs.flatMap cf):Go.Sort.HoldsK cf k w b 0 xs.toArray:=by
 intro j a
 have g : j<xs.length*k:=by simpa using a
 have c:(cur.toList.take (xs.length*k))[j]? = (Go.Sort.flatK cf k xs.toArray).toList[j]? := by rw[f,Pp h hk]
 rw[Lr g, wO,wO,tQ a]at c
 refine⟨?_,?_⟩
 . simp only[World.cell?,d]
   rw[getElem!_pos _ j a]
   simpa using c
 . simp[World.frozen?,d]
theorem aeg(u:∀ x:α,(cf x).length=k)(hk:0<k)(z:Own (fL cf v e k xs) w)(I:xs.length<4611686018427387904)
 (C:Calls P f #[.slice none 0 0,fv] w fun e w' => e = .returned (.tuple #[])/\w' = w)
 (F:∀ blk m (d:Array α),Go.Sort.HoldsK cf k w blk 0 d->blk<w.heap.size->d.size<4611686018427387904->Calls P f #[.slice (some ⟨blk,0,none⟩) d.size m,fv] w fun e w' =>
  e = .returned (.tuple #[])/\∃ c n os,Go.Sort.PermIn 0 d.size d c /\ Go.Sort.SortedIn lt 0 d.size c /\ w' = Go.Proofs.sortWorldK cf k w blk 0 n c os) :
 CR P f #[v,fv] w (fun r w' => r = .tuple #[]/\∃ ys:List α,ys.Perm xs/\ys.Pairwise (fun a b=>lt b a=false)/\fZ (fL cf v e k xs) w w' (fL cf v e k ys)):=by
 have M:w.ownsRow 0 e k v xs.length (xs.flatMap cf):=z.holds
 rcases M.2 with ⟨rfl,o⟩|⟨g, m,cur,rfl,hb,s,o,D,y,E⟩
 . obtain rfl:xs=[]:=Gy.1 o
   refine Calls.mono C ?_
   rintro en w' ⟨rfl,rfl⟩
   exact⟨_,rfl,rfl,[],List.Perm.refl _,List.Pairwise.nil,fZ.refl z⟩
 . have A:g < w.heap.size:=(z6.1 s).1
   have hs:=F g m xs.toArray (Y8 u hk s E) A (by simpa using I)
   rw[List.size_toArray]at hs
   refine Calls.mono hs ?_
   rintro en w' ⟨rfl,c, n,os,hp,Q,rfl⟩
   have h:c.size=xs.length:=by simpa using hp.1
   have N:c.toList.Perm xs:=by
    have p:=hp.2.2
    have e1:c.extract 0 xs.length=c := by rw[<-h];exact Gt
    have B:xs.toArray.extract 0 xs.length=xs.toArray:=by rw[show xs.length=xs.toArray.size by simp];exact Gt
    rwa [e1,B]at p
   have K:(Go.Proofs.sortWorldK cf k w g 0 n c os).heap[g]? = some (.cells (Go.Sort.putCells id 0 (Go.Sort.flatK cf k c) cur) e (0,0)):=by
    simp only[Go.Proofs.sortWorldK,Go.Sort.grow,Go.Sort.putRowK,Go.Sort.putRow,Go.Sort.mapBlock,Go.Sort.ahead]
    rw[Dj (by simpa using A),yT,if_pos rfl,s]
    rfl
   have L:∀ b,b<w.heap.size->b≠g -> (Go.Proofs.sortWorldK cf k w g 0 n c os).heap[b]? = w.heap[b]? := by
    intro b hb J
    simp only[Go.Proofs.sortWorldK,Go.Sort.grow,Go.Sort.putRowK,Go.Sort.putRow,Go.Sort.mapBlock,Go.Sort.ahead]
    rw[Dj (by simpa using hb),yT,if_neg (fun e=>J e.symm)]
   have R:w.heap.size<=(Go.Proofs.sortWorldK cf k w g 0 n c os).heap.size:=by simp[Go.Proofs.sortWorldK,Go.Sort.grow,Go.Sort.putRowK,Go.Sort.putRow,Go.Sort.mapBlock,Go.Sort.ahead]
   have O:(Go.Sort.putCells id 0 (Go.Sort.flatK cf k c) cur).size=cur.size:=by simp[Go.Sort.putCells]
   have S:(Go.Sort.putCells id 0 (Go.Sort.flatK cf k c) cur).toList.take (c.toList.length*k)=c.toList.flatMap cf:=by
    rw[<-Pp u hk]
    have U:(Go.Sort.flatK cf k c).size=xs.length*k:=by simp[h]
    have V:xs.length*k<=cur.size:=by rw[y];exact Dp _ o
    apply nS
    intro j
    rw[sG,rR,h]
    split
    . rename_i l
      have H:j<cur.size:=by omega
      have t:j<(Go.Sort.flatK cf k c).size:=by omega
      simp only[Go.Sort.putCells,wO,LF,mU,true_and,lC,Nat.sub_zero]
      rw[tQ H,tQ t]
      simp only[wM]
      rw[if_pos t,getElem!_pos _ j t]
      rfl
    . rename_i l
      rw[zw (by simp;rw[h];omega)]
   refine⟨_,rfl,rfl,c.toList,N,?_,⟨?_,⟨rfl,rfl,rfl,R,fun b hb T=>L b hb (fun e=>T (by simp[row,Value.ownBlock,e]))⟩,fun b q => .inl (by simpa[row,Value.ownBlock]using q),by simp[row,Value.ownBlock],fun b q => ?_⟩⟩
   . rw[wJ]
     intro i j hi l G
     have p:=Q i j (mU _) G (by simp at l ⊢;omega)
     simp only[rR]at hi l
     rw[getElem!_pos _ i hi,getElem!_pos _ j l]at p
     simpa using p
   . refine⟨by rw[rA u],.inr ⟨g, m,_,by simp[h],hb,K,by simp[h];exact o,D,by rw[O];exact y,S⟩⟩
   . simp[row,Value.ownBlock]at q
     subst q
     omega
end
end Go.Sx
