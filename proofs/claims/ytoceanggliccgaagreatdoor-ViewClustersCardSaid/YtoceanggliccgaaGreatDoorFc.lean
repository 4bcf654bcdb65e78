/- Plain lemmas: rules for walking through code, one for each operation, over any program; an evaluator of closed calls with its soundness; and plain mathematics. No conditions. -/
import Derived.Test.YtoceanggliccgaaGreatDoorFb
import Derived.Test.YtoceanggliccgaaGreatDoorFa
import Derived.Lib.TrailingZeros
set_option linter.unusedVariables false
set_option linter.unusedSectionVars false
set_option linter.unusedSimpArgs false
namespace Go.Sx
open Go
theorem wD(b:Nat){a:Nat}(h:a<=9223372036854775807):IntKind.i64.wrap ((a:Int).tdiv (b:Int))=((a / b:Nat):Int):=by
 have:a / b<=a:=Nat.div_le_self _ _
 rw[Int.tdiv_eq_ediv_of_nonneg o_,show (a:Int) / (b:Int)=((a / b:Nat):Int) from rfl]
 generalize a / b=c at this
 rw[IntKind.wrap_i64]
 omega
theorem CV(b:Nat){a:Nat}:(a:Int).tmod (b:Int)=((a%b:Nat):Int):=by
 rw[GH o_];rfl
def jb(x y:Int):Int:=if x<y then -1 else if y<x then 1 else 0
theorem NW(x y:Int):gX .i64 (jb x y):=by
 show (-9223372036854775808:Int)<=_/\_<=(9223372036854775807:Int)
 unfold jb
 (repeat' split)<;>omega
def me:List Int->Int
 | []=>0
 | x :: l=>if x=0 then me l else x
theorem Ri{xs:List Int}{k:Nat}(h:∀ j x,j<k->xs[j]? = some x->x=0):me xs=me (xs.drop k):=by
 induction xs generalizing k with
 | nil=>simp[me]
 | cons y xs c =>
  cases k with
  | zero=>rfl
  | succ k =>
   have a:=h 0 y o_ rfl
   simp only[me,if_pos a,List.drop_succ_cons]
   exact c fun j x d b=>h (j+1) x o_ (by simpa using b)
theorem Rg{xs:List Int}{k:Nat}{x:Int}(h:∀ j x,j<k->xs[j]? = some x->x=0)(c:xs[k]? = some x)(a:x≠0):me xs=x:=by
 rw[Ri h]
 have:=(zg.1 c)
 obtain⟨b,e⟩:=this
 rw[Bt b,e]
 simp[me,a]
theorem Rh{xs:List Int}{k:Nat}(h:∀ j x,j<k->xs[j]? = some x->x=0)(hk:k=xs.length):me xs=0:=by
 rw[Ri h,hk]
 simp[me]
theorem Rj{xs:List Int}{k:Nat}{y:Int}(h:∀ j x,j<k->xs[j]? = some x->x=0)(c:xs[k]? = some y)(b:y=0):∀ j x,j<k+1->xs[j]? = some x->x=0:=by
 intro j x d a
 by_cases e:j=k
 . subst e
   rw[c]at a
   cases a
   exact b
 . exact h j x o_ a
theorem Rl(a b:gE):me [jb a.key b.key,jb a.ix b.ix]=qo a b:=by
 unfold me me me jb qo
 (repeat' split)<;>omega
structure js (n:Nat) (ps:List (Option Nat)) (pl:List Nat):Prop where
 len:pl.length=64*ps.length
 room:n<=pl.length
 zero:∀ j,ps[j]? = some none->∀ i,i / 64=j->fJ pl i=0
 val:∀ i,fJ pl i<=65536
 n:n<=65536
 top:ps.length<=1000000
theorem js.at{n:Nat}{ps:List (Option Nat)}{pl:List Nat}(h:js n ps pl){i:Nat}(hi:i<n):i / 64<ps.length:=by
 have a:=h.len
 have b:=h.room
 omega
theorem js.Vf{n:Nat}{ps:List (Option Nat)}{pl:List Nat}(h:js n ps pl){j:Nat}(b:ps[j]? = some none):List.replicate 64 (Value.int .i64 0)=((pl.drop (64*j)).take 64).flatMap (fun(x:Nat)=>[.int .i64 (x:Int)]):=by
 have g:=(zg.1 b).1
 have i:=h.len
 have e:(pl.drop (64*j)).take 64=List.replicate 64 0:=by
  rw[List.eq_replicate_iff]
  refine⟨by rw[zx,zA];omega,fun x f=>?_⟩
  obtain⟨q,d,rfl⟩:=GM.1 f
  rw[zx,zA]at d
  have a:=h.zero j b (64*j+q) o_
  have c:64*j+q<pl.length:=by omega
  simp only[fJ,zj c,Dv]at a
  simp[a]
 rw[e]
 rfl
theorem js.set{n:Nat}{ps:List (Option Nat)}{pl:List Nat}(h:js n ps pl){i p b:Nat}(hi:i<n)(hp:p<=65536)(hb:ps[i / 64]? = some (some b)):js n ps (jc pl i p):=by
 have d:=h.room
 refine⟨by simp only[jc,gC];exact h.len,by simp only[jc,gC];exact d,fun j a q c=>?_,fun q=>?_,h.n,h.top⟩
 . unfold jc
   rw[iS o_,if_neg (fun e=>by subst e;rw[c]at hb;rw[a]at hb;cases hb)]
   exact h.zero j a q c
 . unfold jc
   rw[iS o_]
   split
   . exact hp
   . exact h.val q
theorem js.made{n:Nat}{ps:List (Option Nat)}{pl:List Nat}(h:js n ps pl){j b:Nat}:js n (ps.set j (some b)) pl:=by
 refine⟨by rw[List.length_set];exact h.len,h.room,fun q a=>?_,h.val,h.n,by rw[List.length_set];exact h.top⟩
 rw[si]at a
 split at a
 . split at a<;>cases a
 . exact h.zero q a
instance:Inhabited (Option Nat):=⟨none⟩
abbrev fR(x:Nat):List Value:=[.int .i64 (x:Int)]
theorem paN{p:Nat}(h:p<=65536):IntKind.i64.wrap (((p:Int)-1).tdiv 2)=((pa p:Nat):Int):=by
 cases p with
 | zero=>rfl
 | succ p =>
  have e:((p+1:Nat):Int)-1=(p:Int):=by omega
  rw[e]
  have:=wD 2 (a:=p) o_
  exact this
def rG(xs:List gE)(p:Nat):Int:=if 0<p/\iD (fJ xs p) (fJ xs (pa p))then(pa p:Int)else -1
def nK(xs:List gE)(p:Nat):Int:=if jy xs p=p then -1 else(jy xs p:Int)
theorem Up{xs:List gE}{p:Nat}(h:rG xs p ≠ -1):rG xs p=((pa p:Nat):Int)/\0<p/\iD (fJ xs p) (fJ xs (pa p)):=by
 unfold rG at h ⊢
 split
 . rename_i a;exact⟨rfl,a⟩
 . rename_i a;rw[if_neg a]at h;exact absurd rfl h
theorem Uq{xs:List gE}{p:Nat}(h:rG xs p = -1):¬ (0<p/\iD (fJ xs p) (fJ xs (pa p))):=by
 intro a
 unfold rG at h
 rw[if_pos a]at h
 omega
theorem UQ{xs:List gE}{p:Nat}(h:nK xs p ≠ -1):nK xs p=((jy xs p:Nat):Int)/\jy xs p≠p:=by
 unfold nK at h ⊢
 split
 . rename_i a;rw[if_pos a]at h;exact absurd rfl h
 . rename_i a;exact⟨rfl,a⟩
theorem UR{xs:List gE}{p:Nat}(h:nK xs p = -1):jy xs p=p:=by
 unfold nK at h
 split at h
 . assumption
 . omega
structure og (n:Nat) (xs ys:List gE) (ps qs:List (Option Nat)) (pl:List Nat):Prop where
 hp:Hp n ys pl
 gN:js n qs pl
 len:ys.length=xs.length
 mem:∀ e,e∈ys↔e∈xs
 oS:qs.length=ps.length
theorem og.swap{n:Nat}{xs ys:List gE}{ps c a:List (Option Nat)}{pl:List Nat}{p q:Nat}(h:og n xs ys ps c pl)(hp:p<ys.length)(b:q<ys.length)(f:a.length=c.length)
 (d:js n a (jc (jc pl (fJ (iF ys p q) p).ix (p+1)) (fJ (iF ys p q) q).ix (q+1))):og n xs (iF ys p q) ps a (jc (jc pl (fJ (iF ys p q) p).ix (p+1)) (fJ (iF ys p q) q).ix (q+1)) :=
 ⟨h.hp.swap hp b,d,by rw[mJ,h.len],fun e=>(KS hp b e).trans (h.mem e),f.trans h.oS⟩
theorem og.refl{n:Nat}{xs:List gE}{ps:List (Option Nat)}{pl:List Nat}(h:Hp n xs pl)(a:js n ps pl):og n xs xs ps ps pl:=⟨h,a,rfl,fun _=>Iff.rfl,rfl⟩
theorem og.trans{n:Nat}{xs ys zs:List gE}{ps b c:List (Option Nat)}{pl a:List Nat}(h:og n xs ys ps b pl)(k:og n ys zs b c a):og n xs zs ps c a :=
 ⟨k.hp,k.gN,k.len.trans h.len,fun e=>(k.mem e).trans (h.mem e),k.oS.trans h.oS⟩
theorem js.copy{n k:Nat}{ps b:List (Option Nat)}{pl:List Nat}(h:js n ps pl)(c:qD ps b k)(hk:k=ps.length):js n b pl :=
 ⟨by rw[c.len];exact h.len,h.room,fun j a i hi=>h.zero j (c.done j (by have:=(zg.1 a).1;have:=c.len;omega) a) i hi,h.val,h.n,by rw[c.len];exact h.top⟩
theorem js.new{n m:Nat}(b:n<=65536)(hm:m=(n+63) / 64):js n (List.replicate m none) (List.replicate (64*m) 0):=by
 have a:∀ i,fJ (List.replicate (64*m) 0) i=0:=fun i=>by
  unfold fJ
  rw[sj]
  split<;>rfl
 exact⟨s_,by simp;omega,fun j _ i _=>a i,fun i=>by rw[a];omega,b,by simp;omega⟩
theorem Hp.new{n m:Nat}(hm:m=(n+63) / 64):Hp n [] (List.replicate (64*m) 0):=by
 have a:∀ i,fJ (List.replicate (64*m) 0) i=0:=fun i=>by
  unfold fJ
  rw[sj]
  split<;>rfl
 exact⟨fun p hp=>by simp at hp,fun p hp=>by simp at hp,fun p hp=>by simp at hp,fun i p _ hp=>by rw[a]at hp;omega,by simp;omega,s_⟩
theorem Ord.nil:Ord []:=fun j _ a=>by simp at a
end Go.Sx
namespace Go.Sx
open Go
def lR{α:Type}(cf:α->List Value)(e:TypeId)(l:List (Value×List α)):fU:=gj (l.map fun p=>fL cf p.1 e 1 p.2)
abbrev xN(e:TypeId)(l:List (Value×List Nat)):fU:=lR fR e l
theorem set_perm{α:Type}:∀ (l:List α) (i:Nat) (x:α),i<l.length->(l.set i x).Perm (x :: l.eraseIdx i)
 | y :: l,0,x,_=>List.Perm.refl _
 | y :: l,i+1,x,h=>((set_perm l i x (by simpa using h)).cons y).trans (List.Perm.swap _ _ _)
 | [],i,x,h=>by simp at h
theorem PE{α:Type}[Inhabited α]{l:List α}{i:Nat}(h:i<l.length):l.Perm (fJ l i :: l.eraseIdx i):=by
 have a:=set_perm l i (fJ l i) h
 have b:l.set i (fJ l i)=l:=by
  apply mM
  intro j
  rw[si]
  split
  . rename_i c
    subst c
    exact(gy h).symm
  . rfl
 rwa [b]at a
abbrev kG{α:Type}(p:Value×List α):List Value:=[p.1]
instance {α:Type}:Inhabited (Value×List α):=⟨(.slice none 0 0,[])⟩
section
variable {α:Type} {cf:α->List Value} {bs:List (World×List Nat)} {L:List fU} {w:World} {e:TypeId} {l:List (Value×List α)} {i:Nat}
theorem St.Js{a:List (Value×List α)}(h:St bs (lR cf e l :: L) w)(hp:l.Perm a):St bs (lR cf e a :: L) w :=
 St.pack _ _ ((St.unpack h).perm ((hp.map _).append_right _))
theorem St.aau{p:Value×List α}(h:St bs (lR cf e (p :: l) :: L) w):St bs (fL cf p.1 e 1 p.2 :: lR cf e l :: L) w:=by
 have a:St bs (([fL cf p.1 e 1 p.2]++l.map fun p=>fL cf p.1 e 1 p.2)++L) w:=St.unpack h
 rw[mL]at a
 have b:=a.perm (L' := (l.map fun p=>fL cf p.1 e 1 p.2)++([fL cf p.1 e 1 p.2]++L)) (by
  rw[<-mL,<-mL]
  exact List.Perm.append_right _ qB)
 exact(St.pack _ _ b).swap
theorem St.Ie{p:Value×List α}(h:St bs (fL cf p.1 e 1 p.2 :: lR cf e l :: L) w):St bs (lR cf e (p :: l) :: L) w:=by
 have a:St bs ((l.map fun p=>fL cf p.1 e 1 p.2)++(fL cf p.1 e 1 p.2 :: L)) w:=St.unpack h.swap
 refine St.pack _ _ (a.perm ?_)
 show List.Perm _ (fL cf p.1 e 1 p.2 :: ((l.map fun p=>fL cf p.1 e 1 p.2)++L))
 exact tY
theorem St.Co(i:Nat)(h:St bs (lR cf e l :: L) w)(hi:i<l.length):St bs (fL cf (fJ l i).1 e 1 (fJ l i).2 :: lR cf e (l.eraseIdx i) :: L) w :=
 (h.Js (PE hi)).aau
theorem St.Qf{v:Value}{xs:List α}(h:St bs (fL cf v e 1 xs :: lR cf e (l.eraseIdx i) :: L) w)(hi:i<l.length):St bs (lR cf e (fN l i (fun _=>(v,xs))) :: L) w :=
 (St.Ie (p:=(v,xs)) h).Js (set_perm l i (v,xs) hi).symm
theorem St.Jr(h:St bs (fL cf (fJ l i).1 e 1 (fJ l i).2 :: lR cf e (l.eraseIdx i) :: L) w)(hi:i<l.length):St bs (lR cf e l :: L) w :=
 (St.Ie (p:=fJ l i) h).Js (PE hi).symm
theorem St.aav(h:St bs L w):St bs (lR cf e [] :: L) w:=St.pack [] L h
theorem St.Qe(n:Nat)(h:St bs L w):St bs (lR cf e (List.replicate n (.slice none 0 0,[])) :: L) w:=by
 induction n with
 | zero=>exact h.aav
 | succ n a=>exact St.Ie (p:=(.slice none 0 0,[])) (St.Eh a e 1)
theorem v7{a b v:Value}(hi:i<l.length)(hv:(fJ l i).1=v):(a :: b :: l.flatMap kG)[2+i]? = some v:=by
 have h:=vW (cf:=kG) (sz:=1) (fun _=>rfl) l i 0 (fJ l i) v (gy hi) (by rw[<-hv];rfl)
 rw[su,qC]at h
 rw[Nat.add_comm]
 exact h
theorem Jp{a b v:Value}{xs:List α}(hi:i<l.length):setAt (a :: b :: l.flatMap kG) (2+i) [v]=a :: b :: (fN l i (fun _=>(v,xs))).flatMap kG:=by
 have h:=FG (cf:=kG) (sz:=1) (off:=0) (vs:=[v]) (f:=fun _=>(v,xs)) (fun _=>rfl) hi rfl (zk _)
 rw[su,qC]at h
 have c:=Sy (a:=[a,b]) (b:=l.flatMap kG) (vs:=[v]) (o:=i)
 rw[h]at c
 exact c
theorem aag{a b:Value}(hi:i<l.length):2+i+1<=(a :: b :: l.flatMap kG).length:=by
 rw[ze,ze,rK (sz:=1) (fun _=>rfl)]
 omega
end
end Go.Sx
namespace Go.Sx
open Go
structure gP where
 st:Int
 after:Int
 times:Int
 deriving Inhabited
def gP.cells(x:gP):List Value:=[.int .i64 x.st,.int .i64 x.after,.int .u64 x.times]
structure As where
 n:Nat
 begun:Nat
 used:Nat
 last:Int
 sl:List gP
 fl:List Nat
 ps:List (Option Nat)
def BA(sl:List gP):Int->List Nat->Prop
 | l,[]=>l = -1
 | l,i :: r=>l=(i:Int)/\BA sl (fJ sl i).after r
def As.gY(A:As)(i:Nat):Prop:=i<A.begun/\i∉A.fl
structure As.ok (A:As):Prop where
 n:A.n<=65536
 le:A.begun<=A.n
 oS:A.ps.length=(A.begun+63) / 64
 ps:∀ j,j<A.ps.length->∃ b,A.ps[j]? = some (some b)
 sl:A.sl.length=64*A.ps.length
 nodup:A.fl.Nodup
 fl:∀ i∈A.fl,i<A.begun
 chain:BA A.sl A.last A.fl
 st:∀ i,i<A.begun->(fJ A.sl i).st=if i∈A.fl then 2 else 1
 used:A.used+A.fl.length=A.begun
theorem CL:∀ (L M:List Nat),L.Nodup->(∀ j∈L,j∈M)->L.length<=M.length
 | [],_,_,_=>by simp
 | x :: L,M,hn,h=>by
  have b:=h x s_
  have c:=CL L (M.erase x) (zu.1 hn).2 (fun j a=>(List.mem_erase_of_ne (fun e=>(zu.1 hn).1 (by rw[<-e];exact a))).2 (h j (by simp[a])))
  rw[LD b]at c
  have:=LF b
  simp only[ze]
  omega
theorem AJ(n:Nat)(L:List Nat)(b:L.Nodup)(h:∀ j∈L,j<n):L.length<=n:=by
 have:=CL L (List.range n) b (fun j a=>z6.2 (h j a))
 simpa using this
theorem As.ok.room{A:As}(h:A.ok){i:Nat}(hi:i<A.begun):i<A.sl.length/\i / 64<A.ps.length:=by
 have a:=h.sl
 have b:=h.oS
 omega
theorem As.ok.at{A:As}(h:A.ok){i:Nat}(hi:i<A.begun):∃ b,A.ps[i / 64]? = some (some b):=h.ps _ (h.room hi).2
theorem BA.congr{sl a : List gP}:∀ {r:List Nat} {l:Int},BA sl l r->(∀ i∈r,(fJ a i).after=(fJ sl i).after)->BA a l r
 | [],_,h,_=>h
 | i :: r,l,h,he=>⟨h.1,by rw[he i s_];exact h.2.congr fun j b=>he j (by simp[b])⟩
def tk(x:gP):gP:=⟨1,-1,IntKind.u64.wrap (x.times+1)⟩
theorem Lg{sl:List gP}{i:Nat}(hi:i<sl.length){t:Int}(a:t=IntKind.u64.wrap ((fJ sl i).times+1)):fN (fN (fN sl i (fun x=>{ x with st:=1 })) i (fun x=>{ x with after := -1 })) i (fun x=>{ x with times:=t })=fN sl i tk:=by
 subst a
 have e:∀ (l:List gP) (f g:gP->gP),i<l.length->fN (fN l i f) i g=fN l i (fun x=>g (f x)):=fun l f g h=>by
  have e:=j9 (f:=f) h
  unfold fN at e ⊢
  rw[e,List.set_set]
 rw[e _ _ _ hi,e _ _ _ hi]
 rfl
theorem As.ok.pop{A:As}(h:A.ok){i:Nat}{r:List Nat}(d:A.fl=i :: r) :
 As.ok ⟨A.n,A.begun,A.used+1,(fJ A.sl i).after,fN A.sl i tk,r,A.ps⟩/\(∀ j,As.gY ⟨A.n,A.begun,A.used+1,(fJ A.sl i).after,fN A.sl i tk,r,A.ps⟩ j↔A.gY j\/j=i)/\¬ A.gY i/\i<A.begun/\A.last=(i:Int):=by
 have o:=h.chain
 have g:=h.nodup
 rw[d]at o g
 rw[zu]at g
 have p:i<A.begun:=h.fl i (by rw[d];simp)
 have t:=(h.room p).1
 have m:=fun j=>iS (xs:=A.sl) (k:=i) (j:=j) (f:=tk) t
 refine⟨⟨h.n,h.le,h.oS,h.ps,by simp only[gC];exact h.sl,g.2,fun j l=>h.fl j (by rw[d];simp[l]),?_,fun j l=>?_,?_⟩,fun j=>?_,fun m=>m.2 (by rw[d];simp),p,o.1⟩
 . refine o.2.congr fun j l=>?_
   rw[m,if_neg (fun e=>g.1 (by rw[e];exact l))]
 . simp only
   rw[m]
   split
   . rename_i e
     subst e
     rw[if_neg g.1]
     rfl
   . rename_i e
     have:=h.st j l
     rw[this,d]
     simp only[zb]
     by_cases h1:j∈r
     . rw[if_pos (.inr h1),if_pos h1]
     . rw[if_neg (fun q=>q.elim (fun s=>e s.symm) h1),if_neg h1]
 . have:=h.used
   rw[d]at this
   simp only[ze]at this
   show A.used+1+r.length=A.begun
   omega
 . simp only[As.gY,d,zb,not_or]
   constructor
   . rintro⟨a,b⟩
     by_cases e:j=i
     . exact .inr e
     . exact .inl ⟨a,e,b⟩
   . rintro(⟨a,b,c⟩|rfl)
     . exact⟨a,c⟩
     . exact⟨p,g.1⟩
theorem As.ok.fresh{A:As}(h:A.ok)(a:A.fl=[])(v:A.begun<A.n){ps2:List (Option Nat)}{sl2:List gP}{b:Nat}(hb:(A.begun%64=0/\ps2=A.ps++[some b]/\sl2=A.sl++List.replicate 64 ⟨0,0,0⟩)\/(A.begun%64≠0/\ps2=A.ps/\sl2=A.sl)) :
 As.ok ⟨A.n,A.begun+1,A.used+1,A.last,fN sl2 A.begun tk,[],ps2⟩/\(∀ j,As.gY ⟨A.n,A.begun+1,A.used+1,A.last,fN sl2 A.begun tk,[],ps2⟩ j↔A.gY j\/j=A.begun)/\¬ A.gY A.begun/\A.last = -1/\A.begun<sl2.length/\∃ c,ps2[A.begun / 64]? = some (some c):=by
 have g:=h.chain
 have q:=h.sl
 have u:=h.oS
 rw[a]at g
 have r:ps2.length=(A.begun+1+63) / 64/\sl2.length=64*ps2.length/\(∀ j,j<ps2.length->∃ b,ps2[j]? = some (some b))/\∀ j,j<A.begun->fJ sl2 j=fJ A.sl j:=by
  rcases hb with ⟨e,rfl,rfl⟩|⟨e,rfl,rfl⟩
  . refine⟨by simp;omega,by simp;omega,fun j d=>?_,fun j d=>?_⟩
    . rw[Bu]
      split
      . exact h.ps j (by assumption)
      . simp at d
        have:j-A.ps.length=0:=by omega
        rw[this]
        exact⟨b,rfl⟩
    . unfold fJ
      rw[rm o_]
  . exact⟨o_,q,h.ps,fun j _=>rfl⟩
 obtain⟨s,p2,p,t⟩:=r
 have o:A.begun<sl2.length:=by omega
 have l:=fun j=>iS (xs:=sl2) (k:=A.begun) (j:=j) (f:=tk) o
 refine⟨⟨h.n,by show A.begun+1<=A.n;omega,s,p,by simp only[gC];exact p2,w6,fun i hi=>by simp at hi,g,fun j d=>?_,?_⟩,fun j=>?_,fun l=>absurd l.1 o_,g,o,p _ o_⟩
 . simp only[nI,if_false]
   rw[l]
   split
   . rfl
   . rename_i e
     have m : j<A.begun:=by
      have:j<A.begun+1:=d
      omega
     rw[t j m, h.st j m, a]
     simp
 . have:=h.used
   rw[a]at this
   simp at this ⊢
   omega
 . simp only[As.gY,a,nI,not_false_eq_true,and_true]
   omega
theorem As.ok.full{A:As}(h:A.ok)(b:A.used<A.n):(∃ i r,A.fl=i :: r)\/(A.fl=[]/\A.begun<A.n):=by
 have a:=h.used
 cases hf:A.fl with
 | cons i r=>exact .inl ⟨i,r,rfl⟩
 | nil =>
  rw[hf]at a
  simp at a
  exact .inr ⟨rfl,o_⟩
theorem As.ok.free{A:As}(h:A.ok){i:Nat}(hi:A.gY i){sl2:List gP}(hs:sl2=fN (fN A.sl i (fun x=>{ x with st:=2 })) i (fun x=>{ x with after:=A.last })) :
 As.ok ⟨A.n,A.begun,A.used-1,(i:Int),sl2,i :: A.fl,A.ps⟩/\(∀ j,As.gY ⟨A.n,A.begun,A.used-1,(i:Int),sl2,i :: A.fl,A.ps⟩ j↔A.gY j/\j≠i)/\0<A.used:=by
 obtain⟨g,k⟩:=hi
 have m:=(h.room g).1
 have f:=h.used
 have s:0<A.used:=by
  have r:(i :: A.fl).length<=A.begun:=by
   have q:(i :: A.fl).Nodup:=zu.2 ⟨k,h.nodup⟩
   exact AJ A.begun _ q fun j d=>by
    rcases zb.1 d with rfl|d
    . exact g
    . exact h.fl j d
  simp only[ze]at r
  omega
 have l:∀ j,fJ sl2 j=if i=j then { fJ A.sl i with st:=2,after:=A.last } else fJ A.sl j:=fun j=>by
  subst hs
  rw[iS (by rw[gC];exact m)]
  by_cases e:i=j
  . rw[if_pos e,if_pos e,j9 m]
  . rw[if_neg e,if_neg e,jX e]
 refine⟨⟨h.n,h.le,h.oS,h.ps,by rw[hs];simp only[gC];exact h.sl,zu.2 ⟨k,h.nodup⟩,fun j d=>?_,⟨rfl,?_⟩,fun j d=>?_,by simp only[ze];omega⟩,fun j=>?_,s⟩
 . rcases zb.1 d with rfl|d
   . exact g
   . exact h.fl j d
 . rw[l,if_pos rfl]
   refine h.chain.congr fun j d=>?_
   rw[l,if_neg (fun e=>k (by rw[e];exact d))]
 . simp only
   rw[l]
   split
   . rename_i e
     subst e
     simp
   . rename_i e
     rw[h.st j d]
     simp only[zb]
     by_cases f:j∈A.fl
     . rw[if_pos f,if_pos (.inr f)]
     . rw[if_neg f,if_neg (fun o=>o.elim (fun p=>e p.symm) f)]
 . simp only[As.gY,zb,not_or]
   constructor
   . rintro⟨a,b,c⟩;exact⟨⟨a,c⟩,b⟩
   . rintro⟨⟨a,c⟩,b⟩;exact⟨a,b,c⟩
def As.list(A:As)(k:Nat):List Nat:=(List.range k).filter fun i=>decide ((fJ A.sl i).st=1)
theorem As.Qx(A:As)(k:Nat):A.list (k+1)=if (fJ A.sl k).st=1 then A.list k++[k]else A.list k:=by
 unfold As.list
 rw[sB,vh]
 split
 . rename_i h;simp[h]
 . rename_i h;simp[h]
theorem As.Qw(A:As):∀ k,(A.list k).length<=k:=fun k=>by
 have:=u7 (fun i=>decide ((fJ A.sl i).st=1)) (List.range k)
 simpa[As.list]using this
theorem As.ok.oQ{A:As}(h:A.ok)(i:Nat):i∈A.list A.begun↔A.gY i:=by
 simp only[As.list,z8,z6,decide_eq_true_eq,As.gY]
 constructor
 . rintro⟨a,b⟩
   refine⟨a,fun c=>?_⟩
   rw[h.st i a,if_pos c]at b
   omega
 . rintro⟨a,b⟩
   exact⟨a,by rw[h.st i a,if_neg b]⟩
theorem As.CA(A:As)(k:Nat):(A.list k).Pairwise (· < ·):=List.Pairwise.filter _ GL
theorem As.ok.AD{A:As}(h:A.ok):(A.list A.begun).length=A.used:=by
 have i:(A.list A.begun++A.fl).Nodup:=by
  rw[zr]
  refine⟨(A.CA _).imp (fun h=>Nat.ne_of_lt h),h.nodup,fun a g b hb e=>?_⟩
  subst e
  exact((h.oQ a).1 g).2 hb
 have d:(A.list A.begun++A.fl).length<=A.begun:=AJ _ _ i fun j c=>by
  rcases zm.1 c with c|c
  . exact((h.oQ j).1 c).1
  . exact h.fl j c
 have f:(List.range A.begun).length<=(A.list A.begun++A.fl).length:=by
  refine CL _ _ tW fun j c=>?_
  rw[z6]at c
  by_cases e:j∈A.fl
  . exact wW _ e
  . exact wX _ ((h.oQ j).2 ⟨c,e⟩)
 have k:=h.used
 simp only[zq,pY]at d f
 omega
def As.new(n:Nat):As:=⟨n,0,0,-1,[],[],[]⟩
theorem As.tG{n:Nat}(b:n<=65536):(As.new n).ok :=
 ⟨b,mZ _,by simp[As.new],fun j a=>by simp[As.new]at a,rfl,w6,fun i hi=>by simp[As.new]at hi,rfl,fun i hi=>by simp[As.new]at hi,rfl⟩
theorem As.ok.copy{A:As}(h:A.ok){a:List (Option Nat)}(c:a.length=A.ps.length)(d:∀ j,j<a.length->∃ b,a[j]? = some (some b)):As.ok { A with ps:=a } :=
 ⟨h.n,h.le,by show a.length=_;rw[c];exact h.oS,d,by show A.sl.length=_;rw[h.sl,c],h.nodup,h.fl,h.chain,h.st,h.used⟩
theorem aeS{α:Type}(l:List α)(B k:Nat):l.take (B*k)++(l.drop (B*k)).take B=l.take (B*(k+1)):=by
 rw[By,su,List.take_add]
structure xe (qs:List (Option Nat)) (k:Nat):Prop where
 len:qs.length=k
 all:∀ j,j<qs.length->∃ b,qs[j]? = some (some b)
theorem xe.start:xe [] 0:=⟨rfl,fun j a=>by simp at a⟩
theorem xe.next{a:List (Option Nat)}{k b:Nat}(h:xe a k):xe (a++[some b]) (k+1) :=
 ⟨by simp[h.len],fun j c=>by
  rw[Bu]
  split
  . exact h.all j (by assumption)
  . simp at c
    have:j-a.length=0:=by omega
    rw[this]
    exact⟨b,rfl⟩⟩
theorem Vh{α:Type}{l:List α}{B m k:Nat}(a:l.length=B*m)(hk:k<m):((l.drop (B*k)).take B).length=B/\(l.take (B*k)).length=B*k:=by
 have:B*(k+1)<=B*m:=Bw _ hk
 rw[By]at this
 rw[zx,zA,zx]
 omega
end Go.Sx
namespace Go.Sx
open Go
def ic(n c:Nat):Nat:=if c+1=n then 0 else c+1
def dst(n a b:Nat):Nat:=if a<=b then b-a else b+n-a
theorem J2{n c:Nat}(h:c<n):ic n c<n:=by unfold ic;split<;>omega
theorem abR{n c:Nat}(h:c<n):(c+1)%n=ic n c:=by
 unfold ic
 split
 . rename_i e;rw[e,Nat.mod_self]
 . exact Nat.mod_eq_of_lt o_
theorem Ew{n a b:Nat}(c:a<n)(hb:b<n):dst n a b<n:=by unfold dst;split<;>omega
theorem uy(n a:Nat):dst n a a=0:=by simp[dst]
theorem Ez{n a b:Nat}(c:a<n)(hb:b<n):dst n a b=0↔a=b:=by unfold dst;split<;>omega
theorem Wl{n a c:Nat}(b:a<n)(d:c<n)(h:ic n c≠a):dst n a (ic n c)=dst n a c+1:=by
 unfold dst ic at *
 split at h<;>split<;>(try split)<;>(try split)<;>omega
theorem Ey{n z c:Nat}(b:z<n)(a:c<n)(h:c≠z):dst n (ic n c) z+1=dst n c z:=by
 unfold dst ic at *
 (repeat' split)<;>omega
theorem Ev{n a b c:Nat}(d:a<n)(hb:b<n)(e:c<n)(h:dst n a b=dst n a c):b=c:=by
 unfold dst at h
 (repeat' split at h)<;>omega
abbrev ry(n a b q:Nat):Prop:=dst n a q<dst n a b
def rA(n:Nat)(cs:List Nat)(hm:Nat->Nat):Prop:=∀ c i q,c<n->q<n->fJ cs c=i+1->ry n (hm i) c q->fJ cs q≠0
def uA(n:Nat)(cs:List Nat)(ok:Nat->Bool):Nat->Nat->Nat×Bool
 | 0,_=>(0,false)
 | f+1,c=>if fJ cs c=0 then(c,false)else if ok (fJ cs c-1)then(c,true)else uA n cs ok f (ic n c)
theorem Pv{n:Nat}{cs:List Nat}{ok:Nat->Bool}{z:Nat}(i:z<n)(j:fJ cs z=0):∀ (f c:Nat),c<n->dst n c z<f -> 
 ∃ r,r<n/\dst n c r<=dst n c z/\(∀ q,q<n->dst n c q<dst n c r->fJ cs q≠0/\ok (fJ cs q-1)=false)/\((uA n cs ok f c=(r,false)/\fJ cs r=0)\/(uA n cs ok f c=(r,true)/\fJ cs r≠0/\ok (fJ cs r-1)=true)):=by
 intro f
 induction f with
 | zero=>intro c _ h;omega
 | succ f o =>
  intro c a s
  unfold uA
  by_cases h1:fJ cs c=0
  . exact⟨c,a,by rw[uy];omega,fun q _ b=>by rw[uy]at b;omega,.inl ⟨by rw[if_pos h1],h1⟩⟩
  . rw[if_neg h1]
    by_cases h2:ok (fJ cs c-1)=true
    . exact⟨c,a,by rw[uy];omega,fun q _ b=>by rw[uy]at b;omega,.inr ⟨by rw[if_pos h2],h1,h2⟩⟩
    . rw[if_neg h2]
      have k:c≠z:=fun e=>h1 (by rw[e];exact j)
      have hs:=Ey i a k
      obtain⟨r,g,hd,b,m⟩:=o (ic n c) (J2 a) o_
      have l:c≠r:=by
       intro e
       subst e
       have e1:dst n (ic n c) c=n-1:=by unfold dst ic;(repeat' split)<;>omega
       have p:dst n (ic n c) z<n-1:=by
        have:=Ew a i
        omega
       omega
      have u:=Ey g a l
      refine⟨r,g,o_,fun q d t=>?_,m⟩
      by_cases hqc:c=q
      . subst hqc
        exact⟨h1,by simpa using h2⟩
      . have v:=Ey d a hqc
        exact b q d o_
theorem YQ{n:Nat}{cs:List Nat}{ok:Nat->Bool}{hm:Nat->Nat}{p i:Nat}(m:rA n cs hm)(hp:p<n)(hi:fJ cs p=i+1)(b:hm i<n)(o:ok i=true)(t:∀ q j,q<n->fJ cs q=j+1->ok j=true->q=p)(u:∃ z,z<n/\fJ cs z=0):uA n cs ok n (hm i)=(p,true):=by
 obtain⟨z,k,v⟩:=u
 obtain⟨r,c,hd,s,h⟩:=Pv (ok:=ok) k v n (hm i) b (Ew b k)
 rcases h with ⟨d,a⟩|⟨d,a,l⟩
 . exfalso
   rcases xd (dst n (hm i) r) (dst n (hm i) p)with f|f
   . exact m p i r hp c hi f a
   . rcases xd (dst n (hm i) p) (dst n (hm i) r)with g|g
     . have:=(s p hp g).2
       rw[hi,Nat.add_sub_cancel,o]at this
       cases this
     . have e:=Ev b c hp o_
       rw[e,hi]at a
       omega
 . have:=t r (fJ cs r-1) c o_ l
   rw[d,this]
theorem YP{n:Nat}{cs:List Nat}{ok:Nat->Bool}{c:Nat}(e:c<n)(i:∀ q j,q<n->fJ cs q=j+1->ok j=false)(o:∃ z,z<n/\fJ cs z=0):∃ r,r<n/\uA n cs ok n c=(r,false)/\fJ cs r=0/\∀ q,q<n->ry n c r q->fJ cs q≠0:=by
 obtain⟨z,g,p⟩:=o
 obtain⟨r,f,hd,k,h⟩:=Pv (ok:=ok) g p n c e (Ew e g)
 rcases h with ⟨a,b⟩|⟨a,b,d⟩
 . exact⟨r,f,a,b,fun q m l=>(k q m l).1⟩
 . have:=i r (fJ cs r-1) f o_
   rw[this]at d
   cases d
theorem rA.put{n:Nat}{cs:List Nat}{hm:Nat->Nat}{r i:Nat}(h:rA n cs hm)(s:cs.length=n)(u:r<n)(o:fJ cs r=0)(m:∀ q,q<n->ry n (hm i) r q->fJ cs q≠0)(p:hm i<n):rA n (fN cs r (fun _=>i+1)) hm:=by
 intro c j q g d a b
 have l:=fun q=>iS (xs:=cs) (k:=r) (j:=q) (f:=fun _=>i+1) o_
 rw[l]at a ⊢
 split
 . omega
 . rename_i t
   split at a
   . rename_i e
     have:j=i:=by omega
     subst this
     subst e
     exact m q d b
   . exact h c j q g d a b
structure o4 (n:Nat) (hm:Nat->Nat) (i0:Nat) (cs0 cs:List Nat) (hole c z:Nat):Prop where
 len:cs.length=n
 vX:hole<n
 NJ:c<n
 DO:z<n
 home:∀ p i,p<n->p≠hole->fJ cs p=i+1->hm i<n
 inj:∀ p q,p<n->q<n->p≠hole->q≠hole->fJ cs p≠0->fJ cs p=fJ cs q->p=q
 mem:∀ i,(∃ p,p<n/\p≠hole/\fJ cs p=i+1)↔i≠i0/\∃ p,p<n/\fJ cs0 p=i+1
 way:∀ p i q,p<n->q<n->p≠hole->q≠hole->fJ cs p=i+1->ry n (hm i) p q->fJ cs q≠0
 Rt:∀ p i,p<n->p≠hole->fJ cs p=i+1->ry n (hm i) p hole->dst n hole c<dst n hole p
 zero:fJ cs z=0
 zc:dst n hole c<dst n hole z
theorem o4.start{n:Nat}{hm:Nat->Nat}{i0:Nat}{cs:List Nat}{hole z:Nat}(j:rA n cs hm)(l:cs.length=n)(b:hole<n)(hi:fJ cs hole=i0+1)(g:z<n)(h:fJ cs z=0)(k:∀ p i,p<n->fJ cs p=i+1->hm i<n)
 (f:∀ p q,p<n->q<n->fJ cs p≠0->fJ cs p=fJ cs q->p=q):o4 n hm i0 cs cs hole hole z:=by
 have o:hole≠z:=fun e=>by rw[e,h]at hi;omega
 refine⟨l,b,b,g,fun p i hp _=>k p i hp,fun p q hp d _ _=>f p q hp d,fun i=>⟨?_,?_⟩,fun p i q hp d _ _ a m=>j p i q hp d a m,fun p i hp c _ _=>?_,h,?_⟩
 . rintro⟨p,hp,c,a⟩
   refine⟨fun e=>c (f p hole hp b o_ (by rw[a,hi,e])),p,hp,a⟩
 . rintro⟨c,p,hp,a⟩
   exact⟨p,hp,fun e=>c (by rw[e,hi]at a;omega),a⟩
 . rw[uy]
   have:=mt (Ez b hp).1 (fun e=>c e.symm)
   omega
 . rw[uy]
   have:=mt (Ez b g).1 o
   omega
section
variable {n:Nat} {hm:Nat->Nat} {i0:Nat} {cs0 cs:List Nat} {hole c z:Nat}
theorem o4.next(h:o4 n hm i0 cs0 cs hole c z):ic n c<n/\ic n c≠hole/\dst n hole (ic n c)=dst n hole c+1/\c≠z/\dst n (ic n c) z<dst n c z:=by
 have i:=h.zc
 have a:=h.NJ
 have b:=h.vX
 have d:=h.DO
 have f:c≠z:=fun e=>by rw[e]at i;omega
 have hs:=Ey d a f
 have g:ic n c≠hole:=by
  intro e
  have:dst n hole c=n-1:=by rw[<-e];unfold dst ic;(repeat' split)<;>omega
  have:=Ew b d
  omega
 exact⟨J2 a,g,Wl b a g,f,o_⟩
theorem o4.skip(h:o4 n hm i0 cs0 cs hole c z){i:Nat}(hi:fJ cs (ic n c)=i+1)(k:dst n (hm i) (ic n c)<dst n hole (ic n c)):o4 n hm i0 cs0 cs hole (ic n c) z:=by
 obtain⟨a,m,o,q,r⟩:=h.next
 refine⟨h.len,h.vX,a,h.DO,h.home,h.inj,h.mem,h.way,fun p j hp b f d=>?_,h.zero,?_⟩
 . have s:=h.Rt p j hp b f d
   have:p≠ic n c:=by
    intro e
    subst e
    have:j=i:=by omega
    subst this
    have t:=h.home _ _ a b f
    have l:=h.vX
    unfold ry dst at *
    (repeat' split at d)<;>(repeat' split at k)<;>omega
   have g:dst n hole p≠dst n hole (ic n c):=fun e=>this (Ev h.vX hp a e)
   omega
 . have:z≠ic n c:=fun e=>by
    have:=h.zero
    rw[e,hi]at this
    omega
   have g:dst n hole z≠dst n hole (ic n c):=fun e=>this (Ev h.vX h.DO a e)
   have:=h.zc
   omega
theorem o4.move(h:o4 n hm i0 cs0 cs hole c z){i:Nat}(hi:fJ cs (ic n c)=i+1)(w:¬ dst n (hm i) (ic n c)<dst n hole (ic n c)):o4 n hm i0 cs0 (fN cs hole (fun _=>i+1)) (ic n c) (ic n c) z:=by
 obtain⟨b,g,E,F,G⟩:=h.next
 have y:=h.len
 have v:=h.vX
 have x:=h.home _ _ b g hi
 have d:=fun q=>iS (xs:=cs) (k:=hole) (j:=q) (f:=fun _=>i+1) o_
 have C:hole≠z:=fun e=>by
  have:=h.zc
  rw[<-e,uy]at this
  omega
 have D:z≠ic n c:=fun e=>by
  have:=h.zero
  rw[e,hi]at this
  omega
 have B:ry n (hm i) (ic n c) hole:=by
  unfold ry dst at *
  (repeat' split at w)<;>(repeat' split)<;>omega
 refine⟨by rw[gC];exact y,b,b,h.DO,fun p j hp m a=>?_,fun p q hp o t u s l=>?_,fun j=>?_,fun p j q hp o t u a r=>?_,fun p j hp m a r=>?_,?_,?_⟩
 . rw[d]at a
   split at a
   . have:j=i:=by omega
     subst this
     exact x
   . rename_i A
     exact h.home p j hp (fun e=>A e.symm) a
 . rw[d]at s l
   rw[d]at l
   by_cases e1:hole=p
   . by_cases e2:hole=q
     . omega
     . rw[if_pos e1,if_neg e2]at l
       have:=h.inj q (ic n c) o b (fun e=>e2 e.symm) g o_ o_
       exact absurd this u
   . by_cases e2:hole=q
     . rw[if_neg e1,if_pos e2]at l
       have:=h.inj p (ic n c) hp b (fun e=>e1 e.symm) g o_ o_
       exact absurd this t
     . rw[if_neg e1,if_neg e2]at l
       rw[if_neg e1]at s
       exact h.inj p q hp o (fun e=>e1 e.symm) (fun e=>e2 e.symm) s l
 . rw[<-h.mem j]
   constructor
   . rintro⟨p,hp,m,a⟩
     rw[d]at a
     by_cases e1:hole=p
     . rw[if_pos e1]at a
       exact⟨ic n c,b,g,o_⟩
     . rw[if_neg e1]at a
       exact⟨p,hp,fun e=>e1 e.symm,a⟩
   . rintro⟨p,hp,m,a⟩
     by_cases e1:p=ic n c
     . refine⟨hole,v,fun e=>g e.symm,?_⟩
       rw[d,if_pos rfl]
       rw[e1,hi]at a
       omega
     . refine⟨p,hp,e1,?_⟩
       rw[d,if_neg (fun e=>m e.symm)]
       exact a
 . rw[d]at a ⊢
   by_cases e2:hole=q
   . rw[if_pos e2];omega
   . rw[if_neg e2]
     by_cases e1:hole=p
     . rw[if_pos e1]at a
       have:j=i:=by omega
       subst this
       subst e1
       exact h.way (ic n c) j q b o g (fun e=>e2 e.symm) hi (Nat.lt_trans r B)
     . rw[if_neg e1]at a
       exact h.way p j q hp o (fun e=>e1 e.symm) (fun e=>e2 e.symm) a r
 . rw[uy]
   have:=mt (Ez b hp).1 (fun e=>m e.symm)
   omega
 . rw[d,if_neg C]
   exact h.zero
 . rw[uy]
   have:=mt (Ez b h.DO).1 (fun e=>D e.symm)
   omega
theorem o4.done(h:o4 n hm i0 cs0 cs hole c z)(o:fJ cs (ic n c)=0)(F:∃ p,p<n/\fJ cs0 p=i0+1) :
 rA n (fN cs hole (fun _=>0)) hm/\(∀ p q,p<n->q<n->fJ (fN cs hole (fun _=>0)) p≠0->fJ (fN cs hole (fun _=>0)) p=fJ (fN cs hole (fun _=>0)) q->p=q) /\
 (∀ i,(∃ p,p<n/\fJ (fN cs hole (fun _=>0)) p=i+1)↔i≠i0/\∃ p,p<n/\fJ cs0 p=i+1):=by
 obtain⟨r,t,u,D,v⟩:=h.next
 have G:=h.len
 have B:=h.vX
 have d:=fun q=>iS (xs:=cs) (k:=hole) (j:=q) (f:=fun _=>0) o_
 refine⟨fun p i q hp m a l=>?_,fun p q hp m g b=>?_,fun i=>?_⟩
 . rw[d]at a ⊢
   by_cases e1:hole=p
   . rw[if_pos e1]at a;omega
   . rw[if_neg e1]at a
     have E:=h.home p i hp (fun e=>e1 e.symm) a
     by_cases e2:hole=q
     . exfalso
       subst e2
       have w:=h.Rt p i hp (fun e=>e1 e.symm) a l
       have x:p≠ic n c:=fun e=>by rw[e,o]at a;omega
       have y:dst n hole p≠dst n hole (ic n c):=fun e=>x (Ev B hp r e)
       have A:ry n (hm i) p (ic n c):=by
        have s:dst n hole (ic n c)<dst n hole p:=by omega
        clear w y u v
        unfold ry dst at *
        (repeat' split at l)<;>(repeat' split at s)<;>(repeat' split)<;>omega
       exact h.way p i (ic n c) hp r (fun e=>e1 e.symm) t a A o
     . rw[if_neg e2]
       exact h.way p i q hp m (fun e=>e1 e.symm) (fun e=>e2 e.symm) a l
 . rw[d]at g b
   rw[d]at b
   by_cases e1:hole=p
   . rw[if_pos e1]at g;omega
   . rw[if_neg e1]at g b
     by_cases e2:hole=q
     . rw[if_pos e2]at b;omega
     . rw[if_neg e2]at b
       exact h.inj p q hp m (fun e=>e1 e.symm) (fun e=>e2 e.symm) g b
 . rw[<-h.mem i]
   constructor
   . rintro⟨p,hp,a⟩
     rw[d]at a
     by_cases e1:hole=p
     . rw[if_pos e1]at a;omega
     . rw[if_neg e1]at a
       exact⟨p,hp,fun e=>e1 e.symm,a⟩
   . rintro⟨p,hp,C,a⟩
     exact⟨p,hp,by rw[d,if_neg (fun e=>C e.symm)];exact a⟩
end
end Go.Sx
namespace Go.Sx
open Go
structure AW where
 bv:Value
 A:As
structure AW.put (A A2:As) (i:Nat):Prop where
 n:A2.n=A.n
 used:A2.used=A.used+1
 gY:∀ j,A2.gY j↔A.gY j\/j=i
 new:¬ A.gY i
 pH:(i<A.begun/\A2.begun=A.begun)\/(i=A.begun/\A2.begun=A.begun+1)
structure AW.del (A A2:As) (i:Nat):Prop where
 n:A2.n=A.n
 pH:A2.begun=A.begun
 used:A2.used=A.used-1
 pos:0<A.used
 gY:∀ j,A2.gY j↔A.gY j/\j≠i
def kK(a:Int):Int:=(tw .xor .u64 a (a.fdiv (2 ^ 33))).getD 0
def l8(c a:Int):Int:=IntKind.u64.wrap (a*c)
def Au(id:Int):Int:=kK (l8 14181476777654086739 (kK (l8 18397679294719823053 (kK id))))
def kz(n:Nat)(id:Int):Nat:=(Au id%(n:Int)).toNat
theorem xJ{n:Nat}{id:Int}(h:0<n):kz n id<n:=by
 have a:=Int.emod_lt_of_pos (Au id) (show (0:Int)<n by omega)
 have b:=Dw (Au id) (show (n:Int)≠0 by omega)
 unfold kz
 omega
theorem ZL{n:Nat}{id:Int}(h:0<n):Au id%(n:Int)=(kz n id:Int):=by
 have a:=Dw (Au id) (show (n:Int)≠0 by omega)
 unfold kz
 omega
def P2(n:Nat):Prop:=∃ k,k<=40/\n=2 ^ k
theorem P2.pos{n:Nat}(h:P2 n):0<n:=by
 obtain⟨k,_,rfl⟩:=h
 exact Nat.two_pow_pos k
theorem P2.le{n:Nat}(h:P2 n):n<=1099511627776:=by
 obtain⟨k,a,rfl⟩:=h
 calc 2 ^ k<=2 ^ 40:=LQ d_ a
  _=1099511627776:=by decide
theorem P2.Tx{n:Nat}(h:P2 n)(x:Int):((BitVec.ofInt 64 x) &&& (BitVec.ofInt 64 ((n:Int)-1))).toNat=(x%(n:Int)).toNat:=by
 have g:=h.pos
 have f:=h.le
 obtain⟨k,d,rfl⟩:=h
 rw[BitVec.toNat_and,BitVec.toNat_ofInt,BitVec.toNat_ofInt]
 have e:(((2 ^ k:Nat):Int)-1)%((2 ^ 64:Nat):Int)=((2 ^ k-1:Nat):Int):=by
  rw[Int.emod_eq_of_lt o_ o_]
  omega
 rw[e,mj,Nat.and_two_pow_sub_one_eq_mod]
 have hd:(((2 ^ k:Nat):Int)) ∣ ((2 ^ 64:Nat):Int):=by
  refine Int.natCast_dvd_natCast.2 (Nat.pow_dvd_pow 2 o_)
 have a:0<=x%((2 ^ 64:Nat):Int):=Dw _ d_
 have b:=Int.emod_emod_of_dvd x hd
 have c:((x%((2 ^ 64:Nat):Int)).toNat%2 ^ k:Nat)=((x%((2 ^ 64:Nat):Int))%((2 ^ k:Nat):Int)).toNat:=by
  obtain⟨m,hm⟩:=Int.eq_ofNat_of_zero_le a
  rw[hm]
  simp only[mj]
  rw[<-Int.natCast_emod,mj]
 rw[c,b]
theorem P2.Nc{n:Nat}(h:P2 n)(x:Int):tw .and .i64 x ((n:Int)-1)=some (x%(n:Int)):=by
 have a:=Int.emod_lt_of_pos x (show (0:Int)<n by have:=h.pos;omega)
 have b:=Dw x (show (n:Int)≠0 by have:=h.pos;omega)
 have c:=h.le
 have e:=h.Tx x
 show some (IntKind.i64.wrap (((BitVec.ofInt 64 x) &&& (BitVec.ofInt 64 ((n:Int)-1))).toNat:Int))=_
 rw[e,oT o_]
 congr 1
 omega
theorem P2.UD{n:Nat}(h:P2 n)(x:Int):tw .and .u64 x ((n:Int)-1)=some (x%(n:Int)):=by
 have a:=Int.emod_lt_of_pos x (show (0:Int)<n by have:=h.pos;omega)
 have b:=Dw x (show (n:Int)≠0 by have:=h.pos;omega)
 have c:=h.le
 have e:=h.Tx x
 show some (IntKind.u64.wrap (((BitVec.ofInt 64 x) &&& (BitVec.ofInt 64 ((n:Int)-1))).toNat:Int))=_
 rw[e,Gg o_]
 congr 1
 omega
theorem P2.nx{n c:Nat}(h:P2 n)(a:c<n):tw .and .i64 ((c:Int)+1) ((n:Int)-1)=some ((ic n c:Nat):Int):=by
 rw[h.Nc,<-abR a]
 rfl
theorem P2.dst{n a b:Nat}(h:P2 n)(c:a<n)(hb:b<n):tw .and .i64 ((b:Int)-(a:Int)) ((n:Int)-1)=some ((dst n a b:Nat):Int):=by
 rw[h.Nc]
 congr 1
 unfold Sx.dst
 split
 . rw[Int.emod_eq_of_lt o_ o_]
   omega
 . rw[show (b:Int)-(a:Int)=((b:Int)-a+n)+n*(-1) by omega,Int.add_mul_emod_self_left,Int.emod_eq_of_lt o_ o_]
   omega
theorem Lw(a:Int):tw .xor .u64 a (a.fdiv (2 ^ 33))=some (kK a):=rfl
theorem P2.home{n:Nat}(h:P2 n)(id:Int):tw .and .u64 (Au id) ((n:Int)-1)=some ((kz n id:Nat):Int):=by
 rw[h.UD,ZL h.pos]
def gW(x:Int):List Value:=[.int .u64 x]
structure TW where
 iv:Value
 cv:Value
 w:AW
 ids:List Int
 cs:List Nat
abbrev TW.A(t:TW):As:=t.w.A
abbrev TW.n(t:TW):Nat:=t.cs.length
structure TW.ok (t:TW):Prop where
 p2:P2 t.n
 top:t.n<=1000000
 two:2<=t.n
 room:2*t.A.n<=t.n
 an:t.A.n<=65536
 vY:t.ids.length=t.A.begun
 ids:∀ i,gX .u64 (fJ t.ids i)
 cell:∀ i,(∃ p,p<t.n/\fJ t.cs p=i+1)↔t.A.gY i
 inj:∀ p q,p<t.n->q<t.n->fJ t.cs p≠0->fJ t.cs p=fJ t.cs q->p=q
 uniq:∀ i j,t.A.gY i->t.A.gY j->fJ t.ids i=fJ t.ids j->i=j
 FC:rA t.n t.cs (fun i=>kz t.n (fJ t.ids i))
 pH:t.A.begun<=t.A.n
 ul:t.A.used<=t.A.n
structure TW.Sz (n:Nat):Prop where
 p2:P2 n
 two:2<=n
 top:n<=1000000
theorem TW.ok.sz{t:TW}(h:t.ok):TW.Sz t.n:=⟨h.p2,h.two,h.top⟩
def TW.mem(t:TW)(id:Int):Prop:=∃ i,t.A.gY i/\fJ t.ids i=id
theorem TW.ok.val{t:TW}(h:t.ok){p i:Nat}(hp:p<t.n)(c:fJ t.cs p=i+1):t.A.gY i/\i<t.A.begun/\i<t.ids.length/\i<t.A.n:=by
 have a:=(h.cell i).1 ⟨p,hp,c⟩
 have b:=a.1
 have d:=h.vY
 have e:=h.pH
 exact⟨a,b,o_,o_⟩
theorem TW.ok.zero{t:TW}(h:t.ok):∃ z,z<t.n/\fJ t.cs z=0:=by
 by_cases hz:∃ z,z<t.n/\fJ t.cs z=0
 . exact hz
 . exfalso
   have a:∀ p,p<t.n->fJ t.cs p≠0:=fun p hp c=>hz ⟨p,hp,c⟩
   have d:((List.range t.n).map fun p=>fJ t.cs p-1).length<=t.A.n:=by
    refine AJ _ _ ?_ ?_
    . unfold List.Nodup
      rw[GQ]
      refine List.Pairwise.imp_of_mem ?_ (GL (n:=t.n))
      intro p q hp b g e
      rw[z6]at hp b
      have a1:=a p hp
      have a2:=a q b
      have:=h.inj p q hp b a1 o_
      omega
    . intro j f
      obtain⟨p,hp,rfl⟩:=z7.1 f
      rw[z6]at hp
      have a1:=a p hp
      exact(h.val hp (i:=fJ t.cs p-1) o_).2.2.2
   rw[zo,pY]at d
   have:=h.room
   have:=h.two
   omega
def TW.find(t:TW)(id:Int):Nat×Bool:=uA t.n t.cs (fun i=>fJ t.ids i==id) t.n (kz t.n id)
theorem TW.ok.IX{t:TW}(h:t.ok){i:Nat}(hi:t.A.gY i):∃ p,p<t.n/\fJ t.cs p=i+1/\t.find (fJ t.ids i)=(p,true):=by
 obtain⟨p,hp,a⟩:=(h.cell i).2 hi
 refine⟨p,hp,a,?_⟩
 refine YQ (hm:=fun i=>kz t.n (fJ t.ids i)) h.FC hp a (xJ (by have:=h.two;omega)) s_ ?_ h.zero
 intro q j b c e
 have d:=(h.val b c).1
 have:=h.uniq j i d hi (by simpa using e)
 subst this
 exact h.inj q p b hp o_ o_
theorem TW.ok.Pw{t:TW}(h:t.ok){id:Int}(c:¬ t.mem id):∃ r,r<t.n/\t.find id=(r,false)/\fJ t.cs r=0/\∀ q,q<t.n->ry t.n (kz t.n id) r q->fJ t.cs q≠0:=by
 refine YP (xJ (by have:=h.two;omega)) ?_ h.zero
 intro q j d a
 have b:=(h.val d a).1
 have:fJ t.ids j≠id:=fun e=>c ⟨j,b,e⟩
 simpa using this
def xZ(ids:List Int)(i:Nat)(id:Int):List Int:=fN (if i=ids.length then ids++[0]else ids) i (fun _=>id)
theorem acN{ids:List Int}{i:Nat}{id:Int}(h:i<=ids.length)(j:Nat):fJ (xZ ids i id) j=if i=j then id else fJ ids j:=by
 unfold xZ
 split
 . rename_i e
   rw[iS (by simp[e])]
   split
   . rfl
   . rename_i b
     simp only[fJ,Bu]
     split
     . rfl
     . have a:(ids[j]? : Option Int)=none:=zt o_
       rw[a]
       cases hj:([0]:List Int)[j-ids.length]? with
       | none=>rfl
       | some x => 
        have:=zg.1 hj
        simp at this
        omega
 . rw[iS o_]
theorem acO{ids:List Int}{i:Nat}{id:Int}(h:i<=ids.length):(xZ ids i id).length=if i=ids.length then ids.length+1 else ids.length:=by
 unfold xZ
 rw[gC]
 split<;>simp
section
variable {t:TW}
theorem TW.ok.put(h:t.ok){id:Int}(G:¬ t.mem id)(M:gX .u64 id){v2:AW}{i r:Nat}(B:v2.A.ok)(hp:AW.put t.A v2.A i)(C:r<t.n)(D:fJ t.cs r=0)(Q:∀ q,q<t.n->ry t.n (kz t.n id) r q->fJ t.cs q≠0)(iv cv:Value){is2:List Int}{cs2:List Nat}(E:is2=xZ t.ids i id)(hcs:cs2=fN t.cs r (fun _=>i+1)) :
 TW.ok ⟨iv,cv,v2,is2,cs2⟩/\∀ x,TW.mem ⟨iv,cv,v2,is2,cs2⟩ x↔t.mem x\/x=id:=by
 have R:=h.vY
 have F:i<=t.ids.length:=by
  rcases hp.pH with d|d<;>omega
 have m:∀ j,fJ is2 j=if i=j then id else fJ t.ids j:=by rw[E];exact acN F
 have y:∀ q,fJ cs2 q=if r=q then i+1 else fJ t.cs q:=by rw[hcs];exact fun q=>iS C
 have s:cs2.length=t.n:=by rw[hcs];exact gC
 have P:is2.length=if i=t.ids.length then t.ids.length+1 else t.ids.length:=by rw[E];exact acO F
 have v:=hp.gY
 have H:=hp.new
 have w:∀ j,t.A.gY j->i≠j:=fun j l e=>H (e▸l)
 have O:∀ x,TW.mem ⟨iv,cv,v2,is2,cs2⟩ x↔t.mem x\/x=id:=by
  intro x
  constructor
  . rintro⟨j,l,u⟩
    change fJ is2 j=x at u
    rw[m]at u
    split at u
    . exact .inr u.symm
    . rename_i N
      rcases(v j).1 l with d|d
      . exact .inl ⟨j,d,u⟩
      . exact absurd d.symm N
  . rintro(⟨j,l,u⟩|rfl)
    . exact⟨j,(v j).2 (.inl l),by show fJ is2 j=x;rw[m,if_neg (w j l)];exact u⟩
    . exact⟨i,(v i).2 (.inr rfl),by show fJ is2 i=x;rw[m,if_pos rfl]⟩
 have I:∀ p,p<t.n->fJ t.cs p≠i+1:=fun p k g=>H (h.val k g).1
 refine⟨⟨?_,?_,?_,?_,?_,?_,?_,?_,?_,?_,?_,?_,?_⟩,O⟩
 . show P2 cs2.length;rw[s];exact h.p2
 . show cs2.length<=_;rw[s];exact h.top
 . show 2<=cs2.length;rw[s];exact h.two
 . show 2*v2.A.n<=cs2.length;rw[s,hp.n];exact h.room
 . show v2.A.n<=_;rw[hp.n];exact h.an
 . show is2.length=v2.A.begun
   rw[P]
   rcases hp.pH with d|d
   . rw[if_neg o_];omega
   . rw[if_pos o_];omega
 . intro j
   show gX .u64 (fJ is2 j)
   rw[m]
   split
   . exact M
   . exact h.ids j
 . intro j
   show (∃ p,p<cs2.length/\fJ cs2 p=j+1)↔v2.A.gY j
   rw[s,v]
   constructor
   . rintro⟨p,k, g⟩
     rw[y]at g
     split at g
     . exact .inr o_
     . exact .inl ((h.cell j).1 ⟨p,k, g⟩)
   . rintro(d|rfl)
     . obtain⟨p,k, g⟩:=(h.cell j).2 d
       refine⟨p,k, ?_⟩
       rw[y,if_neg (fun e=>by rw[e,g]at D;omega)]
       exact g
     . exact⟨r,C,by rw[y,if_pos rfl]⟩
 . intro p q k o
   show fJ cs2 p≠0->fJ cs2 p=fJ cs2 q->p=q
   change p<cs2.length at k
   change q<cs2.length at o
   rw[s]at k o
   rw[y,y]
   intro a b
   by_cases d:r=p
   . by_cases f:r=q
     . omega
     . rw[if_pos d,if_neg f]at b
       exact absurd b.symm (I q o)
   . by_cases f:r=q
     . rw[if_neg d,if_pos f]at b
       exact absurd b (I p k)
     . rw[if_neg d,if_neg f]at b
       rw[if_neg d]at a
       exact h.inj p q k o a b
 . intro a b L hb
   show fJ is2 a=fJ is2 b->a=b
   rw[m,m]
   intro e
   rcases(v a).1 L with d|d<;>rcases(v b).1 hb with f|f
   . rw[if_neg (w a d),if_neg (w b f)]at e
     exact h.uniq a b d f e
   . rw[if_neg (w a d),if_pos f.symm]at e
     exact absurd ⟨a,d,e⟩ G
   . rw[if_pos d.symm,if_neg (w b f)]at e
     exact absurd ⟨b,f,e.symm⟩ G
   . omega
 . show rA cs2.length _ (fun j=>kz cs2.length (fJ is2 j))
   rw[s]
   have J:rA t.n t.cs (fun j=>kz t.n (fJ is2 j)):=by
    intro c j q g o l z
    have d:=w j (h.val g l).1
    simp only[m,if_neg d]at z
    exact h.FC c j q g o l z
   have K:=J.put rfl C D (i:=i) (by
    intro q o z
    simp only[m,if_pos]at z
    exact Q q o z) (xJ (by have:=h.two;omega))
   rw[hcs]
   exact K
 . show v2.A.begun<=v2.A.n
   exact B.le
 . show v2.A.used<=v2.A.n
   have:=B.used
   have:=B.le
   omega
end
section
variable {t:TW}
def TW.rest(t:TW)(id:Int)(k c:Nat):Prop:=t.find id=uA t.n t.cs (fun i=>fJ t.ids i==id) (t.n-k) c
theorem TW.adg(t:TW)(id:Int):t.rest id 0 (kz t.n id):=rfl
theorem TW.Ko{id:Int}{k c:Nat}(h:t.rest id k c)(hk:k<t.n):t.find id=if fJ t.cs c=0 then(c,false)else if (fJ t.ids (fJ t.cs c-1)==id)=true then(c,true)else uA t.n t.cs (fun i=>fJ t.ids i==id) (t.n-(k+1)) (ic t.n c):=by
 have e:t.n-k=(t.n-(k+1))+1:=by omega
 unfold TW.rest at h
 rw[e]at h
 exact h
theorem TW.adh{id:Int}{k c:Nat}(h:t.rest id k c)(hk:k<t.n)(a:fJ t.cs c=0):t.find id=(c,false):=by
 rw[TW.Ko h hk,if_pos a]
theorem TW.ade{id:Int}{k c j:Nat}(h:t.rest id k c)(hk:k<t.n)(b:fJ t.cs c=j+1)(a:fJ t.ids j=id):t.find id=(c,true):=by
 rw[TW.Ko h hk,if_neg o_,if_pos (by rw[b];simpa using a)]
theorem TW.adf{id:Int}{k c j:Nat}(h:t.rest id k c)(hk:k<t.n)(b:fJ t.cs c=j+1)(a:fJ t.ids j≠id):t.rest id (k+1) (ic t.n c):=by
 have:=TW.Ko h hk
 rw[if_neg o_,if_neg (by rw[b];simpa using a)]at this
 exact this
theorem TW.adb{id:Int}{c:Nat}(h:t.rest id t.n c):t.find id=(0,false):=by
 unfold TW.rest at h
 rw[Nat.sub_self]at h
 exact h
end
def TW.oc(t:TW)(id:Int)(z:Nat)(b:Bool):Prop:=(b=true/\t.A.gY z/\fJ t.ids z=id)\/(b=false/\z=0/\¬ t.mem id)
section
variable {t:TW}
theorem TW.ok.del(h:t.ok){i:Nat}(hi:t.A.gY i){v2:AW}(s:v2.A.ok)(hd:AW.del t.A v2.A i){cs2:List Nat}(f:cs2.length=t.n)
 (r:rA t.n cs2 (fun j=>kz t.n (fJ t.ids j))/\(∀ p q,p<t.n->q<t.n->fJ cs2 p≠0->fJ cs2 p=fJ cs2 q->p=q)/\(∀ u,(∃ p,p<t.n/\fJ cs2 p=u+1)↔u≠i/\∃ p,p<t.n/\fJ t.cs p=u+1)) (iv cv:Value) {is2:List Int} (w:is2=fN t.ids i (fun _=>0)) :
 TW.ok ⟨iv,cv,v2,is2,cs2⟩/\∀ x,TW.mem ⟨iv,cv,v2,is2,cs2⟩ x↔t.mem x/\x≠fJ t.ids i:=by
 obtain⟨C,G,z⟩:=r
 have F:i<t.ids.length:=by have:=hi.1;have:=h.vY;omega
 have k:∀ j,fJ is2 j=if i=j then 0 else fJ t.ids j:=by rw[w];exact fun j=>iS F
 have m:=hd.gY
 have E:∀ j,(∃ p,p<t.n/\fJ cs2 p=j+1)↔v2.A.gY j:=by
  intro j
  rw[z,m,h.cell]
  exact And.comm
 refine⟨⟨?_,?_,?_,?_,?_,?_,?_,?_,?_,?_,?_,?_,?_⟩,fun x=>⟨?_,?_⟩⟩
 . show P2 cs2.length;rw[f];exact h.p2
 . show cs2.length<=_;rw[f];exact h.top
 . show 2<=cs2.length;rw[f];exact h.two
 . show 2*v2.A.n<=cs2.length;rw[f,hd.n];exact h.room
 . show v2.A.n<=_;rw[hd.n];exact h.an
 . show is2.length=v2.A.begun;rw[w,gC,hd.pH];exact h.vY
 . intro j
   show gX .u64 (fJ is2 j)
   rw[k]
   split
   . exact⟨d_,d_⟩
   . exact h.ids j
 . intro j
   show (∃ p,p<cs2.length/\fJ cs2 p=j+1)↔v2.A.gY j
   rw[f]
   exact E j
 . intro p q hp o
   change p<cs2.length at hp
   change q<cs2.length at o
   rw[f]at hp o
   exact G p q hp o
 . intro a b D hb
   show fJ is2 a=fJ is2 b->a=b
   have d:=(m a).1 D
   have v:=(m b).1 hb
   rw[k,k,if_neg (fun e=>d.2 e.symm),if_neg (fun e=>v.2 e.symm)]
   exact h.uniq a b d.1 v.1
 . show rA cs2.length _ (fun j=>kz cs2.length (fJ is2 j))
   rw[f]
   intro c j q r o l B
   have d:j≠i:=((z j).1 ⟨c,r,l⟩).1
   simp only[k,if_neg (fun e=>d e.symm:¬ i=j)]at B
   exact C c j q r o l B
 . show v2.A.begun<=v2.A.n
   exact s.le
 . show v2.A.used<=v2.A.n
   have:=s.used
   have:=s.le
   omega
 . rintro⟨j,l,g⟩
   change fJ is2 j=x at g
   have d:=(m j).1 l
   rw[k,if_neg (fun e=>d.2 e.symm)]at g
   exact⟨⟨j,d.1,g⟩,fun e=>d.2 (h.uniq j i d.1 hi (g.trans e))⟩
 . rintro⟨⟨j,l,g⟩,H⟩
   have y:j≠i:=fun e=>H (by rw[<-g,e])
   exact⟨j,(m j).2 ⟨l,y⟩,by show fJ is2 j=x;rw[k,if_neg (fun e=>y e.symm)];exact g⟩
theorem TW.ok.copy(h:t.ok){v2:AW}{f:List (Option Nat)}(hv:v2.A={ t.A with ps:=f })(iv cv:Value):TW.ok ⟨iv,cv,v2,t.ids,t.cs⟩/\∀ x,TW.mem ⟨iv,cv,v2,t.ids,t.cs⟩ x↔t.mem x:=by
 have c:∀ j,v2.A.gY j↔t.A.gY j:=fun j=>by rw[hv];rfl
 have e1:v2.A.n=t.A.n:=by rw[hv]
 have d:v2.A.begun=t.A.begun:=by rw[hv]
 refine⟨⟨h.p2,h.top,h.two,?_,?_,?_,h.ids,?_,h.inj,?_,h.FC,?_,?_⟩,fun x=>?_⟩
 . show 2*v2.A.n<=_;rw[e1];exact h.room
 . show v2.A.n<=_;rw[e1];exact h.an
 . show t.ids.length=v2.A.begun;rw[d];exact h.vY
 . exact fun i=>(h.cell i).trans (c i).symm
 . exact fun a b e hb=>h.uniq a b ((c a).1 e) ((c b).1 hb)
 . show v2.A.begun<=v2.A.n;rw[e1,d];exact h.pH
 . show v2.A.used<=v2.A.n;rw[hv];exact h.ul
 . exact exists_congr fun i=>and_congr_left fun _=>c i
theorem P2.two:P2 2:=⟨1,d_,rfl⟩
theorem P2.Wa{n:Nat}(h:P2 n)(b:n<=1000000):P2 (n*2):=by
 obtain⟨k,a,rfl⟩:=h
 refine⟨k+1,?_,by rw[DN]⟩
 by_cases h9:k+1<=40
 . exact h9
 . have:2 ^ 20<=2 ^ k:=LQ d_ o_
   have e:(2:Nat) ^ 20=1048576:=by decide
   omega
theorem TW.tG{m n:Nat}{v:AW}(hv:v.A=As.new m)(hm:m<=65536)(u:P2 n)(h1:2<=n)(r:2*m<=n)(s:n<=1000000)(iv cv:Value):TW.ok ⟨iv,cv,v,[],List.replicate n 0⟩/\∀ x,¬ TW.mem ⟨iv,cv,v,[],List.replicate n 0⟩ x:=by
 have f:(List.replicate n 0).length=n:=sY
 have k:∀ p,fJ (List.replicate n 0) p=0:=by
  intro p
  simp only[fJ,sj]
  split<;>rfl
 have g:∀ j,¬ v.A.gY j:=fun j d=>by rw[hv]at d;exact absurd d.1 (by simp[As.new])
 have e1:v.A.n=m:=by rw[hv];rfl
 have l:v.A.begun=0:=by rw[hv];rfl
 refine⟨⟨?_,?_,?_,?_,?_,?_,?_,?_,?_,?_,?_,?_,?_⟩,fun x ⟨j,d,_⟩=>g j d⟩
 . show P2 (List.replicate n 0).length;rw[f];exact u
 . show (List.replicate n 0).length<=_;rw[f];exact s
 . show 2<=(List.replicate n 0).length;rw[f];exact h1
 . show 2*v.A.n<=(List.replicate n 0).length;rw[f,e1];exact r
 . show v.A.n<=_;rw[e1];exact hm
 . show ([]:List Int).length=v.A.begun;rw[l];rfl
 . intro j
   have e:fJ ([]:List Int) j=0:=by show (none:Option Int).getD default=0;rfl
   show gX .u64 (fJ ([]:List Int) j)
   rw[e]
   exact⟨d_,d_⟩
 . intro i
   constructor
   . rintro⟨p,_,hp⟩
     change fJ (List.replicate n 0) p=i+1 at hp
     rw[k]at hp
     omega
   . exact fun h=>absurd h (g i)
 . intro p q _ _ o
   exact absurd (k p) o
 . exact fun a b t=>absurd t (g a)
 . intro c j q _ _ d
   change fJ (List.replicate n 0) c=j+1 at d
   rw[k]at d
   omega
 . show v.A.begun<=v.A.n;rw[l];omega
 . show v.A.used<=v.A.n;rw[hv];exact mZ _
end
end Go.Sx
namespace Go.Sx
open Go
structure Lv where
 slot:Int
 seq:Int
 u:Int
 v:Int
 wt:Int
 t:Int
 exp:Int
structure Cf where
 win:Int
 fM:Int
 fO:Int
 ki:Int
instance:Inhabited Lv:=⟨⟨0,0,0,0,0,0,0⟩⟩
def Lv.cells(x:Lv):List Value:=[.int .i64 x.slot,.int .u64 x.seq,.int .u64 x.u,.int .u64 x.v,.int .i64 x.wt,.int .i64 x.t,.int .i64 x.exp]
structure Lv.ok (x:Lv):Prop where
 slot:gX .i64 x.slot
 seq:gX .u64 x.seq
 u:gX .u64 x.u
 v:gX .u64 x.v
 wt:gX .i64 x.wt
 t:gX .i64 x.t
 exp:gX .i64 x.exp
end Go.Sx
namespace Go.Sx
open Go
end Go.Sx
namespace Go.Sx
open Go
structure fW where
 jd:Nat
 tb:Nat
 ab:Nat
 mb:Nat
 lv:Value
 last:Int
 aw:AW
 t:TW
 live:List Lv
 im:IM
abbrev fW.A(s:fW):As:=s.aw.A
abbrev Lv.at(x:Lv)(id:Int):Prop:=x.u=id\/x.v=id
def fW.inc(s:fW)(id:Int):List Nat:=(gh s.im id).2
structure fW.ok (fO fM:Nat) (s:fW):Prop where
 n:s.A.n=fM
 tn:s.t.A.n=fO
 en:fM<=16384
 vn:fO<=4096
 kU:s.A.ok
 tok:s.t.ok
 ll:s.live.length=s.A.begun
 slot:∀ i,s.A.gY i->(fJ s.live i).slot=(i:Int)
 Fe:∀ i,(fJ s.live i).ok
 ne:∀ i,s.A.gY i->(fJ s.live i).u≠(fJ s.live i).v
 mem:∀ id,s.t.mem id↔∃ i,s.A.gY i/\(fJ s.live i).at id
 keys:(s.im.map Prod.fst).Nodup
 inc:∀ id i,i∈s.inc id↔s.A.gY i/\(fJ s.live i).at id
 nd:∀ id,(s.inc id).Nodup
 empty:∀ id,gZ s.im id=none↔s.inc id=[]
 seq:∀ i,s.A.gY i->(fJ s.live i).seq<=s.last
 FQ:∀ i j,s.A.gY i->s.A.gY j->(fJ s.live i).seq=(fJ s.live j).seq->i=j
 sN:0<=s.last
def fW.has(s:fW)(x:Lv):Prop:=∃ i,s.A.gY i/\fJ s.live i=x
noncomputable def TW.cnt(t:TW)(id:Int):Nat:=by
 classical
 exact if t.mem id then 0 else 1
theorem TW.vO{t:TW}{id:Int}(h:t.mem id):t.cnt id=0:=by unfold TW.cnt;exact if_pos h
theorem TW.tA{t:TW}{id:Int}(h:¬ t.mem id):t.cnt id=1:=by unfold TW.cnt;exact if_neg h
theorem TW.oc.cnt{t:TW}{id:Int}{z:Nat}{b:Bool}(h:t.oc id z b):t.cnt id=if b then 0 else 1:=by
 rcases h with ⟨rfl,a,c⟩|⟨rfl,_,h⟩
 . exact TW.vO ⟨z,a,c⟩
 . exact TW.tA h
noncomputable def fW.gK(s:fW)(fO fM:Nat)(u v:Int):Int:=by
 classical
 exact if u=v then 9 else if fM<=s.A.used then 12 else if fO<s.t.A.used+(s.t.cnt u+s.t.cnt v)then 11 else 0
theorem fW.ND{s:fW}{fO fM:Nat}{u v:Int}(h:u=v):s.gK fO fM u v=9:=by unfold fW.gK;rw[if_pos h]
theorem fW.NC{s:fW}{fO fM:Nat}{u v:Int}(h:u≠v)(h1:fM<=s.A.used):s.gK fO fM u v=12:=by unfold fW.gK;rw[if_neg h,if_pos h1]
theorem fW.B4{s:fW}{fO fM:Nat}{u v:Int}(h:u≠v)(h1:¬ fM<=s.A.used)(a:fO<s.t.A.used+(s.t.cnt u+s.t.cnt v)):s.gK fO fM u v=11:=by unfold fW.gK;rw[if_neg h,if_neg h1,if_pos a]
theorem fW.Ab{s:fW}{fO fM:Nat}{u v:Int}(h:u≠v)(h1:¬ fM<=s.A.used)(a:¬ fO<s.t.A.used+(s.t.cnt u+s.t.cnt v)):s.gK fO fM u v=0:=by unfold fW.gK;rw[if_neg h,if_neg h1,if_neg a]
theorem fW.HY{s:fW}{fO fM:Nat}{u v:Int}(h:s.gK fO fM u v=0):u≠v/\s.A.used<fM/\s.t.A.used+(s.t.cnt u+s.t.cnt v)<=fO:=by
 by_cases h1:u=v
 . rw[fW.ND h1]at h;cases h
 . by_cases h2:fM<=s.A.used
   . rw[fW.NC h1 h2]at h;cases h
   . by_cases h3:fO<s.t.A.used+(s.t.cnt u+s.t.cnt v)
     . rw[fW.B4 h1 h2 h3]at h;cases h
     . exact⟨h1,o_,o_⟩
def x8(ls:List Lv)(i:Nat)(x:Lv):List Lv:=fN (if i=ls.length then ls++[default]else ls) i (fun _=>x)
theorem acP{ls:List Lv}{i:Nat}{x:Lv}(h:i<=ls.length)(j:Nat):fJ (x8 ls i x) j=if i=j then x else fJ ls j:=by
 unfold x8
 split
 . rename_i e
   rw[iS (by simp[e])]
   split
   . rfl
   . rename_i b
     simp only[fJ,Bu]
     split
     . rfl
     . have a:(ls[j]? : Option Lv)=none:=zt o_
       rw[a,zt (by simp;omega)]
 . rw[iS o_]
theorem acQ{ls:List Lv}{i:Nat}{x:Lv}(h:i<=ls.length):(x8 ls i x).length=if i=ls.length then ls.length+1 else ls.length:=by
 unfold x8
 rw[gC]
 split<;>simp
section
variable {fO fM:Nat} {s:fW}
theorem fW.ok.ins(h:s.ok fO fM){e:Lv}{i:Nat}{p:AW}{q:TW}(hp:AW.put s.A p.A i)(r:p.A.ok)(W:q.ok)(N:e.slot=(i:Int))(z:e.seq=s.last+1)(M:e.ok)(S:e.u≠e.v)
 (U:∀ x,q.mem x↔(s.t.mem x\/x=e.u)\/x=e.v) (V:q.A.n=s.t.A.n) {lv2 K v2:Value} {ls:List Lv} (H:ls=x8 s.live i e) {im2:IM}
 (F:im2=gD (gD s.im e.u (K,s.inc e.u++[i])) e.v (v2,s.inc e.v++[i])) :
 fW.ok fO fM ⟨s.jd,s.tb,s.ab,s.mb,lv2,s.last+1,p,q,ls,im2⟩/\∀ x,fW.has ⟨s.jd,s.tb,s.ab,s.mb,lv2,s.last+1,p,q,ls,im2⟩ x↔s.has x\/x=e:=by
 have X:=h.ll
 have G:i<=s.live.length:=by
  rcases hp.pH with c|c<;>omega
 have w:∀ j,fJ ls j=if i=j then e else fJ s.live j:=by rw[H];exact acP G
 have R:ls.length=if i=s.live.length then s.live.length+1 else s.live.length:=by rw[H];exact acQ G
 have k:=hp.gY
 have I:=hp.new
 have J:∀ j,s.A.gY j->i≠j:=fun j d e=>I (e▸d)
 have l:∀ j,s.A.gY j->fJ ls j=fJ s.live j:=fun j d=>by rw[w,if_neg (J j d)]
 have o:fJ ls i=e:=by rw[w,if_pos rfl]
 have E:∀ id,gZ im2 id=if e.v=id then some (v2,s.inc e.v++[i])else if e.u=id then some (K,s.inc e.u++[i])else gZ s.im id:=by
  intro id
  rw[F,wj,wj]
 have C:∀ id,(gh im2 id).2=if e.v=id then s.inc e.v++[i]else if e.u=id then s.inc e.u++[i]else s.inc id:=by
  intro id
  unfold gh
  rw[E]
  split
  . rfl
  . split
    . rfl
    . rfl
 have T:∀ id,i∉s.inc id:=fun id hi=>I ((h.inc id i).1 hi).1
 refine⟨⟨?_,?_,h.en,h.vn,r,W,?_,?_,?_,?_,?_,?_,?_,?_,?_,?_,?_,?_⟩,fun x=>⟨?_,?_⟩⟩
 . exact hp.n.trans h.n
 . exact V.trans h.tn
 . show ls.length=p.A.begun
   rw[R]
   rcases hp.pH with c|c
   . rw[if_neg o_];omega
   . rw[if_pos o_];omega
 . intro j d
   show (fJ ls j).slot=(j:Int)
   rcases(k j).1 d with c|rfl
   . rw[l j c];exact h.slot j c
   . rw[o];exact N
 . intro j
   show (fJ ls j).ok
   rw[w]
   split
   . exact M
   . exact h.Fe j
 . intro j d
   show (fJ ls j).u≠(fJ ls j).v
   rcases(k j).1 d with c|rfl
   . rw[l j c];exact h.ne j c
   . rw[o];exact S
 . intro id
   show q.mem id↔∃ j,p.A.gY j/\(fJ ls j).at id
   rw[U,h.mem]
   constructor
   . rintro((⟨j,d,f⟩|rfl)|rfl)
     . exact⟨j,(k j).2 (.inl d),by rw[l j d];exact f⟩
     . exact⟨i,(k i).2 (.inr rfl),by rw[o];exact .inl rfl⟩
     . exact⟨i,(k i).2 (.inr rfl),by rw[o];exact .inr rfl⟩
   . rintro⟨j,d,f⟩
     rcases(k j).1 d with c|rfl
     . rw[l j c]at f
       exact .inl (.inl ⟨j,c,f⟩)
     . rw[o]at f
       rcases f with f|f
       . exact .inl (.inr f.symm)
       . exact .inr f.symm
 . show (im2.map Prod.fst).Nodup
   rw[F]
   exact CJ (CJ h.keys _ _) _ _
 . intro id j
   show j∈(gh im2 id).2↔p.A.gY j/\(fJ ls j).at id
   rw[C,k]
   have O:=h.inc id j
   have y:j∈s.inc id↔(s.A.gY j\/j=i)/\j≠i/\(fJ ls j).at id:=by
    rw[O]
    constructor
    . rintro⟨c,g⟩
      exact⟨.inl c,fun e=>J j c e.symm,by rw[l j c];exact g⟩
    . rintro⟨c|c,g,m⟩
      . rw[l j c]at m;exact⟨c,m⟩
      . exact absurd c g
   have B:j=i->((fJ ls j).at id↔e.u=id\/e.v=id):=by rintro rfl;rw[o]
   by_cases hv:e.v=id
   . rw[if_pos hv,zm,zz,hv,y]
     constructor
     . rintro(⟨c,_,m⟩|c)
       . exact⟨c,m⟩
       . exact⟨.inr c,(B c).2 (.inr hv)⟩
     . rintro⟨c,g⟩
       by_cases d:j=i
       . exact .inr d
       . exact .inl ⟨c,d,g⟩
   . rw[if_neg hv]
     by_cases hu:e.u=id
     . rw[if_pos hu,zm,zz,hu,y]
       constructor
       . rintro(⟨c,_,m⟩|c)
         . exact⟨c,m⟩
         . exact⟨.inr c,(B c).2 (.inl hu)⟩
       . rintro⟨c,g⟩
         by_cases d:j=i
         . exact .inr d
         . exact .inl ⟨c,d,g⟩
     . rw[if_neg hu,y]
       constructor
       . rintro⟨c,_,m⟩
         exact⟨c,m⟩
       . rintro⟨c,g⟩
         refine⟨c,fun d=>?_,g⟩
         rcases(B d).1 g with m|m
         . exact hu m
         . exact hv m
 . intro id
   show (gh im2 id).2.Nodup
   rw[C]
   have D:∀ id,(s.inc id++[i]).Nodup:=fun id=>zr.2 ⟨h.nd id,s_,fun a r b hb=>by
    rw[zz]at hb
    subst hb
    rintro rfl
    exact T id r⟩
   split
   . exact D _
   . split
     . exact D _
     . exact h.nd id
 . intro id
   show gZ im2 id=none↔(gh im2 id).2=[]
   rw[C,E]
   split
   . simp
   . split
     . simp
     . exact h.empty id
 . intro j d
   show (fJ ls j).seq<=s.last+1
   rcases(k j).1 d with c|rfl
   . rw[l j c];have:=h.seq j c;omega
   . rw[o,z];omega
 . intro a b P Q
   show (fJ ls a).seq=(fJ ls b).seq->a=b
   rcases(k a).1 P with c|c<;>rcases(k b).1 Q with g|g
   . rw[l a c,l b g];exact h.FQ a b c g
   . rw[l a c,g,o,z];intro L;have:=h.seq a c;omega
   . rw[l b g,c,o,z];intro L;have:=h.seq b g;omega
   . intro _;omega
 . show 0<=s.last+1
   have:=h.sN
   omega
 . rintro⟨j,d,f⟩
   change fJ ls j=x at f
   rcases(k j).1 d with c|c
   . rw[l j c]at f;exact .inl ⟨j,c,f⟩
   . rw[c,o]at f;exact .inr f.symm
 . rintro(⟨j,d,f⟩|rfl)
   . exact⟨j,(k j).2 (.inl d),by show fJ ls j=x;rw[l j d];exact f⟩
   . exact⟨i,(k i).2 (.inr rfl),o⟩
end
structure TW.GY (t t2:TW) (id:Int):Prop where
 mem:∀ x,t2.mem x↔t.mem x\/x=id
 n:t2.A.n=t.A.n
 used:t2.A.used=t.A.used+t.cnt id
theorem TW.Se{t:TW}{u:Int}(h:t.A.used+t.cnt u<=t.A.n):t.mem u\/t.A.used<t.A.n:=by
 by_cases hm:t.mem u
 . exact .inl hm
 . rw[TW.tA hm]at h
   exact .inr o_
theorem TW.GY.room{t a:TW}{u v:Int}(p:TW.GY t a u)(h:t.A.used+(t.cnt u+t.cnt v)<=t.A.n):a.mem v\/a.A.used<a.A.n:=by
 by_cases hm:a.mem v
 . exact .inl hm
 . have c:¬ t.mem v:=fun b=>hm ((p.mem v).2 (.inl b))
   rw[TW.tA c]at h
   rw[p.used,p.n]
   exact .inr o_
theorem tF{γ:Type}[Inhabited γ]{m:List (Int×γ)}{a c:Int}{x:γ}(h:a≠c):gh (gD m a x) c=gh m c:=by
 unfold gh
 rw[wj,if_neg h]
theorem kA{a:Int}(h : -9223372036854775808<=a/\a<=9223372036854775807):gX .i64 a:=h
theorem oO{a:Int}(h:0<=a/\a<=18446744073709551615):gX .u64 a:=h
theorem fW.ok.Jg{fO fM:Nat}{s:fW}(h:s.ok fO fM)(id:Int):(s.inc id).length<=65536:=by
 refine kS (AJ s.A.begun _ (h.nd id) fun j a=>((h.inc id j).1 a).1.1) ?_
 have:=h.kU.le
 have:=h.n
 have:=h.en
 omega
structure nj (im:IM) (t:TW) (im2:IM) (t2:TW) (id:Int) (i:Nat):Prop where
 get:∀ c j,j∈(gh im2 c).2↔j∈(gh im c).2/\(c=id->j≠i)
 nd:(∀ c,(gh im c).2.Nodup)->∀ c,(gh im2 c).2.Nodup
 none:(∀ c,gZ im c=none↔(gh im c).2=[])->∀ c,gZ im2 c=none↔(gh im2 c).2=[]
 keys:(im.map Prod.fst).Nodup->(im2.map Prod.fst).Nodup
 mem:∀ x,t2.mem x↔t.mem x/\(x=id->(gh im2 id).2≠[])
 n:t2.A.n=t.A.n
theorem abp{γ:Type}[Inhabited γ]{m:List (Int×γ)}{a c:Int}{x:γ}:gh (gD m a x) c=if a=c then x else gh m c:=by
 unfold gh
 rw[wj]
 split<;>rfl
theorem abo{m:IM}(b:(m.map Prod.fst).Nodup){a c:Int}:gh (iZ m a) c=if a=c then default else gh m c:=by
 unfold gh
 rw[JN b]
 split<;>rfl
theorem JV{xs:List Nat}(d:xs.Nodup){a b:Nat}(c:a<xs.length)(hb:b<xs.length)(e:xs[a]=xs[b]):a=b:=by
 rcases GS a b with h|h|h
 . exact absurd e (u5.1 d a b c hb h)
 . exact h
 . exact absurd e.symm (u5.1 d b a hb c h)
theorem Pg{xs:List Nat}{i k:Nat}(h:xs.Nodup)(hk:xs[k]? = some i)(j:Nat):j∈xs.eraseIdx k↔j∈xs/\j≠i:=by
 obtain⟨g,d⟩:=zg.1 hk
 rw[List.mem_eraseIdx_iff_getElem]
 constructor
 . rintro⟨a,b,c,rfl⟩
   refine⟨List.getElem_mem b,fun e=>c ?_⟩
   exact JV h b g (e.trans d.symm)
 . rintro⟨f,c⟩
   obtain⟨a,b,rfl⟩:=vg f
   exact⟨a,b,fun e=>c (by subst e;exact d),rfl⟩
theorem nj.keep{im:IM}{t:TW}{id:Int}{i k:Nat}{v:Value}(b:(gh im id).2.Nodup)(hk:(gh im id).2[k]? = some i)(d:(gh im id).2.eraseIdx k≠[]):nj im t (gD im id (v,(gh im id).2.eraseIdx k)) t id i:=by
 have a:∀ c,(gh (gD im id (v,(gh im id).2.eraseIdx k)) c).2=if id=c then(gh im id).2.eraseIdx k else(gh im c).2:=fun c=>by rw[abp];split<;>rfl
 refine⟨fun c j=>?_,fun h c=>?_,fun h c=>?_,fun h=>CJ h _ _,fun x=>⟨fun h=>⟨h,fun _=>?_⟩,fun h=>h.1⟩,rfl⟩
 . rw[a]
   split
   . rename_i e
     subst e
     rw[Pg b hk]
     exact⟨fun h=>⟨h.1,fun _=>h.2⟩,fun h=>⟨h.1,h.2 rfl⟩⟩
   . rename_i e
     exact⟨fun h=>⟨h,fun f=>absurd f.symm e⟩,fun h=>h.1⟩
 . rw[a]
   split
   . exact b.sublist (LK _ _)
   . exact h c
 . rw[a,wj]
   split
   . exact⟨fun h=>(by cases h),fun h=>absurd h d⟩
   . exact h c
 . rw[a,if_pos rfl];exact d
theorem nj.drop{im:IM}{t b:TW}{id:Int}{i k:Nat}(f:(im.map Prod.fst).Nodup)(m:(gh im id).2.Nodup)(hk:(gh im id).2[k]? = some i)(l:(gh im id).2.eraseIdx k=[])(o:∀ x,b.mem x↔t.mem x/\x≠id)(p:b.A.n=t.A.n):nj im t (iZ im id) b id i:=by
 have a:∀ c,(gh (iZ im id) c).2=if id=c then[]else(gh im c).2:=fun c=>by rw[abo f];split<;>rfl
 have d:=Pg m hk
 rw[l]at d
 refine⟨fun c j=>?_,fun h c=>?_,fun h c=>?_,fun h=>Q3 h _,fun x=>?_,p⟩
 . rw[a]
   split
   . rename_i e
     subst e
     rw[d]
     exact⟨fun h=>⟨h.1,fun _=>h.2⟩,fun h=>⟨h.1,h.2 rfl⟩⟩
   . rename_i e
     exact⟨fun h=>⟨h,fun g=>absurd g.symm e⟩,fun h=>h.1⟩
 . rw[a]
   split
   . exact w6
   . exact h c
 . rw[a,JN f]
   split
   . exact⟨fun _=>rfl,fun _=>rfl⟩
   . exact h c
 . rw[o,a,if_pos rfl]
   exact and_congr_right fun _=>⟨fun h e=>absurd e h,fun h e=>h e rfl⟩
section
variable {fO fM:Nat} {s:fW}
theorem fW.ok.rem(h:s.ok fO fM){i:Nat}(hi:s.A.gY i){k:AW}(hd:AW.del s.A k.A i)(K:k.A.ok){F im2:IM}{J z:TW}(Q:z.ok)
 (y:nj s.im s.t F J (fJ s.live i).u i) (o:nj F J im2 z (fJ s.live i).v i) {lv2:Value} {ls:List Lv} (I:ls=fN s.live i (fun _=>default)) :
 fW.ok fO fM ⟨s.jd,s.tb,s.ab,s.mb,lv2,s.last,k,z,ls,im2⟩/\∀ x,fW.has ⟨s.jd,s.tb,s.ab,s.mb,lv2,s.last,k,z,ls,im2⟩ x↔s.has x/\x.slot≠(i:Int):=by
 have O:=h.ll
 have M:i<s.live.length:=by have:=hi.1;omega
 have B:∀ j,fJ ls j=if i=j then default else fJ s.live j:=by rw[I];exact fun j=>iS M
 have l:=hd.gY
 have R:=h.ne i hi
 have D:∀ c j,j∈(gh im2 c).2↔j∈s.inc c/\(c=(fJ s.live i).u->j≠i)/\(c=(fJ s.live i).v->j≠i):=by
  intro c j
  rw[o.get,y.get,and_assoc]
  rfl
 have E:∀ c j,j∈(gh im2 c).2↔k.A.gY j/\(fJ ls j).at c:=by
  intro c j
  rw[D,l,h.inc]
  constructor
  . rintro⟨⟨f,g⟩,w,C⟩
    have m:j≠i:=by
     rintro rfl
     rcases g with g|g
     . exact w g.symm rfl
     . exact C g.symm rfl
    exact⟨⟨f,m⟩,by rw[B,if_neg (fun e=>m e.symm)];exact g⟩
  . rintro⟨⟨f,m⟩,g⟩
    rw[B,if_neg (fun e=>m e.symm)]at g
    exact⟨⟨f,g⟩,fun _=>m,fun _=>m⟩
 have q:∀ j,k.A.gY j->fJ ls j=fJ s.live j:=fun j d=>by rw[B,if_neg (fun e=>((l j).1 d).2 e.symm)]
 refine⟨⟨hd.n.trans h.n,(o.n.trans y.n).trans h.tn,h.en,h.vn,K,Q,?_,?_,?_,?_,?_,o.keys (y.keys h.keys),E,o.nd (y.nd h.nd),o.none (y.none h.empty),?_,?_,h.sN⟩,fun x=>⟨?_,?_⟩⟩
 . show ls.length=k.A.begun
   rw[I,gC,hd.pH]
   exact O
 . intro j d
   show (fJ ls j).slot=(j:Int)
   rw[q j d]
   exact h.slot j ((l j).1 d).1
 . intro j
   show (fJ ls j).ok
   rw[B]
   split
   . exact⟨kA (by show _/\_;decide),oO (by show _/\_;decide),oO (by show _/\_;decide),oO (by show _/\_;decide),kA (by show _/\_;decide),kA (by show _/\_;decide),kA (by show _/\_;decide)⟩
   . exact h.Fe j
 . intro j d
   show (fJ ls j).u≠(fJ ls j).v
   rw[q j d]
   exact h.ne j ((l j).1 d).1
 . intro x
   show z.mem x↔∃ j,k.A.gY j/\(fJ ls j).at x
   rw[o.mem,y.mem]
   have L:(∃ j,k.A.gY j/\(fJ ls j).at x)↔(gh im2 x).2≠[]:=by
    constructor
    . rintro⟨j,d⟩ e
      have:=(E x j).2 d
      rw[e]at this
      simp at this
    . intro P
      obtain⟨j,d⟩:=Ly _ P
      exact⟨j,(E x j).1 d⟩
   rw[L]
   constructor
   . rintro⟨⟨f,g⟩,w⟩
     by_cases hv:x=(fJ s.live i).v
     . rw[hv];exact w hv
     . by_cases hu:x=(fJ s.live i).u
       . have C:=g hu
         intro e
         obtain⟨j,d⟩:=Ly _ C
         have:j∈(gh im2 x).2:=(o.get x j).2 ⟨by rw[hu];exact d,fun p=>absurd p hv⟩
         rw[e]at this
         simp at this
       . obtain⟨j,d,N⟩:=(h.mem x).1 f
         intro e
         have:j∈(gh im2 x).2:=(D x j).2 ⟨(h.inc x j).2 ⟨d,N⟩,fun p=>absurd p hu,fun p=>absurd p hv⟩
         rw[e]at this
         simp at this
   . intro f
     obtain⟨j,d⟩:=Ly _ f
     have g:=(D x j).1 d
     have w:=(h.inc x j).1 g.1
     refine⟨⟨(h.mem x).2 ⟨j,w.1,w.2⟩,fun e=>?_⟩,fun e=>by rw[<-e];exact f⟩
     intro p
     have:j∈(gh F x).2:=((o.get x j).1 d).1
     rw[e,p]at this
     simp at this
 . intro j d
   show (fJ ls j).seq<=s.last
   rw[q j d]
   exact h.seq j ((l j).1 d).1
 . intro a b G H
   show (fJ ls a).seq=(fJ ls b).seq->a=b
   rw[q a G,q b H]
   exact h.FQ a b ((l a).1 G).1 ((l b).1 H).1
 . rintro⟨j,d,r⟩
   change fJ ls j=x at r
   rw[q j d]at r
   have f:=(l j).1 d
   refine⟨⟨j,f.1,r⟩,?_⟩
   rw[<-r,h.slot j f.1]
   intro e
   exact f.2 o_
 . rintro⟨⟨j,d,r⟩,hs⟩
   have m:j≠i:=by
    rintro rfl
    rw[<-r,h.slot j d]at hs
    exact hs rfl
   have f:=(l j).2 ⟨d,m⟩
   exact⟨j,f,by show fJ ls j=x;rw[q j f];exact r⟩
end
theorem Jc{xs:List Nat}{i:Nat}(h:i∈xs)(l:xs.Nodup):∃ k,xs[k]? = some i/\(gw xs)[k]? = some (i:Int)/\∀ (j:Nat) (y:Int),j<k->(gw xs)[j]? = some y->y≠(i:Int):=by
 obtain⟨k,b,e⟩:=vg h
 refine⟨k,by rw[zj b,e],by simp[gw,kR,zj b,e],fun j y m c n=>?_⟩
 simp only[gw,kR,Option.map_eq_some_iff]at c
 obtain⟨a,d,rfl⟩:=c
 obtain⟨g,f⟩:=zg.1 d
 have:j=k:=JV l g b (by rw[f,e];omega)
 omega
theorem JT{xs:List Nat}(h:∀ j∈xs,j<65536):∀ y∈gw xs,gX .i64 y:=by
 intro y b
 obtain⟨j,a,rfl⟩:=z7.1 b
 have:=h j a
 exact kA o_
theorem Jf{fO fM:Nat}{s:fW}(h:s.ok fO fM){id:Int}{P:Nat->Prop}(hs:∀ j,P j->j∈s.inc id){j:Nat}(a:P j):j<65536:=by
 have b:=((h.inc id j).1 (hs j a)).1.1
 have:=h.kU.le
 have:=h.n
 have:=h.en
 omega
theorem inc_le{fO fM:Nat}{s:fW}(h:s.ok fO fM){a:IM}{d:TW}{id:Int}{i:Nat}(o:nj s.im s.t a d id i)(c:Int):(gh a c).2.length<=65536:=by
 refine kS (AJ s.A.begun _ (o.nd h.nd c) fun j b=>((h.inc c j).1 ((o.get c j).1 b).1).1.1) ?_
 have:=h.kU.le
 have:=h.n
 have:=h.en
 omega
theorem fW.tG{fO fM:Nat}{aw:AW}{t:TW}(c:aw.A=As.new fM)(g:t.ok)(e:∀ x,¬ t.mem x)(f:t.A.n=fO)(d:fM<=16384)(hv:fO<=4096)(jd tb ab mb:Nat) :
 fW.ok fO fM ⟨jd,tb,ab,mb,.slice none 0 0,0,aw,t,[],[]⟩/\∀ x,¬ fW.has ⟨jd,tb,ab,mb,.slice none 0 0,0,aw,t,[],[]⟩ x:=by
 have b:∀ j,¬ aw.A.gY j:=fun j a=>by rw[c]at a;exact absurd a.1 (by simp[As.new])
 have hd:∀ j,fJ ([]:List Lv) j=⟨0,0,0,0,0,0,0⟩:=fun j=>rfl
 refine⟨⟨?_,f,d,hv,?_,g,?_,?_,?_,?_,?_,?_,?_,?_,?_,?_,?_,?_⟩,fun x ⟨j,a,_⟩=>b j a⟩
 . show aw.A.n=fM;rw[c];rfl
 . show aw.A.ok;rw[c];exact As.tG o_
 . show ([]:List Lv).length=aw.A.begun;rw[c];rfl
 . exact fun j a=>absurd a (b j)
 . intro j
   show Lv.ok (⟨0,0,0,0,0,0,0⟩:Lv)
   exact⟨kA (by show _/\_;decide),oO (by show _/\_;decide),oO (by show _/\_;decide),oO (by show _/\_;decide),kA (by show _/\_;decide),kA (by show _/\_;decide),kA (by show _/\_;decide)⟩
 . exact fun j a=>absurd a (b j)
 . exact fun id=>⟨fun h=>absurd h (e id),fun⟨j,a,_⟩=>absurd a (b j)⟩
 . exact w6
 . exact fun id j=>⟨fun h=>(by cases h),fun h=>absurd h.1 (b j)⟩
 . exact fun id=>w6
 . exact fun id=>⟨fun _=>rfl,fun _=>rfl⟩
 . exact fun j a=>absurd a (b j)
 . exact fun j _ a=>absurd a (b j)
 . exact Int.le_refl 0
end Go.Sx
namespace Go.Sx
open Go
theorem xX:∀ (L M:List Int),L.Nodup->(∀ j∈L,j∈M)->L.length<=M.length
 | [],_,_,_=>by simp
 | x :: L,M,hn,h=>by
  have b:=h x s_
  have c:=xX L (M.erase x) (zu.1 hn).2 (fun j a=>(List.mem_erase_of_ne (fun e=>(zu.1 hn).1 (by rw[<-e];exact a))).2 (h j (by simp[a])))
  rw[LD b]at c
  have:=LF b
  simp only[ze]
  omega
def TW.tC(t:TW):List Int:=(t.A.list t.A.begun).map (fJ t.ids)
theorem TW.Jb{t:TW}(hA:t.A.ok)(x:Int):x∈t.tC↔t.mem x:=by
 unfold TW.tC TW.mem
 rw[z7]
 exact⟨fun⟨i,a,b⟩=>⟨i,(hA.oQ i).1 a,b⟩,fun⟨i,a,b⟩=>⟨i,(hA.oQ i).2 a,b⟩⟩
theorem TW.PT{t:TW}(hA:t.A.ok):t.tC.length=t.A.used:=by rw[TW.tC,zo,hA.AD]
theorem JZ{α β:Type}{f:α->β}:∀ {l:List α},l.Nodup->(∀ x∈l,∀ y∈l,f x=f y->x=y)->(l.map f).Nodup
 | [],_,_=>w6
 | a :: l,h,hf=>by
  rw[jV,zu]
  refine⟨fun hm=>?_,JZ (zu.1 h).2 fun x c y d=>hf x (by simp[c]) y (by simp[d])⟩
  obtain⟨b,hb,e⟩:=z7.1 hm
  have:=hf b (by simp[hb]) a s_ e
  subst this
  exact(zu.1 h).1 hb
theorem TW.PU{t:TW}(h:t.ok)(hA:t.A.ok):t.tC.Nodup :=
 JZ ((t.A.CA _).imp fun h=>Nat.ne_of_lt h) fun x a y b e=>h.uniq x y ((hA.oQ x).1 a) ((hA.oQ y).1 b) e
theorem TW.HQ{t:TW}(h:t.ok)(hA:t.A.ok){u v:Int}(d:u≠v):∃ K:List Int,K.Nodup/\K.length=t.A.used+(t.cnt u+t.cnt v)/\∀ x,x∈K↔t.mem x\/x=u\/x=v:=by
 have b:=TW.PU h hA
 have e:=TW.PT hA
 have hm:=TW.Jb hA
 by_cases hu:t.mem u<;>by_cases hv:t.mem v
 . rw[TW.vO hu,TW.vO hv]
   refine⟨t.tC,b,o_,fun x=>(hm x).trans ⟨.inl,?_⟩⟩
   rintro(a|rfl|rfl)
   . exact a
   . exact hu
   . exact hv
 . rw[TW.vO hu,TW.tA hv]
   refine⟨v :: t.tC,zu.2 ⟨fun a=>hv ((hm v).1 a),b⟩,by simp;omega,fun x=>?_⟩
   rw[zb,hm]
   constructor
   . rintro(a|a)
     . exact .inr (.inr a)
     . exact .inl a
   . rintro(a|rfl|a)
     . exact .inr a
     . exact .inr hu
     . exact .inl a
 . rw[TW.tA hu,TW.vO hv]
   refine⟨u :: t.tC,zu.2 ⟨fun a=>hu ((hm u).1 a),b⟩,by simp;omega,fun x=>?_⟩
   rw[zb,hm]
   constructor
   . rintro(a|a)
     . exact .inr (.inl a)
     . exact .inl a
   . rintro(a|a|rfl)
     . exact .inr a
     . exact .inl a
     . exact .inr hv
 . rw[TW.tA hu,TW.tA hv]
   refine⟨u :: v :: t.tC,zu.2 ⟨fun a=>?_,zu.2 ⟨fun a=>hv ((hm v).1 a),b⟩⟩,by simp;omega,fun x=>?_⟩
   . rcases zb.1 a with c|c
     . exact d c
     . exact hu ((hm u).1 c)
   . rw[zb,zb,hm]
     constructor
     . rintro(a|a|a)
       . exact .inr (.inl a)
       . exact .inr (.inr a)
       . exact .inl a
     . rintro(a|a|a)
       . exact .inr (.inr a)
       . exact .inl a
       . exact .inr (.inl a)
section
variable {fO fM:Nat} {s s1 s2:fW}
theorem fW.ok.Ar(h:s.ok fO fM){x:Lv}(a:s.has x):∃ i:Nat,x.slot=(i:Int)/\s.A.gY i/\fJ s.live i=x/\i<fM:=by
 obtain⟨i,hi,rfl⟩:=a
 refine⟨i,h.slot i hi,hi,rfl,?_⟩
 have:=hi.1
 have:=h.kU.le
 have:=h.n
 omega
theorem fW.ok.KM(h:s.ok fO fM){x y:Lv}(c:s.has x)(d:s.has y)(e:x.slot=y.slot):x=y:=by
 obtain⟨i,g,_,b,_⟩:=h.Ar c
 obtain⟨j,f,_,a,_⟩:=h.Ar d
 have:i=j:=by omega
 subst this
 rw[<-b,<-a]
theorem fW.ok.Su(h:s.ok fO fM){x:Lv}(a:s.has x):x.seq<=s.last:=by
 obtain⟨i,hi,rfl⟩:=a
 exact h.seq i hi
theorem fW.ok.Aq(h:s.ok fO fM){x:Lv}(a:s.has x):x.ok/\x.u≠x.v:=by
 obtain⟨i,hi,rfl⟩:=a
 exact⟨h.Fe i,h.ne i hi⟩
theorem fW.ag5(h1:s1.ok fO fM)(a:s2.ok fO fM)(hs:∀ x,s1.has x->s2.has x):s1.A.used<=s2.A.used:=by
 rw[<-h1.kU.AD,<-a.kU.AD]
 refine CL _ _ ((s1.A.CA _).imp fun h=>Nat.ne_of_lt h) fun i hi=>?_
 have b:=(h1.kU.oQ i).1 hi
 obtain⟨j,c,e⟩:=hs _ ⟨i,b,rfl⟩
 have d:=a.slot j c
 rw[e,h1.slot i b]at d
 have:i=j:=by omega
 subst this
 exact(a.kU.oQ i).2 c
theorem fW.Ve(h1:s1.ok fO fM)(g:s1.t.A.ok)(b:s2.ok fO fM)(h:s2.t.A.ok)(hs:∀ x,s1.has x->s2.has x){u v:Int}(l:s2.gK fO fM u v=0):s1.gK fO fM u v=0:=by
 obtain⟨a,p,q⟩:=fW.HY l
 have y:=fW.ag5 h1 b hs
 obtain⟨c,k1,z,o⟩:=TW.HQ h1.tok g a
 obtain⟨d,r,s,f⟩:=TW.HQ b.tok h a
 have w:c.length<=d.length:=xX c d k1 fun x n=>(f x).2 ((o x).1 n |>.imp_left fun hm=>by
  obtain⟨i,hi,k⟩:=(h1.mem x).1 hm
  obtain⟨j,m,e⟩:=hs _ ⟨i,hi,rfl⟩
  exact(b.mem x).2 ⟨j,m,by rw[e];exact k⟩)
 exact fW.Ab a o_ o_
structure fW.mo (s:fW) (L:List Lv):Prop where
 mem:∀ x,x∈L↔s.has x
 k7:L.Pairwise fun a b=>a.seq<b.seq
theorem fW.mo.nodup{L:List Lv}(h:s.mo L):L.Nodup:=h.k7.imp fun {a b} c e=>by rw[e]at c;omega
theorem fW.mo.slots{L:List Lv}(a:s.mo L)(h:s.ok fO fM):(L.map Lv.slot).Nodup :=
 JZ a.nodup fun x b y c e=>h.KM ((a.mem x).1 b) ((a.mem y).1 c) e
theorem fW.mo.len{L:List Lv}(a:s.mo L)(h:s.ok fO fM):L.length<=fM:=by
 have b:(L.map Lv.slot).length<=((List.range fM).map fun i:Nat=>(i:Int)).length:=xX _ _ (a.slots h) fun j c=>by
  obtain⟨x,d,rfl⟩:=z7.1 c
  obtain⟨i,e,_,_,hi⟩:=h.Ar ((a.mem x).1 d)
  rw[e]
  exact z7.2 ⟨i,z6.2 hi,rfl⟩
 simpa using b
theorem fW.aa4{ys:List Lv}(h:s.ok fO fM)(hp:ys.Perm ((s.A.list s.A.begun).map (fJ s.live)))(hs:ys.Pairwise fun a b=>a.seq<=b.seq):s.mo ys:=by
 refine⟨fun x=>?_,?_⟩
 . rw[hp.mem_iff,z7]
   exact⟨fun⟨i,c,d⟩=>⟨i,(h.kU.oQ i).1 c,d⟩,fun⟨i,c,d⟩=>⟨i,(h.kU.oQ i).2 c,d⟩⟩
 . have c:((s.A.list s.A.begun).map (fJ s.live)).Pairwise fun a b=>a.seq≠b.seq:=by
    rw[GQ]
    refine(s.A.CA _).imp_of_mem fun {a b} f hb j e=>?_
    have:=h.FQ a b ((h.kU.oQ a).1 f) ((h.kU.oQ b).1 hb) e
    omega
   have d:ys.Pairwise fun a b=>a.seq≠b.seq:=hp.symm.pairwise c fun {a b} g e=>g e.symm
   exact(hs.and d).imp fun {a b} h=>by have:=h.1;have:=h.2;omega
theorem C5{α β:Type}[Inhabited α]{l:List α}(f:α->β){k:Nat}(hk:k<l.length):(l.take (k+1)).map f=(l.take k).map f++[f (fJ l k)]:=by
 have a:l[k]? = some (fJ l k):=gy hk
 rw[nY,a]
 simp
end
end Go.Sx
namespace Go.Sx
open Go
structure QS where
 iv:Value
 pv:Value
 ps:List (Option Nat)
 fP:List gE
 pl:List Nat
structure QS.ok (n:Nat) (s:QS):Prop where
 hp:Hp n s.fP s.pl
 gN:js n s.ps s.pl
 ord:Ord s.fP
theorem QS.ok.free{n:Nat}{s:QS}(h:s.ok n){i:Nat}(hi:i<n)(d:∀ e∈s.fP,e.ix≠i):fJ s.pl i=0:=by
 rcases yY (fJ s.pl i)with a|a
 . exact a
 . obtain⟨b,c⟩:=h.hp.of i (fJ s.pl i-1) hi o_
   exact absurd c (d _ (qS.2 ⟨_,b,rfl⟩))
theorem QS.ok.lt{n:Nat}{s:QS}(h:s.ok n){e:gE}(a:e∈s.fP):e.ix<n:=by
 obtain⟨p,hp,rfl⟩:=qS.1 a
 exact h.hp.ix p hp
theorem QS.ok.inj{n:Nat}{s:QS}(h:s.ok n){e f:gE}(a:e∈s.fP)(b:f∈s.fP)(d:e.ix=f.ix):e=f:=by
 obtain⟨p,hp,rfl⟩:=qS.1 a
 obtain⟨q,c,rfl⟩:=qS.1 b
 rw[h.hp.inj hp c d]
structure uc (s0 s:List gE) (ds:List Nat) (now:Int):Prop where
 rest:∀ e,e∈s↔e∈s0/\e.ix∉ds
 Je:∀ i∈ds,∃ e∈s0,e.ix=i/\e.key<=now
 nd:ds.Nodup
 len:s.length+ds.length=s0.length
theorem uc.start(s:List gE)(now:Int):uc s s [] now:=⟨fun e=>by simp,fun i hi=>by simp at hi,w6,s_⟩
theorem uc.step{s0 s s1:List gE}{ds:List Nat}{now:Int}(h:uc s0 s ds now)(f:0<s.length)(hk:(fJ s 0).key<=now)(hm:∀ e,e∈s1↔e∈s/\e.ix≠(fJ s 0).ix)(k:s1.length+1=s.length):uc s0 s1 (ds++[(fJ s 0).ix]) now:=by
 have j:fJ s 0∈s:=qS.2 ⟨0,f,rfl⟩
 have d:=(h.rest _).1 j
 refine⟨fun e=>?_,fun i hi=>?_,?_,?_⟩
 . rw[hm,h.rest,zm,zz,not_or,and_assoc]
 . rcases zm.1 hi with c|c
   . exact h.Je i c
   . rw[zz]at c
     subst c
     exact⟨_,d.1,rfl,hk⟩
 . refine zr.2 ⟨h.nd,s_,?_⟩
   intro a g b hb
   rw[zz]at hb
   subst hb
   rintro rfl
   exact d.2 g
 . have:=h.len
   rw[zq]
   simp
   omega
structure qE (n:Nat) (s0 s:QS) (ds:List Nat) (now:Int):Prop where
 ok:s.ok n
 rest:∀ e,e∈s.fP↔e∈s0.fP/\now<e.key
 out:∀ i,i∈ds↔∃ e∈s0.fP,e.ix=i/\e.key<=now
 nd:ds.Nodup
 len:ds.length<=n
theorem uc.fin{n:Nat}{s0 s:QS}{ds:List Nat}{now:Int}(h:uc s0.fP s.fP ds now)(d:s0.ok n)(h1:s.ok n)(hd:s.fP.length=0\/now<(fJ s.fP 0).key):qE n s0 s ds now:=by
 have g:∀ e∈s.fP,now<e.key:=by
  intro e a
  rcases hd with c|c
  . rw[GI]at c;rw[c]at a;simp at a
  . have:=h1.ord.min a
    unfold iD at this
    omega
 have m:∀ e,e∈s.fP↔e∈s0.fP/\now<e.key:=by
  intro e
  constructor
  . intro a;exact⟨((h.rest e).1 a).1,g e a⟩
  . rintro⟨a,l⟩
    refine(h.rest e).2 ⟨a,fun b=>?_⟩
    obtain⟨f,j,k,o⟩:=h.Je _ b
    have:=d.inj a j k.symm
    subst this
    omega
 refine⟨h1,m,fun i=>⟨h.Je i,?_⟩,h.nd,?_⟩
 . rintro⟨e,a,rfl,l⟩
   by_cases b:e.ix∈ds
   . exact b
   . have:=g e ((h.rest e).2 ⟨a,b⟩)
     omega
 . have:=h.len
   have:=d.hp.len
   omega
end Go.Sx
namespace Go.Sx
open Go
structure Ed where
 a:Nat
 b:Nat
 exp:Int
 tree:Bool
 deriving Inhabited
def Ed.enc(e:Ed):Value:=.agg #[.int .i64 (e.a:Int),.int .i64 (e.b:Int),.int .i64 e.exp,.bool e.tree]
structure GW where
 fb:Nat
 nb:Nat
 hb:Nat
 mb:Nat
 trees:Int
 q:QS
 m:List (Int×Ed)
structure Ed.In (fO:Nat) (e:Ed):Prop where
 a:e.a<fO
 b:e.b<fO
 exp:gX .i64 e.exp
structure GW.ok (fO fM:Nat) (g:GW):Prop where
 v2:2<=fO
 vn:fO<=4096
 en:fM<=16384
 ed:∀ p∈g.m,p.2.In fO
theorem GW.ok.get{fO fM:Nat}{g:GW}(h:g.ok fO fM)(k:Int):(gh g.m k).In fO:=by
 unfold gh
 cases hm:gZ g.m k with
 | none=>exact⟨nX d_ h.v2,nX d_ h.v2,⟨d_,d_⟩⟩
 | some x=>exact h.ed _ (QJ hm)
theorem GW.ok.put{fO fM:Nat}{g:GW}(h:g.ok fO fM){k:Int}{e:Ed}(b:e.In fO){fb nb hb mb:Nat}{c:Int}{q:QS}:GW.ok fO fM ⟨fb,nb,hb,mb,c,q,gD g.m k e⟩ :=
 ⟨h.v2,h.vn,h.en,fun p hp=>by
  rcases zb.1 ((JQ g.m k e).mem_iff.1 hp)with rfl|a
  . exact b
  . exact h.ed p ((JH g.m k).subset a)⟩
theorem GW.ok.del{fO fM:Nat}{g:GW}(h:g.ok fO fM){k:Int}{fb nb hb mb:Nat}{a:Int}{q:QS}:GW.ok fO fM ⟨fb,nb,hb,mb,a,q,iZ g.m k⟩ :=
 ⟨h.v2,h.vn,h.en,fun p hp=>h.ed p ((JH g.m k).subset hp)⟩
theorem GW.ok.same{fO fM:Nat}{g:GW}(h:g.ok fO fM){fb nb hb mb:Nat}{a:Int}{q:QS}:GW.ok fO fM ⟨fb,nb,hb,mb,a,q,g.m⟩:=⟨h.v2,h.vn,h.en,h.ed⟩
end Go.Sx
namespace Go.Sx
open Go
def qb(a b:Int):Int×Int:=if -9223372036854775808<=a+b/\a+b<=9223372036854775807 then(a+b,0)else(0,7)
theorem zY{a b:Int}(h : -9223372036854775808<=a+b/\a+b<=9223372036854775807):qb a b=(a+b,0):=if_pos h
theorem M8{a b:Int}(h:¬ (-9223372036854775808<=a+b/\a+b<=9223372036854775807)):qb a b=(0,7):=if_neg h
def rI(win now to:Int):Int:=if to<now then 10 else(qb to win).2
end Go.Sx
namespace Go.Sx
open Go
structure WC where
 win:Int
 fM:Nat
 fO:Nat
 ki:Int
structure WW where
 cb:Nat
 ub:Nat
 sb:Nat
 hb:Nat
 ob:Nat
 now:Int
 q:QS
 u:fW
 g:GW
 added:Int
 jw:Int
def DS(u:fW)(q:QS):Prop:=∀ e:gE,e∈q.fP↔∃ x,u.has x/\x.slot=(e.ix:Int)/\x.exp=e.key
structure WW.ok (c:WC) (s:WW):Prop where
 w1:1<=c.win
 wi:c.win<=1000000
 e1:1<=c.fM
 en:c.fM<=16384
 v2:2<=c.fO
 vn:c.fO<=4096
 n0:0<=s.now
 n1:s.now<=1000000
 a0:0<=s.added
 a1:s.added<=1000000
 ex:gX .u64 s.jw
 la:s.u.last<=s.added
 AZ:DS s.u s.q
 live:∀ x,s.u.has x->x.t<=s.now/\s.now<x.exp/\x.exp=x.t+c.win/\0<=x.t
 ord:∀ x y,s.u.has x->s.u.has y->x.seq<y.seq->x.t<=y.t
structure o8 (u u2:fW) (ds:List Nat):Prop where
 has:∀ x,u2.has x↔u.has x/\∀ i∈ds,x.slot≠(i:Int)
 last:u2.last=u.last
theorem o8.start(u:fW):o8 u u []:=⟨fun x=>by simp,rfl⟩
theorem o8.next{u d e:fW}{ds:List Nat}{i:Nat}(h:o8 u d ds)(f:∀ x,e.has x↔d.has x/\x.slot≠(i:Int))(g:e.last=d.last):o8 u e (ds++[i]) :=
 ⟨fun x=>by
  rw[f,h.has,and_assoc]
  refine and_congr_right fun _=>⟨fun⟨a,b⟩ j c=>?_,fun h=>⟨fun j c=>h j (by simp[c]),h i s_⟩⟩
  rcases zm.1 c with c|c
  . exact a j c
  . rw[zz]at c;subst c;exact b,g.trans h.last⟩
theorem o8.fin{fO fM n:Nat}{u d:fW}{q r:QS}{ds:List Nat}{t:Int}(h:o8 u d ds)(hs:DS u q)(c:u.ok fO fM)(hd:qE n q r ds t):∀ x,d.has x↔u.has x/\t<x.exp:=by
 intro x
 rw[h.has]
 refine and_congr_right fun a=>?_
 obtain⟨i,hi,_,_,_⟩:=c.Ar a
 have g:(⟨i,x.exp⟩:gE)∈q.fP:=(hs _).2 ⟨x,a,hi,rfl⟩
 constructor
 . intro b
   by_cases h2:t<x.exp
   . exact h2
   . exact absurd hi (b i ((hd.out i).2 ⟨_,g,rfl,Int.not_lt.1 h2⟩))
 . intro b j m e
   obtain⟨f,k,l,s⟩:=(hd.out j).1 m
   obtain⟨y,o,p,v⟩:=(hs f).1 k
   have:x=y:=c.KM a o (by rw[e,p,l])
   subst this
   omega
theorem o8.can{fO fM n:Nat}{u b:fW}{q C:QS}{ds:List Nat}{t:Int}{k i:Nat}(h:o8 u b (ds.take k))(hs:DS u q)(w:b.ok fO fM)(hd:qE n q C ds t)(hk:ds[k]? = some i):b.A.gY i:=by
 obtain⟨v,s⟩:=zg.1 hk
 obtain⟨f,m,o,D⟩:=(hd.out i).1 (zd hk)
 obtain⟨x,y,B,E⟩:=(hs f).1 m
 rw[o]at B
 have z:b.has x:=(h.has x).2 ⟨y,fun j d e=>by
  obtain⟨a,g,c⟩:=vg d
  have l:a<k/\a<ds.length:=by
   rw[zx]at g
   omega
  rw[List.getElem_take]at c
  have p:j=i:=by omega
  have:=JV hd.nd l.2 v (by rw[c,s,p])
  omega⟩
 obtain⟨j,d,r,_,_⟩:=w.Ar z
 have:j=i:=by omega
 subst this
 exact r
section
variable {c:WC} {s:WW}
theorem WW.ok.tick(h:s.ok c){T:Int}(r:s.now<=T)(l:T<=1000000){f:fW}{j:QS}{g2:GW}{ds:List Nat}{n:Nat}{ex:Int}(m:gX .u64 ex)(hd:qE n s.q j ds T)(d:∀ x,f.has x↔s.u.has x/\T<x.exp)(o:f.last=s.u.last) :
 WW.ok c ⟨s.cb,s.ub,s.sb,s.hb,s.ob,T,j,f,g2,s.added,ex⟩:=by
 have v:=h.n0
 refine⟨h.w1,h.wi,h.e1,h.en,h.v2,h.vn,by show 0<=T;omega,l,h.a0,h.a1,m,by show f.last<=_;rw[o];exact h.la,fun e=>?_,fun x i=>?_,fun x y i p=>h.ord x y ((d x).1 i).1 ((d y).1 p).1⟩
 . show e∈j.fP↔∃ x,f.has x/\_
   rw[hd.rest,h.AZ]
   constructor
   . rintro⟨⟨x,a,b,g⟩,k⟩
     exact⟨x,(d x).2 ⟨a,o_⟩,b,g⟩
   . rintro⟨x,a,b,g⟩
     have k:=(d x).1 a
     exact⟨⟨x,k.1,b,g⟩,o_⟩
 . have a:=(d x).1 i
   have b:=h.live x a.1
   show x.t<=T/\T<x.exp/\_
   exact⟨o_,a.2,b.2.2⟩
theorem WW.ok.free(h:s.ok c)(k:s.u.ok c.fO c.fM){d:fW}(l:d.ok c.fO c.fM){i:Nat}{e:Lv}(g:e.slot=(i:Int))(n:e.seq=s.u.last+1)(a:∀ y,d.has y↔s.u.has y\/y=e):∀ f∈s.q.fP,f.ix≠i:=by
 intro f j e1
 obtain⟨x,b,m,_⟩:=(h.AZ f).1 j
 have:x=e:=l.KM ((a x).2 (.inl b)) ((a e).2 (.inr rfl)) (by rw[m,g,e1])
 subst this
 have:=k.Su b
 omega
theorem WW.ok.ins(h:s.ok c)(z:s.u.ok c.fO c.fM){d:fW}{o:QS}{g2:GW}{i:Nat}{e:Lv}(v:e.slot=(i:Int))(E:e.seq=s.u.last+1)(F:e.t=s.now)(D:e.exp=s.now+c.win)(j:∀ y,d.has y↔s.u.has y\/y=e)(G:d.last=s.u.last+1)
 (w:∀ f,f∈o.fP↔f∈s.q.fP\/f=⟨i,e.exp⟩) (B:s.added<1000000):WW.ok c ⟨s.cb,s.ub,s.sb,s.hb,s.ob,s.now,o,d,g2,s.added+1,s.jw⟩:=by
 have C:=h.a0
 have H:=h.la
 have I:=h.n0
 have J:=h.w1
 refine⟨h.w1,h.wi,h.e1,h.en,h.v2,h.vn,h.n0,h.n1,by show 0<=s.added+1;omega,by show s.added+1<=_;omega,h.ex,by show d.last<=s.added+1;omega,fun f=>?_,fun x l=>?_,fun x y l r=>?_⟩
 . show f∈o.fP↔∃ x,d.has x/\_
   rw[w,h.AZ]
   constructor
   . rintro(⟨x,m,k⟩|rfl)
     . exact⟨x,(j x).2 (.inl m),k⟩
     . exact⟨e,(j e).2 (.inr rfl),v,rfl⟩
   . rintro⟨x,m,k,n⟩
     rcases(j x).1 m with g|rfl
     . exact .inl ⟨x,g,k,n⟩
     . right
       obtain⟨a,b⟩:=f
       simp only at k n
       have:a=i:=by omega
       subst this
       rw[n]
 . show x.t<=s.now/\s.now<x.exp/\_
   rcases(j x).1 l with g|rfl
   . exact h.live x g
   . exact⟨o_,o_,o_,o_⟩
 . change d.has x at l
   change d.has y at r
   rcases(j x).1 l with g|rfl<;>rcases(j y).1 r with p|rfl
   . exact h.ord x y g p
   . intro _
     have:=(h.live x g).1
     omega
   . have:=z.Su p
     intro A
     omega
   . intro _;omega
end
theorem WW.tG{c:WC}(w1:1<=c.win)(wi:c.win<=1000000)(e1:1<=c.fM)(en:c.fM<=16384)(v2:2<=c.fO)(vn:c.fO<=4096){u:fW}{q:QS}{g:GW}(a:∀ y,¬ u.has y)(d:u.last=0)(b:q.fP=[])(cb ub sb hb ob:Nat):WW.ok c ⟨cb,ub,sb,hb,ob,0,q,u,g,0,0⟩ :=
 ⟨w1,wi,e1,en,v2,vn,Int.le_refl 0,by show (0:Int)<=1000000;decide,Int.le_refl 0,by show (0:Int)<=1000000;decide,oO ⟨Int.le_refl 0,by show (0:Int)<=18446744073709551615;decide⟩,by show u.last<=0;omega,fun e=>⟨fun h=>by change e∈q.fP at h;rw[b]at h;simp at h,fun⟨x,h,_⟩=>absurd h (a x)⟩,fun x h=>absurd h (a x),fun x y h=>absurd h (a x)⟩
structure WW.Step (s s2:WW) (r:Lv):Prop where
 now:s2.now=s.now\/s2.now=r.t
 added:s2.added<=s.added+1
 has:∀ x,s2.u.has x->s.u.has x\/(x.u=r.u/\x.v=r.v)
theorem WW.Step.same(s:WW)(r:Lv):WW.Step s s r:=⟨.inl rfl,o_,fun x h=>.inl h⟩
theorem ZU(x:Int):gX .u64 (IntKind.u64.wrap x):=by
 rw[IntKind.wrap_u64]
 exact oO o_
theorem NB{win now t:Int}(h1:now<=t)(a : -9223372036854775808<=t+win/\t+win<=9223372036854775807):rI win now t=0:=by
 unfold rI
 rw[if_neg o_,zY a]
theorem qE.Q9{n:Nat}{q a t:QS}{ds:List Nat}{now:Int}(h:qE n a t ds now)(e:a.fP=q.fP):qE n q t ds now :=
 ⟨h.ok,by rw[<-e];exact h.rest,by rw[<-e];exact h.out,h.nd,h.len⟩
theorem TW.oc.lt{t:TW}{id:Int}{z:Nat}{b:Bool}(h:t.oc id z b)(a:t.ok)(hp:0<t.A.n):z<t.A.n:=by
 rcases h with ⟨_,h,_⟩|⟨_,rfl,_⟩
 . exact nX h.1 a.pH
 . exact hp
def Room(c:WC)(s:WW)(x:Lv):Prop:=∀ a:fW,a.ok c.fO c.fM->a.t.A.ok->(∀ y,a.has y↔s.u.has y/\x.t<y.exp)->a.gK c.fO c.fM x.u x.v=0
theorem Room.of{c:WC}{s:WW}{x:Lv}{a:fW}(d:a.ok c.fO c.fM)(hA:a.t.A.ok)(f:a.gK c.fO c.fM x.u x.v=0)(hs:∀ y,s.u.has y/\x.t<y.exp->a.has y):Room c s x :=
 fun i b e g=>fW.Ve b e d hA (fun y h=>hs y ((g y).1 h)) f
end Go.Sx
namespace Go.Sx
open Go
structure tf (c:WC) (s:WW) (k:Nat):Prop where
 now:s.now<=3*(k:Int)
 added:s.added<=(k:Int)
 ids:∀ x,s.u.has x->(0<=x.u/\x.u<12)/\0<=x.v/\x.v<12
theorem tf.next{c:WC}{s s2:WW}{k:Nat}{r:Lv}(h:tf c s k)(hs:WW.Step s s2 r)(l:r.t<=s.now+3)(d:0<=r.u/\r.u<12)(hv:0<=r.v/\r.v<12):tf c s2 (k+1):=by
 have g:=h.now
 have i:=h.added
 have j:=hs.added
 refine⟨?_,o_,fun x f=>?_⟩
 . rcases hs.now with e|e<;>omega
 . rcases hs.has x f with a|⟨a,b⟩
   . exact h.ids x a
   . rw[a,b];exact⟨d,hv⟩
end Go.Sx
namespace Go.Sx
open Go
structure Mv where
 u:Int
 v:Int
 wt:Int
 af:Int
instance:Inhabited Mv:=⟨⟨0,0,0,0⟩⟩
structure Mv.ok (x:Mv):Prop where
 u:0<=x.u/\x.u<=255
 v:0<=x.v/\x.v<=255
 wt : -128<=x.wt/\x.wt<=127
 af:0<=x.af/\x.af<=255
theorem tf.start{c:WC}{s:WW}(h1:s.now=0)(a:s.added=0)(b:∀ y,¬ s.u.has y):tf c s 0 :=
 ⟨by rw[h1];decide,by rw[a];decide,fun x d=>absurd d (b x)⟩
def Mv.B8(now:Int)(x:Mv):Lv:=⟨0,0,x.u%12,x.v%12,x.wt,now+x.af%4,0⟩
theorem Mv.ok.B8{x:Mv}(h:x.ok){now:Int}(a:0<=now)(h1:now<=1000):(x.B8 now).ok:=by
 have b:=h.wt
 unfold Mv.B8
 exact⟨kA (by show _/\_;dsimp only;omega),oO (by show _/\_;dsimp only;omega),oO (by show _/\_;dsimp only;omega),oO (by show _/\_;dsimp only;omega),kA (by show _/\_;dsimp only;omega),kA (by show _/\_;dsimp only;omega),kA (by show _/\_;dsimp only;omega)⟩
end Go.Sx
namespace Go.Sx
open Go
section
variable {ys xs:List Int} {i j n:Nat} {x:Int}
def mQ(ys:List Int)(i:Nat):Prop:=∀ p q,p<q->q<i->fJ ys p<=fJ ys q
def tc(ys:List Int)(i j:Nat):Prop:=∀ p q,p<q->q<=i->q≠j->fJ ys p<=fJ ys q
def C4(ys:List Int)(j:Nat):List Int:=fN (fN ys j fun _=>fJ ys (j-1)) (j-1) fun _=>fJ ys j
theorem SS(c:0<j)(h:j<ys.length):(C4 ys j).Perm ys:=by
 have b:=List.set_set_perm h (show j-1<ys.length by omega)
 have e1:fJ ys (j-1)=ys[j-1]:=iE (zj o_)
 have a:fJ ys j=ys[j]:=iE (zj h)
 unfold C4 fN
 rw[e1,a]
 exact b
theorem SO(a:0<j)(h:j<ys.length)(k:Nat):fJ (C4 ys j) k=if k=j then fJ ys (j-1)else if k=j-1 then fJ ys j else fJ ys k:=by
 unfold C4
 rw[iS (by rw[gC];omega),iS h]
 by_cases h1:k=j
 . subst h1
   rw[if_neg o_,if_pos rfl,if_pos rfl]
 . by_cases h2:k=j-1
   . subst h2
     rw[if_pos rfl,if_neg h1,if_pos rfl]
   . rw[if_neg (fun e=>h2 e.symm),if_neg (fun e=>h1 e.symm),if_neg h1,if_neg h2]
theorem mQ.zero:mQ ys 1:=fun p q a b=>by omega
theorem mQ.at(h:mQ ys i):tc ys i i:=fun p q a b c=>h p q a o_
theorem tc.swap(h:tc ys i j)(b:0<j)(e:j<=i)(f:i<ys.length)(g:fJ ys j<fJ ys (j-1)):tc (C4 ys j) i (j-1):=by
 intro p q d a c
 rw[SO b o_,SO b o_]
 by_cases hqj:q=j
 . rw[if_pos hqj]
   by_cases hp:p=j-1
   . rw[if_neg o_,if_pos hp];omega
   . rw[if_neg o_,if_neg hp]
     exact h p (j-1) o_ o_ o_
 . rw[if_neg hqj,if_neg c]
   by_cases hpj:p=j
   . rw[if_pos hpj]
     exact h (j-1) q o_ a hqj
   . rw[if_neg hpj]
     by_cases hp:p=j-1
     . rw[if_pos hp]
       exact h j q o_ a hqj
     . rw[if_neg hp]
       exact h p q d a hqj
theorem tc.N9(h:tc ys i 0):mQ ys (i+1):=fun p q a b=>h p q a o_ o_
theorem tc.done(h:tc ys i j)(b:0<j)(d:j<=i)(e:¬ fJ ys j<fJ ys (j-1)):mQ ys (i+1):=by
 intro p q a c
 by_cases hq:q=j
 . subst hq
   by_cases hp:p=q-1
   . subst hp;omega
   . have:=h p (q-1) o_ o_ o_
     omega
 . exact h p q a o_ hq
theorem mQ.k7(h:mQ ys ys.length)(f:ys.Nodup):ys.Pairwise fun a b=>a<b:=by
 have e:ys.Pairwise fun a b=>a<=b:=by
  rw[u5]
  intro p q hp d g
  have c:=h p q g d
  rw[iE (zj hp),iE (zj d)]at c
  exact c
 exact(e.and f).imp fun {a b} h=>by have:=h.1;have:=h.2;omega
theorem Ej{α:Type}{r:α->α->Prop}(hi:∀ a,¬ r a a)(f:∀ a b,r a b->¬ r b a):∀ {a b:List α},a.Pairwise r->b.Pairwise r->(∀ x,x∈a↔x∈b)->a=b
 | [],[],_,_,_=>rfl
 | [],y :: b,_,_,h=>by have:=(h y).2 s_;cases this
 | x :: a,[],_,_,h=>by have:=(h x).1 s_;cases this
 | x :: a,y :: b,ha,hb,h=>by
  have k:x=y:=by
   rcases zb.1 ((h x).1 s_)with e|c
   . exact e
   . rcases zb.1 ((h y).2 s_)with e|g
     . exact e.symm
     . exact absurd ((sZ.1 ha).1 y g) (f _ _ ((sZ.1 hb).1 x c))
  subst k
  have i:=(sZ.1 ha).1
  have j:=(sZ.1 hb).1
  congr 1
  refine Ej hi f (sZ.1 ha).2 (sZ.1 hb).2 fun z=>⟨fun d=>?_,fun d=>?_⟩
  . rcases zb.1 ((h z).1 (by simp[d]))with e|c
    . subst e;exact absurd (i z d) (hi z)
    . exact c
  . rcases zb.1 ((h z).2 (by simp[d]))with e|c
    . subst e;exact absurd (j z d) (hi z)
    . exact c
theorem Ng{a b:List Int}(c:a.Pairwise fun x y=>x<y)(hb:b.Pairwise fun x y=>x<y)(h:∀ x,x∈a↔x∈b):a=b :=
 Ej (fun a=>Int.lt_irrefl a) (fun a b h=>by omega) c hb h
theorem fW.mo.uniq{s:fW}{a b:List Lv}(c:s.mo a)(hb:s.mo b):a=b :=
 Ej (r:=fun x y:Lv=>x.seq<y.seq) (fun a=>Int.lt_irrefl _) (fun a b h=>by omega) c.k7 hb.k7 fun x=>(c.mem x).trans (hb.mem x).symm
structure oH (ys:List Int) (x:Int) (i j:Nat):Prop where
 lo:∀ p,p<i->fJ ys p<x
 hi:∀ p,j<=p->p<ys.length->x<=fJ ys p
theorem oH.start:oH ys x 0 ys.length:=⟨fun p h=>by omega,fun p a b=>by omega⟩
theorem Ek(h:ys.Pairwise fun a b=>a<b){p q:Nat}(e:p<q)(c:q<ys.length):fJ ys p<fJ ys q:=by
 have d:=(u5.1 h) p q o_ c e
 rw[iE (zj (show p<ys.length by omega)),iE (zj c)]
 exact d
theorem oH.up(h:oH ys x i j)(hs:ys.Pairwise fun a b=>a<b){k:Nat}(hk:k<ys.length)(c:fJ ys k<x):oH ys x (k+1) j :=
 ⟨fun p hp=>by
  by_cases e:p=k
  . subst e;exact c
  . have:=Ek hs (show p<k by omega) hk
    omega,h.hi⟩
theorem oH.down(h:oH ys x i j)(hs:ys.Pairwise fun a b=>a<b){k:Nat}(f:¬ fJ ys k<x):oH ys x i k :=
 ⟨h.lo,fun p d c=>by
  by_cases e:p=k
  . subst e;omega
  . have:=Ek hs (show k<p by omega) c
    omega⟩
def gN(ys:List Int)(x:Int):Nat:=(ys.filter fun y=>decide (y<x)).length
theorem oH.gN(h:oH ys x i i)(hi:i<=ys.length):i=gN ys x:=by
 have d:(ys.take i).filter (fun y=>decide (y<x))=ys.take i:=tV.2 fun y c=>by
  obtain⟨p,hp,e⟩:=vg c
  rw[zx]at hp
  rw[List.getElem_take]at e
  have a:=h.lo p o_
  rw[iE (zj o_),e]at a
  exact decide_eq_true a
 have a:(ys.drop i).filter (fun y=>decide (y<x))=[]:=GK.2 fun y c=>by
  obtain⟨p,hp,e⟩:=vg c
  rw[zA]at hp
  rw[List.getElem_drop]at e
  have b:=h.hi (i+p) o_ o_
  rw[iE (zj o_),e]at b
  simp
  omega
 have b:ys.filter (fun y=>decide (y<x))=ys.take i:=by
  conv=>lhs;rw[<-u9 i ys]
  rw[vh,d,a,qA]
 unfold Go.Sx.gN
 rw[b,zx]
 omega
theorem wC(hs:ys.Pairwise fun a b=>a<b)(f:x∈ys):gN ys x<ys.length/\fJ ys (gN ys x)=x:=by
 obtain⟨k,c,e⟩:=vg f
 have e1:fJ ys k=x:=iE (by rw[zj c,e])
 have hb:oH ys x k k:=⟨fun p hp=>by have:=Ek hs hp c;omega,fun p g d=>by
  by_cases h3:k=p
  . subst h3;omega
  . have:=Ek hs (show k<p by omega) d
    omega⟩
 rw[<-hb.gN o_]
 exact⟨c,e1⟩
structure Ge where
 u:Nat
 v:Nat
 w:Int
instance:Inhabited Ge:=⟨⟨0,0,0⟩⟩
def Ge.cells(x:Ge):List Value:=[.int .i64 x.u,.int .i64 x.v,.int .i64 x.w]
structure LV (ids:List Int) (x:Lv) (e:Ge):Prop where
 ul:e.u<ids.length
 vl:e.v<ids.length
 u:fJ ids e.u=x.u
 v:fJ ids e.v=x.v
 w:e.w=x.wt
structure mO (ids:List Int) (L:List Lv) (es:List Ge) (k:Nat):Prop where
 len:es.length=L.length
 fst:∀ i,i<k->LV ids (fJ L i) (fJ es i)
theorem mO.start{ids:List Int}{L:List Lv}:mO ids L (List.replicate L.length ⟨0,0,0⟩) 0:=⟨by rw[sY],fun i h=>by omega⟩
theorem mO.next{ids:List Int}{L:List Lv}{es:List Ge}{k:Nat}(h:mO ids L es k)(hk:k<L.length)(hs:ids.Pairwise fun a b=>a<b)(c:(fJ L k).u∈ids)(hv:(fJ L k).v∈ids) :
 mO ids L (fN es k fun _=>⟨gN ids (fJ L k).u,gN ids (fJ L k).v,(fJ L k).wt⟩) (k+1):=by
 have d:=h.len
 refine⟨by rw[gC];exact d,fun i hi=>?_⟩
 rw[iS o_]
 by_cases e:k=i
 . subst e
   rw[if_pos rfl]
   exact⟨(wC hs c).1,(wC hs hv).1,(wC hs c).2,(wC hs hv).2,rfl⟩
 . rw[if_neg e]
   exact h.fst i o_
structure fW.oI (s:fW) (K:List Int):Prop where
 k7:K.Pairwise fun a b=>a<b
 mem:∀ x,x∈K↔s.t.mem x
theorem fW.oI.uniq{s:fW}{a b:List Int}(c:s.oI a)(hb:s.oI b):a=b:=Ng c.k7 hb.k7 fun x=>(c.mem x).trans (hb.mem x).symm
theorem fW.oI.ends{s:fW}{fO fM:Nat}{K:List Int}{L:List Lv}(h:s.oI K)(a:s.ok fO fM)(b:s.mo L){k:Nat}(hk:k<L.length):(fJ L k).u∈K/\(fJ L k).v∈K:=by
 obtain⟨i,hi,e⟩:=(b.mem _).1 (zd (gy hk))
 exact⟨(h.mem _).2 ((a.mem _).2 ⟨i,hi,.inl (by rw[e])⟩),(h.mem _).2 ((a.mem _).2 ⟨i,hi,.inr (by rw[e])⟩)⟩
theorem fW.oI.len{s:fW}{fO fM:Nat}{K:List Int}(h:s.oI K)(c:s.ok fO fM)(hA:s.t.A.ok):K.length<=fO:=by
 have d:K.length<=s.t.tC.length:=xX K _ (h.k7.imp fun {a b} j e=>by omega) fun x f=>(TW.Jb hA x).2 ((h.mem x).1 f)
 rw[TW.PT hA]at d
 have g:=c.tok.ul
 have i:=c.tn
 omega
structure Mw where
 wa:Bool
 u:Int
 v:Int
 wt:Int
 af:Int
instance:Inhabited Mw:=⟨⟨false,0,0,0,0⟩⟩
def Mw.cells(x:Mw):List Value:=[.bool x.wa,.int .u8 x.u,.int .u8 x.v,.int .i8 x.wt,.int .u8 x.af]
def Mw.mv(x:Mw):Mv:=⟨x.u,x.v,x.wt,x.af⟩
abbrev cG:WC:=⟨20,40,10,60⟩
theorem tf.tick{c:WC}{s s2:WW}{k:Nat}{T:Int}(h:tf c s k)(g:s2.now=T)(i:T<=s.now+3)(f:s2.added=s.added)(a:∀ y,s2.u.has y↔s.u.has y/\T<y.exp):tf c s2 (k+1):=by
 have d:=h.now
 have e:=h.added
 exact⟨o_,o_,fun x b=>h.ids x ((a x).1 b).1⟩
end
end Go.Sx
namespace Go.Sx
open Go
structure Ds where
 uv:Value
 lv:Value
 sv:Value
 up:List Nat
 le:List Nat
 sz:List Int
 cnt:Int
 lb:List Nat
structure Ds.uM (d:Nat->Nat) (n:Nat) (s:Ds):Prop where
 ul:s.up.length=n
 ll:s.le.length=n
 sl:s.sz.length=n
 bl:s.lb.length=n
 ub:∀ i,i<n->fJ s.up i<n
 wh:∀ i,i<n->fJ s.lb (fJ s.up i)=fJ s.lb i
 dec:∀ i,i<n->fJ s.up i≠i->d (fJ s.up i)<d i
 q8:∀ i j,i<n->j<n->fJ s.up i=i->fJ s.up j=j->fJ s.lb i=fJ s.lb j->i=j
 gH:∀ i,i<n->fJ s.up i=i->fJ s.le i=fJ s.lb i
 low:∀ i,i<n->fJ s.lb i<=i
 l7:∀ i,i<n->fJ s.lb (fJ s.lb i)=fJ s.lb i
 KT:∀ x∈s.sz,gX .i64 x
def Ds.ok(n:Nat)(s:Ds):Prop:=(∃ d,s.uM d n)/\gX .i64 s.cnt
def jt(lb:List Nat)(x y:Nat):List Nat:=lb.map fun z=>if z=max x y then min x y else z
theorem Fq{lb:List Nat}{x y:Nat}:(jt lb x y).length=lb.length:=by simp[jt]
theorem QY{lb:List Nat}{x:Nat}:jt lb x x=lb:=by
 unfold jt
 conv=>rhs;rw[<-List.map_id lb]
 exact yX fun z _=>by simp;intro h;exact h.symm
theorem ox{lb:List Nat}{x y i:Nat}(h:i<lb.length):fJ (jt lb x y) i=if fJ lb i=max x y then min x y else fJ lb i:=by
 obtain⟨z,a⟩:=pK h
 rw[iE a]
 exact iE (by rw[jt,kR,a];rfl)
theorem lI{n i:Nat}(h:i<n):fJ (List.range n) i=i:=iE (pX h)
theorem AH{α:Type}[Inhabited α]{x:α}{n i:Nat}(h:i<n):fJ (List.replicate n x) i=x:=iE (by rw[sj,if_pos h])
theorem ZW:gX .i64 1:=by unfold gX;decide
theorem Ds.tG{n:Nat}{u l s:Value}{c:Int}(b:gX .i64 c):Ds.ok n ⟨u,l,s,List.range n,List.range n,List.replicate n 1,c,List.range n⟩ :=
 ⟨⟨fun _=>0,s_,s_,s_,s_,fun i h=>by show fJ (List.range n) i<n;rw[lI h];exact h,fun i h=>by show fJ (List.range n) (fJ (List.range n) i)=_;rw[lI h,lI h],fun i h a=>absurd (lI h) a,
  fun i j hi d _ _ h=>by have a:fJ (List.range n) i=fJ (List.range n) j:=h;rwa [lI hi,lI d]at a,fun i _ _=>rfl,fun i h=>by show fJ (List.range n) i<=i;rw[lI h];exact zk _,fun i h=>by show fJ (List.range n) (fJ (List.range n) i)=_;rw[lI h,lI h],fun x e=>by rw[(List.mem_replicate.1 e).2];exact ZW⟩,b⟩
structure sG (n k:Nat) (up le:List Nat) (sz:List Int):Prop where
 u:up=(List.range k)++List.replicate (n-k) 0
 l:le=(List.range k)++List.replicate (n-k) 0
 s:sz=List.replicate k 1++List.replicate (n-k) 0
theorem Bc{α:Type}[Inhabited α]{a b:List α}{x y:α}{f:α->α}(c:f x=y):fN (a++x :: b) a.length f=a++y :: b:=by
 unfold fN
 rw[iE (x:=x) s_,c,List.set_append_right _ _ (zk _)]
 simp
theorem sG.start{n:Nat}:sG n 0 (List.replicate n 0) (List.replicate n 0) (List.replicate n 0):=⟨s_,s_,s_⟩
theorem AT{α:Type}{x:α}{n k:Nat}(h:k<n):List.replicate (n-k) x=x :: List.replicate (n-(k+1)) x:=by
 rw[show n-k=(n-(k+1))+1 by omega];rfl
theorem sG.next{n k:Nat}{up le:List Nat}{sz:List Int}(h:sG n k up le sz)(hk:k<n):sG n (k+1) (fN up k fun _=>k) (fN le k fun _=>k) (fN sz k fun _=>1):=by
 obtain⟨rfl,rfl,rfl⟩:=h
 have c:fN (List.range k++List.replicate (n-k) 0) k (fun _=>k)=List.range (k+1)++List.replicate (n-(k+1)) 0:=by
  have:=Bc (a:=List.range k) (b:=List.replicate (n-(k+1)) 0) (x:=0) (y:=k) (f:=fun _=>k) rfl
  rw[pY]at this
  rw[AT hk,this,sB]
  simp
 refine⟨c,c,?_⟩
 have:=Bc (a:=List.replicate k (1:Int)) (b:=List.replicate (n-(k+1)) 0) (x:=0) (y:=1) (f:=fun _=>1) rfl
 rw[sY]at this
 rw[AT hk,this,List.replicate_succ']
 simp
theorem sG.fin{n:Nat}{up le:List Nat}{sz:List Int}(h:sG n n up le sz):up=List.range n/\le=List.range n/\sz=List.replicate n 1:=by
 obtain⟨rfl,rfl,rfl⟩:=h
 simp
theorem sG.len{n k:Nat}{up le:List Nat}{sz:List Int}(h:sG n k up le sz)(hk:k<=n):up.length=n/\le.length=n/\sz.length=n:=by
 obtain⟨rfl,rfl,rfl⟩:=h
 simp
 omega
def fV(x:Int):List Value:=[.int .i64 x]
def Ds.wu(s:Ds)(up:List Nat):Ds:={ s with up:=up }
structure pZ (d:Nat->Nat) (n:Nat) (s:Ds) (a0:Nat) (up:List Nat) (a:Nat):Prop where
 ok:(s.wu up).uM d n
 an:a<n
 la:fJ s.lb a=fJ s.lb a0
 ro:∀ i,i<n->fJ s.up i=i->fJ up i=i
theorem pZ.start{d:Nat->Nat}{n a:Nat}{s:Ds}(h:s.uM d n)(b:a<n):pZ d n s a s.up a:=⟨h,b,rfl,fun _ _ h=>h⟩
theorem pZ.half{d:Nat->Nat}{n a0 a:Nat}{s:Ds}{up:List Nat}(h:pZ d n s a0 up a)(p:fJ up a≠a) :
 pZ d n s a0 (fN up a fun _=>fJ up (fJ up a)) (fJ up (fJ up a))/\fJ (fN up a fun _=>fJ up (fJ up a)) a=fJ up (fJ up a)/\d (fJ up (fJ up a))<d a:=by
 obtain⟨b,k,x,r⟩:=h
 have z:up.length=n:=b.ul
 have o:∀ i,i<n->fJ up i<n:=b.ub
 have g:∀ i,i<n->fJ s.lb (fJ up i)=fJ s.lb i:=b.wh
 have l:∀ i,i<n->fJ up i≠i->d (fJ up i)<d i:=b.dec
 have hp:=o a k
 have q:=o _ hp
 have f:∀ i,fJ (fN up a fun _=>fJ up (fJ up a)) i=if a=i then fJ up (fJ up a)else fJ up i:=fun i=>iS o_
 have A:=l a k p
 have v:d (fJ up (fJ up a))<=d (fJ up a):=by
  by_cases c:fJ up (fJ up a)=fJ up a
  . rw[c];exact zk _
  . exact Nat.le_of_lt (l _ hp c)
 have y:fJ up (fJ up a)≠a:=fun e=>by rw[e]at v;omega
 have m:∀ i,fJ (fN up a fun _=>fJ up (fJ up a)) i=i->fJ up i=i:=by
  intro i hi
  rw[f]at hi
  split at hi
  . rename_i e;subst e;exact absurd hi y
  . exact hi
 refine⟨⟨⟨by show (fN up a fun _=>fJ up (fJ up a)).length=n;rw[gC];exact z,b.ll,b.sl,b.bl,?_,?_,?_,?_,?_,b.low,b.l7,b.KT⟩,q,by rw[g _ hp,g _ k];exact x,?_⟩,by rw[f,if_pos rfl],o_⟩
 . intro i hi
   show fJ (fN up a fun _=>fJ up (fJ up a)) i<n
   rw[f]
   split
   . exact q
   . exact o i hi
 . intro i hi
   show fJ s.lb (fJ (fN up a fun _=>fJ up (fJ up a)) i)=fJ s.lb i
   rw[f]
   split
   . rename_i e;subst e;rw[g _ hp,g _ k]
   . exact g i hi
 . intro i hi
   show fJ (fN up a fun _=>fJ up (fJ up a)) i≠i->d (fJ (fN up a fun _=>fJ up (fJ up a)) i)<d i
   rw[f]
   split
   . rename_i e;subst e;intro _;omega
   . exact l i hi
 . intro i j hi w c t u
   exact b.q8 i j hi w (m i c) (m j t) u
 . intro i hi c
   exact b.gH i hi (m i c)
 . intro i hi c
   rw[f]
   split
   . rename_i e;subst e;exact absurd (r _ hi c) p
   . exact r i hi c
theorem pZ.PK{d:Nat->Nat}{n a0 a:Nat}{s:Ds}{up:List Nat}(h:pZ d n s a0 up a)(b:fJ up a≠a) :
 pZ d n s a0 (fN up a fun _=>fJ up (fJ up a)) (fJ (fN up a fun _=>fJ up (fJ up a)) a)/\d (fJ (fN up a fun _=>fJ up (fJ up a)) a)<d a:=by
 rw[h.half b |>.2.1]
 exact⟨(h.half b).1,(h.half b).2.2⟩
theorem Ds.join{d:Nat->Nat}{n x y:Nat}{s:Ds}{sz:List Int}{m:Nat}{c:Int}(h:s.uM d n)(b:x<n)(f:y<n)(t:fJ s.up x=x)(u:fJ s.up y=y)(G:x≠y)(hs:sz.length=n)(hk:∀ z∈sz,gX .i64 z)
 (hm:m=min (fJ s.le x) (fJ s.le y)) (C:gX .i64 c):Ds.ok n ⟨s.uv,s.lv,s.sv,fN s.up y fun _=>x,fN s.le x fun _=>m,sz,c,jt s.lb (fJ s.lb x) (fJ s.lb y)⟩:=by
 have E:fJ s.lb x≠fJ s.lb y:=fun e=>G (h.q8 x y b f t u e)
 have r:∀ i,fJ (fN s.up y fun _=>x) i=if y=i then x else fJ s.up i:=fun i=>iS (by rw[h.ul];exact f)
 have D:∀ i,fJ (fN s.le x fun _=>m) i=if x=i then m else fJ s.le i:=fun i=>iS (by rw[h.ll];exact b)
 have hb:∀ i,i<n->fJ (jt s.lb (fJ s.lb x) (fJ s.lb y)) i=if fJ s.lb i=max (fJ s.lb x) (fJ s.lb y)then min (fJ s.lb x) (fJ s.lb y)else fJ s.lb i:=fun i hi=>ox (by rw[h.bl];exact hi)
 refine⟨⟨fun i=>d i+if fJ s.lb i=fJ s.lb y then d x+1 else 0,by show (fN s.up y fun _=>x).length=n;rw[gC];exact h.ul,by show (fN s.le x fun _=>m).length=n;rw[gC];exact h.ll,hs,by show (jt s.lb (fJ s.lb x) (fJ s.lb y)).length=n;rw[Fq];exact h.bl,?_,?_,?_,?_,?_,?_,?_,hk⟩,C⟩
 . intro i hi
   show fJ (fN s.up y fun _=>x) i<n
   rw[r]
   split
   . exact b
   . exact h.ub i hi
 . intro i hi
   show fJ (jt s.lb (fJ s.lb x) (fJ s.lb y)) (fJ (fN s.up y fun _=>x) i)=fJ (jt s.lb (fJ s.lb x) (fJ s.lb y)) i
   rw[r,hb i hi]
   by_cases e:y=i
   . subst e
     rw[if_pos rfl,hb x b]
     split<;>split<;>omega
   . rw[if_neg e,hb _ (h.ub i hi),h.wh i hi]
 . intro i hi
   show fJ (fN s.up y fun _=>x) i≠i->d (fJ (fN s.up y fun _=>x) i)+_<d i+_
   rw[r]
   by_cases e:y=i
   . subst e
     rw[if_pos rfl,if_pos rfl,if_neg E]
     omega
   . rw[if_neg e,h.wh i hi]
     intro p
     have:=h.dec i hi p
     omega
 . intro i j hi v p A B
   have a : fJ (fN s.up y fun _=>x) i=i:=p
   have l : fJ (fN s.up y fun _=>x) j=j:=A
   have g : fJ (jt s.lb (fJ s.lb x) (fJ s.lb y)) i=fJ (jt s.lb (fJ s.lb x) (fJ s.lb y)) j:=B
   rw[r]at a l
   rw[hb i hi,hb j v]at g
   have o:y≠i:=fun e=>by rw[if_pos e]at a; omega
   have w:y≠j:=fun e=>by rw[if_pos e]at l; omega
   rw[if_neg o]at a
   rw[if_neg w]at l
   have J:=h.q8 i y hi f a u
   have L:=h.q8 j y v f l u
   have K:=h.q8 i j hi v a l
   have M:=h.q8 i x hi b a t
   have N:=h.q8 j x v b l t
   by_cases e1:fJ s.lb i=fJ s.lb y
   . exact absurd (J e1).symm o
   by_cases k:fJ s.lb j=fJ s.lb y
   . exact absurd (L k).symm w
   by_cases e3:fJ s.lb i=fJ s.lb x
   . by_cases e4:fJ s.lb j=fJ s.lb x
     . rw[M e3,N e4]
     . exfalso
       split at g <;> split at g <;> omega
   . by_cases e4:fJ s.lb j=fJ s.lb x
     . exfalso
       split at g <;> split at g <;> omega
     . refine K ?_
       split at g <;> split at g <;> omega
 . intro i hi p
   show fJ (fN s.le x fun _=>m) i=fJ (jt s.lb (fJ s.lb x) (fJ s.lb y)) i
   have a : fJ (fN s.up y fun _=>x) i=i:=p
   rw[r]at a
   rw[D,hb i hi,hm,h.gH x b t,h.gH y f u]
   have o:y≠i:=fun e=>by rw[if_pos e]at a; omega
   rw[if_neg o]at a
   by_cases e:x=i
   . subst e
     rw[if_pos rfl]
     split<;>omega
   . rw[if_neg e,h.gH i hi a, if_neg]
     intro k
     have a1:=h.q8 i x hi b a t
     have a2:=h.q8 i y hi f a u
     rcases ru (fJ s.lb x) (fJ s.lb y)with q|q
     . rw[tZ q]at k;exact o (a2 k).symm
     . rw[vk q]at k;exact e (a1 k).symm
 . intro i hi
   show fJ (jt s.lb (fJ s.lb x) (fJ s.lb y)) i<=i
   rw[hb i hi]
   have:=h.low i hi
   split<;>omega
 . intro i hi
   show fJ (jt s.lb (fJ s.lb x) (fJ s.lb y)) (fJ (jt s.lb (fJ s.lb x) (fJ s.lb y)) i)=fJ (jt s.lb (fJ s.lb x) (fJ s.lb y)) i
   have bi:=h.low i hi
   have bx:=h.low x b
   have O:=h.low y f
   have ix:=h.l7 x b
   have I:=h.l7 y f
   have H:=h.l7 i hi
   rw[hb i hi]
   split
   . have F:min (fJ s.lb x) (fJ s.lb y)<n:=by omega
     rw[hb _ F]
     have:fJ s.lb (min (fJ s.lb x) (fJ s.lb y))=min (fJ s.lb x) (fJ s.lb y):=by
      rcases ru (fJ s.lb x) (fJ s.lb y)with q|q
      . rw[oZ q];exact ix
      . rw[vi q];exact I
     rw[this]
     split<;>rfl
   . rename_i e
     rw[hb _ o_,H,if_neg e]
theorem pZ.two{d:Nat->Nat}{n a b x y:Nat}{s:Ds}{h f:List Nat}(h1:pZ d n s a h x)(r1:fJ h x=x)(c:pZ d n (s.wu h) b f y)(r2:fJ f y=y) :
 (s.wu f).uM d n/\fJ f x=x/\fJ f y=y/\x<n/\y<n/\fJ s.lb x=fJ s.lb a/\fJ s.lb y=fJ s.lb b/\(x=y↔fJ s.lb a=fJ s.lb b):=by
 have i:=c.ro x h1.an r1
 refine⟨c.ok,i,r2,h1.an,c.an,h1.la,c.la,fun e=>?_,fun e=>?_⟩
 . have e1:=h1.la
   have g:fJ s.lb y=fJ s.lb b:=c.la
   rw[<-e1,<-g,e]
 . have e1:=h1.la
   have g:fJ s.lb y=fJ s.lb b:=c.la
   exact c.ok.q8 x y h1.an c.an i r2 (e1.trans (e.trans g.symm))
theorem QW{lb:List Nat}{x y:Nat}:jt lb x y=jt lb y x:=by unfold jt;rw[Nat.max_comm,Nat.min_comm]
theorem QX{lb:List Nat}{x y a b:Nat}(h1:x=a)(c:y=b):jt lb x y=jt lb a b:=by rw[h1,c]
theorem TD{k:IntKind}{zs:List Int}{i:Nat}{f:Int->Int}(h:∀ z∈zs,gX k z)(b:gX k (f (fJ zs i))):∀ z∈fN zs i f,gX k z:=fun z c=>by
 rcases List.mem_or_eq_of_mem_set c with a|a
 . exact h z a
 . exact a▸b
theorem Fp{a b:Nat}:(if (b:Int)<(a:Int)then(b:Int)else(a:Int))=((min a b:Nat):Int):=by split<;>omega
theorem abd{a b:Nat}:(if (a:Int)<(b:Int)then(b:Int)else(a:Int))=((max a b:Nat):Int):=by split<;>omega
theorem Gi(x:Int):gX .i64 (IntKind.i64.wrap x):=by
 rw[IntKind.wrap_i64]
 show (-9223372036854775808:Int)<=_/\_<=(9223372036854775807:Int)
 omega
theorem adD(v:Value){e:TypeId}{n:Nat}:fL fR v e 1 (List.replicate n 0)=fL fV v e 1 (List.replicate n 0):=by
 unfold fL
 have h:(List.replicate n (0:Nat)).flatMap fR=(List.replicate n (0:Int)).flatMap fV:=by
  induction n with
  | zero=>rfl
  | succ n a=>rw[List.replicate_succ,List.replicate_succ,zy,zy,a];rfl
 rw[h,sY,sY]
end Go.Sx
namespace Go.Sx
open Go
def iW(es:List Ge):List Nat:=es.flatMap fun e=>[e.u,e.v]
theorem xD(es:List Ge):(iW es).length=2*es.length:=by
 induction es with
 | nil=>rfl
 | cons e es a=>simp only[iW,zy,zq,ze,zh]at *;omega
theorem Ae{es:List Ge}{i:Nat}(h:i<es.length):(iW es)[2*i]? = some (fJ es i).u/\(iW es)[2*i+1]? = some (fJ es i).v:=by
 induction es generalizing i with
 | nil=>simp at h
 | cons e es a =>
  cases i with
  | zero=>exact⟨rfl,rfl⟩
  | succ i =>
   have:=a (i:=i) (by simpa using h)
   have e1:fJ (e :: es) (i+1)=fJ es i:=by simp[fJ]
   rw[e1]
   simpa[iW,show 2*(i+1)=2*i+1+1 by omega,show 2*(i+1)+1=2*i+1+1+1 by omega]using this
theorem Wp{es:List Ge}{i:Nat}(h:i<es.length):iW (es.take (i+1))=iW (es.take i)++[(fJ es i).u,(fJ es i).v]:=by
 have a:es.take (i+1)=es.take i++[fJ es i]:=by rw[nY,gy h];rfl
 rw[a]
 simp[iW]
def oq(E:List Nat)(v:Nat):Nat:=E.count v
def sP(E:List Nat)(v:Nat):Nat:=E.countP fun x=>decide (x<v)
theorem QA(E:List Nat)(v:Nat):sP E (v+1)=sP E v+oq E v:=by
 unfold sP oq
 induction E with
 | nil=>rfl
 | cons x E a =>
  rw[wU,wU,vj,a]
  by_cases h1:x<v
  . rw[if_pos (by simp;omega),if_pos (by simpa using h1),if_neg (by simp;omega)];omega
  . by_cases h2:x=v
    . subst h2
      rw[if_pos s_,if_neg s_,if_pos s_];omega
    . rw[if_neg (by simp;omega),if_neg (by simpa using h1),if_neg (by simpa using h2)];omega
theorem aa0(E:List Nat):sP E 0=0:=by unfold sP;rw[Bv];simp
theorem Qz(E:List Nat)(v:Nat):sP E v<=E.length:=LJ
theorem NX(E:List Nat)(v:Nat):oq E v<=E.length:=LO
theorem VP{E:List Nat}{k v:Nat}(h:E[k]? = some v):oq (E.take k) v<oq E v:=by
 have a:k<E.length:=(zg.1 h).1
 have b:E=E.take k++v :: E.drop (k+1):=by
  conv=>lhs;rw[<-u9 k E]
  rw[Bt a,(zg.1 h).2]
 unfold oq
 conv=>rhs;rw[b]
 rw[DH,List.count_cons_self]
 omega
theorem VO{E:List Nat}{k v:Nat}(h:E[k]? = some v)(x:Nat):oq (E.take (k+1)) x=oq (E.take k) x+if v=x then 1 else 0:=by
 unfold oq
 rw[nY,h,DH]
 simp[vj]
def nS(n:Nat)(E:List Nat):List Nat:=0 :: (List.range n).map (oq E)
theorem wL{n:Nat}{E:List Nat}:(nS n E).length=n+1:=by simp[nS]
theorem A8{n v:Nat}{E:List Nat}(h:v<n):fJ (nS n E) (v+1)=oq E v:=iE (by simp[nS,pX h])
theorem AG{α:Type}[Inhabited α]{xs ys:List α}(h:xs.length=ys.length)(a:∀ i,i<xs.length->fJ xs i=fJ ys i):xs=ys:=by
 apply mM
 intro i
 by_cases hi:i<xs.length
 . rw[gy hi,gy o_,a i hi]
 . rw[zt o_,zt o_]
theorem ad4{n:Nat}:List.replicate (n+1) 0=nS n []:=by
 refine AG (by simp[nS]) fun i hi=>?_
 rw[sY]at hi
 rw[AH hi]
 cases i with
 | zero=>rfl
 | succ i=>rw[A8 o_];rfl
theorem SB{n v:Nat}{E:List Nat}(h:v<n):fN (nS n E) (v+1) (fun _=>fJ (nS n E) (v+1)+1)=nS n (E++[v]):=by
 refine AG (by rw[gC,wL,wL]) fun i hi=>?_
 rw[gC,wL]at hi
 rw[iS (by rw[wL];omega)]
 cases i with
 | zero=>rw[if_neg o_];rfl
 | succ i =>
  rw[A8 (show i<n by omega),A8 (show i<n by omega),A8 h]
  unfold oq
  rw[DH]
  by_cases e:v=i
  . subst e;simp
  . rw[if_neg o_];simp[e]
def mG(n:Nat)(E:List Nat)(k:Nat):List Nat:=(List.range (n+1)).map fun j=>if j<=k then sP E j else oq E (j-1)
theorem yI{n k:Nat}{E:List Nat}:(mG n E k).length=n+1:=by simp[mG]
theorem yJ{n k j:Nat}{E:List Nat}(h:j<=n):fJ (mG n E k) j=if j<=k then sP E j else oq E (j-1):=iE (by rw[mG,kR,pX o_];rfl)
theorem ad6{n:Nat}{E:List Nat}:nS n E=mG n E 0:=by
 refine AG (by rw[wL,yI]) fun i hi=>?_
 rw[wL]at hi
 rw[yJ o_]
 cases i with
 | zero=>rw[if_pos o_,aa0];rfl
 | succ i=>rw[if_neg o_,A8 o_];rfl
theorem ad5{n k:Nat}{E:List Nat}(h:k<n):fN (mG n E k) (k+1) (fun _=>fJ (mG n E k) (k+1)+fJ (mG n E k) k)=mG n E (k+1):=by
 refine AG (by rw[gC,yI,yI]) fun i hi=>?_
 rw[gC,yI]at hi
 rw[iS (by rw[yI];omega),yJ (show i<=n by omega),yJ (show i<=n by omega),yJ (show k+1<=n by omega),yJ (show k<=n by omega)]
 by_cases e:k+1=i
 . subst e
   rw[if_pos rfl,if_neg o_,if_pos (zk _),if_pos (zk _),QA,show k+1-1=k by omega];omega
 . rw[if_neg e]
   by_cases h1:i<=k
   . rw[if_pos h1,if_pos o_]
   . rw[if_neg h1,if_neg o_]
def sW(n:Nat)(es:List Ge):List Nat:=mG n (iW es) n
theorem aew{n j:Nat}{es:List Ge}(h:j<=n):fJ (sW n es) j=sP (iW es) j:=by rw[sW,yJ h,if_pos h]
theorem A9{n:Nat}{es:List Ge}:(sW n es).length=n+1:=yI
def oB(n:Nat)(E:List Nat)(k:Nat):List Nat:=(List.range (n+1)).map fun v=>sP E v+oq (E.take k) v
theorem xY{n k:Nat}{E:List Nat}:(oB n E k).length=n+1:=by simp[oB]
theorem CM{n k v:Nat}{E:List Nat}(h:v<=n):fJ (oB n E k) v=sP E v+oq (E.take k) v:=iE (by rw[oB,kR,pX o_];rfl)
theorem abS{n:Nat}{es:List Ge}:sW n es=oB n (iW es) 0:=by
 refine AG (by rw[A9,xY]) fun i hi=>?_
 rw[A9]at hi
 rw[aew o_,CM o_]
 simp[oq]
theorem Q7{n k v:Nat}{E:List Nat}(hv:v<n)(h:E[k]? = some v):fN (oB n E k) v (fun _=>fJ (oB n E k) v+1)=oB n E (k+1):=by
 refine AG (by rw[gC,xY,xY]) fun i hi=>?_
 rw[gC,xY]at hi
 rw[iS (by rw[xY];omega),CM (show i<=n by omega),CM (show i<=n by omega),CM (show v<=n by omega),VO h]
 by_cases e:v=i
 . subst e;rw[if_pos rfl,if_pos rfl];omega
 . rw[if_neg e,if_neg e];rfl
theorem Q6{n k v:Nat}{E:List Nat}(hv:v<n)(h:E[k]? = some v):fJ (oB n E k) v<E.length:=by
 rw[CM o_]
 have a:=VP h
 have b:=QA E v
 have c:=Qz E (v+1)
 omega
def qR(n:Nat)(E:List Nat):Nat->List Nat
 | 0=>List.replicate E.length 0
 | k+1=>fN (qR n E k) (fJ (oB n E k) (fJ E k)) fun _=>k / 2
theorem JB{n:Nat}{E:List Nat}:∀ k,(qR n E k).length=E.length
 | 0=>by simp[qR]
 | k+1=>by rw[qR,gC];exact JB k
def CC(n:Nat)(es:List Ge):List Nat:=qR n (iW es) (2*es.length)
def n9(n:Nat)(es:List Ge):Prop:=∀ e∈es,e.u<n/\e.v<n/\e.u≠e.v
theorem n9.at{n:Nat}{es:List Ge}(h:n9 n es){i:Nat}(hi:i<es.length):(fJ es i).u<n/\(fJ es i).v<n/\(fJ es i).u≠(fJ es i).v:=h _ (zd (gy hi))
theorem aa1{n i:Nat}{es:List Ge}(h:i<es.length):qR n (iW es) (2*i+1)=fN (qR n (iW es) (2*i)) (fJ (oB n (iW es) (2*i)) (fJ es i).u) fun _=>i:=by
 rw[qR,iE (Ae h).1,show 2*i / 2=i by omega]
theorem aa2{n i:Nat}{es:List Ge}(h:i<es.length):qR n (iW es) (2*(i+1))=fN (qR n (iW es) (2*i+1)) (fJ (oB n (iW es) (2*i+1)) (fJ es i).v) fun _=>i:=by
 rw[show 2*(i+1)=2*i+1+1 by omega,qR,iE (Ae h).2,show (2*i+1) / 2=i by omega]
structure Gr where
 ev:Value
 sv:Value
 lv:Value
theorem SC{n j:Nat}{E:List Nat}(h:j<=n):fJ (nS n E) j<=E.length:=by
 cases j with
 | zero=>exact mZ _
 | succ j=>rw[A8 o_];exact NX _ _
theorem SD{n k j:Nat}{E:List Nat}(h:j<=n):fJ (mG n E k) j<=E.length:=by
 rw[yJ h]
 split
 . exact Qz _ _
 . exact NX _ _
theorem St.reR{bs:List (World×List Nat)}{L:List fU}{R R' : fU}{w:World}(j:Nat)(h:St bs L w)(hi:L[j]? = some R)(e:R=R'):St bs (L.set j R') w:=by
 subst e
 rwa [show L.set j R=L from by
  apply mM
  intro i
  rw[si]
  split
  . rename_i e
    subst e
    split
    . exact hi.symm
    . rename_i a
      rw[zt o_]at hi
      cases hi
  . rfl]
end Go.Sx
namespace Go.Sx
open Go
def qP(es:List Ge)(i j:Nat):Prop:=(fJ es i).w<(fJ es j).w\/((fJ es i).w=(fJ es j).w/\i<j)
instance (es:List Ge) (i j:Nat):Decidable (qP es i j):=by unfold qP;infer_instance
theorem aax{es:List Ge}(i:Nat):¬ qP es i i:=by unfold qP;omega
theorem aaw{es:List Ge}{i j:Nat}(h:qP es i j):¬ qP es j i:=by unfold qP at *;omega
structure sH (es:List Ge) (o:List Nat):Prop where
 perm:o.Perm (List.range es.length)
 FR:o.Pairwise (qP es)
theorem sH.uniq{es:List Ge}{o o' : List Nat}(h:sH es o)(c : sH es o'):o=o' :=
 Ej (r:=qP es) aax (fun a b h=>aaw h) h.FR c.FR fun x=>(h.perm.mem_iff).trans (c.perm.mem_iff).symm
theorem sH.len{es:List Ge}{o:List Nat}(h:sH es o):o.length=es.length:=by rw[h.perm.length_eq,pY]
theorem sH.lt{es:List Ge}{o:List Nat}(h:sH es o){i:Nat}(hi:i∈o):i<es.length:=z6.1 (h.perm.mem_iff.1 hi)
def gQ(es:List Ge)(n:Nat)(f:List Nat):List Nat:=f.foldl (fun lb i=>jt lb (fJ lb (fJ es i).u) (fJ lb (fJ es i).v)) (List.range n)
theorem E8{es:List Ge}{n:Nat}{f:List Nat}{i:Nat}:gQ es n (f++[i])=jt (gQ es n f) (fJ (gQ es n f) (fJ es i).u) (fJ (gQ es n f) (fJ es i).v):=by
 unfold gQ
 rw[GP]
 rfl
theorem E7{es:List Ge}{n:Nat}(f:List Nat):(gQ es n f).length=n:=by
 unfold gQ
 rw[<-List.foldr_reverse]
 induction f.reverse with
 | nil=>exact pY
 | cons i f a=>rw[List.foldr_cons,Fq];exact a
def mz(es:List Ge)(n:Nat)(f:List Nat)(i:Nat):Prop:=fJ (gQ es n f) (fJ es i).u≠fJ (gQ es n f) (fJ es i).v
instance (es:List Ge) (n:Nat) (f:List Nat) (i:Nat):Decidable (mz es n f i):=by unfold mz;infer_instance
def jo(es:List Ge)(n:Nat)(o:List Nat):List Nat:=o.foldl (fun f i=>if mz es n f i then f++[i]else f) []
theorem Cj{es:List Ge}{n:Nat}{o:List Nat}{i:Nat}:jo es n (o++[i])=if mz es n (jo es n o) i then jo es n o++[i]else jo es n o:=by
 unfold jo
 rw[GP]
 rfl
theorem ET{es:List Ge}{n k:Nat}{o:List Nat}(h:k<o.length):jo es n (o.take (k+1))=if mz es n (jo es n (o.take k)) (fJ o k)then jo es n (o.take k)++[fJ o k]else jo es n (o.take k):=by
 rw[<-Cj,nY,gy h]
 rfl
theorem Ck{es:List Ge}{n:Nat}(o:List Nat):(jo es n o).Sublist o:=by
 have h:∀ r:List Nat,(jo es n r.reverse).Sublist r.reverse:=by
  intro r
  induction r with
  | nil=>exact List.Sublist.refl _
  | cons i r a =>
   rw[GR,Cj]
   split
   . exact a.append (List.Sublist.refl _)
   . exact a.trans (List.sublist_append_left _ _)
 simpa using h o.reverse
theorem Ju{es:List Ge}{n:Nat}{f:List Nat}{i:Nat}:gQ es n (if mz es n f i then f++[i]else f)=jt (gQ es n f) (fJ (gQ es n f) (fJ es i).u) (fJ (gQ es n f) (fJ es i).v):=by
 split
 . exact E8
 . rename_i h
   have e:fJ (gQ es n f) (fJ es i).u=fJ (gQ es n f) (fJ es i).v:=Decidable.not_not.1 h
   rw[e,QY]
structure nZ (es:List Ge) (n:Nat) (f:List Nat):Prop where
 of:∃ o,sH es o/\f=jo es n o
theorem nZ.uniq{es:List Ge}{n:Nat}{f a : List Nat}(h:nZ es n f)(b : nZ es n a):f=a := by
 obtain⟨o,c,rfl⟩:=h
 obtain⟨e, d,rfl⟩:=b
 rw[c.uniq d]
theorem nZ.lt{es:List Ge}{n:Nat}{f:List Nat}(h:nZ es n f){i:Nat}(hi:i∈f):i<es.length:=by
 obtain⟨o,a,rfl⟩:=h
 exact a.lt ((Ck o).subset hi)
def rU(m k:Nat):List Nat:=List.range k++List.replicate (m-k) 0
theorem adn{m:Nat}:List.replicate m 0=rU m 0:=by simp[rU]
theorem adk{m:Nat}:rU m m=List.range m:=by simp[rU]
theorem adl{m k:Nat}(h:k<=m):(rU m k).length=m:=by simp[rU];omega
theorem adm{m k:Nat}(h:k<m):fN (rU m k) k (fun _=>k)=rU m (k+1):=by
 have:=Bc (a:=List.range k) (b:=List.replicate (m-(k+1)) 0) (x:=0) (y:=k) (f:=fun _=>k) rfl
 rw[pY]at this
 rw[rU,AT h,this,rU,sB]
 simp
end Go.Sx
namespace Go.Sx
open Go
section
variable {r:Option Nat} {P:Program} {ops:Array Oper} {Q:Exit->Act->World->Prop} {n:Nat} {ds:List Deferred} {s:List (Nat×Value)} {rest:List Oper} {w w0:World} {d:Nat} {dd:Option Nat} {T e:TypeId} {ty:TypeId} {pos:String} {af:Array Edge} {g:Option (Nat×Bool)} {x y:Operand} {α:Type} {cf:α->List Value} {ok:Nat->Prop} {ys:List α} {c:α} {sz k off off' se by_ m i:Nat} {z v:Value} {kk:IntKind}
theorem aad(l:ev n s x=jQ sz v k off)(p:ev n s y = .int kk (i:Nat))(d:P.underlying T=some (.array m e))(j:TI P e se by_ z)(r:i<m)(h:off+i*se=off')(a:iw sz cf ok w0 v ys)(f:ys[k]? = some c) :
 (execOp (ev n s) ⟨dd,.indexAddr T x y,ty,pos,af,g⟩).run P w = .ok (.value (jQ sz v k off')) w:=by
 obtain⟨b,o,t, q,rfl,_⟩:=a.place f
 subst h
 exact PY l p d j ⟨o_,o_⟩ (by simp only[mj,kD])
theorem uC(j:gB ops n s g=true)(p:ev n s x=jQ sz v k off)(q:ev n s y = .int kk (i:Nat))(f:P.underlying T=some (.array m e))(o:TI P e se by_ z)(a:i<m)(l:off+i*se=off')(b:iw sz cf ok w0 v ys)(h:ys[k]? = some c)
 (K:WL r P ops Q rest (Fr n ((d,jQ sz v k off') :: s) ds) w):WL r P ops Q (⟨some d,.indexAddr T x y,ty,pos,af,g⟩ :: rest) (Fr n s ds) w:=pw j (fun _=>aad p q f o a l b h) K
end
structure iV where
 a:Nat
 b:Nat
instance:Inhabited iV:=⟨⟨0,0⟩⟩
abbrev iV.cells(x:iV):List Value:=[.int .i64 (x.a:Int),.int .i64 (x.b:Int)]
structure Un (n:Nat) (lb:List Nat) (us:List iV):Prop where
 len:us.length=n
 bl:lb.length=n
 le:∀ i,i<n->(fJ us i).a<=i
 wh:∀ i,i<n->fJ lb (fJ us i).a=fJ lb i
 root:∀ i,i<n->(fJ us i).a=i->fJ lb i=i
 low:∀ i,i<n->fJ lb i<=i
 l7:∀ i,i<n->fJ lb (fJ lb i)=fJ lb i
structure uf (n:Nat) (lb:List Nat) (us0:List iV) (a0:Nat) (us:List iV) (i:Nat):Prop where
 un:Un n lb us
 nd:∀ j,(fJ us j).b=(fJ us0 j).b
 lt:i<n
 la:fJ lb i=fJ lb a0
theorem uf.start{n a:Nat}{lb:List Nat}{b:List iV}(h:Un n lb b)(c:a<n):uf n lb b a b a:=⟨h,fun _=>rfl,c,rfl⟩
theorem uf.half{n a0 i:Nat}{lb:List Nat}{m b us2:List iV}(h:uf n lb m a0 b i)(s:(fJ b i).a≠i)(l:us2=fN b i fun x=>{ x with a:=(fJ b (fJ b i).a).a }) :
 uf n lb m a0 us2 (fJ us2 i).a/\(fJ us2 i).a<i:=by
 have hi:=h.lt
 have o:=h.un.len
 have p:=h.un.le i hi
 have hp:(fJ b i).a<n:=by omega
 have q:=h.un.le _ hp
 have g:=h.un.wh i hi
 have k:=h.un.wh _ hp
 have d:∀ j,fJ us2 j=if i=j then { fJ b i with a:=(fJ b (fJ b i).a).a } else fJ b j:=fun j=>by rw[l];exact iS o_
 have e1:(fJ us2 i).a=(fJ b (fJ b i).a).a:=by rw[d,if_pos rfl]
 rw[e1]
 refine⟨⟨⟨by rw[l,gC];exact o,h.un.bl,fun j c=>?_,fun j c=>?_,fun j c f=>?_,h.un.low,h.un.l7⟩,fun j=>?_,o_,by rw[k,g];exact h.la⟩,o_⟩
 . rw[d]
   split
   . rename_i e;subst e;show (fJ b (fJ b i).a).a<=i;omega
   . exact h.un.le j c
 . rw[d]
   split
   . rename_i e;subst e;show fJ lb (fJ b (fJ b i).a).a=_;rw[k,g]
   . exact h.un.wh j c
 . rw[d]at f
   split at f
   . rename_i e
     subst e
     have r:(fJ b (fJ b i).a).a=i:=f
     omega
   . exact h.un.root j c f
 . rw[d]
   split
   . rename_i e;subst e;exact h.nd i
   . exact h.nd j
theorem uf.fin{n a0 i:Nat}{lb:List Nat}{d b:List iV}(h:uf n lb d a0 b i)(c:(fJ b i).a=i):i=fJ lb a0:=by rw[<-h.la,h.un.root i h.lt c]
end Go.Sx
namespace Go.Sx
open Go
theorem Un.join{n x y a b c:Nat}{lb:List Nat}{f us2:List iV}(h:Un n lb f)(B:x<n)(C:y<n)(ex:fJ lb x=x)(u:fJ lb y=y)(A:x≠y)(s:a=min x y)(hb:b=max x y)
 (o:us2=fN (fN f b fun z=>{ z with a:=a }) a fun z=>{ z with b:=c }):Un n (jt lb x y) us2/\∀ j,(fJ us2 j).b=if j=a then c else(fJ f j).b:=by
 have t:=h.len
 have v:a<b:=by omega
 have w:b<n:=by omega
 have p:∀ j,fJ us2 j=if a=j then { fJ f a with b:=c } else if b=j then { fJ f b with a:=a } else fJ f j:=by
  intro j
  rw[o,iS (by rw[gC];omega),iS o_,iS o_]
  by_cases e1:a=j
  . rw[if_pos e1,if_pos e1,if_neg o_]
  . rw[if_neg e1,if_neg e1]
 have l:∀ j,(fJ us2 j).a=if b=j then a else(fJ f j).a:=by
  intro j
  rw[p]
  by_cases e1:a=j
  . subst e1;rw[if_pos rfl,if_neg o_]
  . rw[if_neg e1]
    split<;>rfl
 have hm:∀ j,j<n->fJ (jt lb x y) j=if fJ lb j=b then a else fJ lb j:=fun j d=>by rw[ox (by rw[h.bl];exact d),<-s,<-hb]
 have q:fJ lb b=b:=by rcases(show b=x\/b=y by omega)with e|e<;>rw[e]<;>assumption
 have m:fJ lb a=a:=by rcases(show a=x\/a=y by omega)with e|e<;>rw[e]<;>assumption
 refine⟨⟨by rw[o,gC,gC];exact t,by rw[Fq];exact h.bl,fun j d=>?_,fun j d=>?_,fun j d k=>?_,fun j d=>?_,fun j d=>?_⟩,fun j=>?_⟩
 . rw[l]
   split
   . omega
   . exact h.le j d
 . rw[l,hm j d]
   split
   . rename_i e
     subst e
     rw[hm a o_,m,if_neg o_,q,if_pos rfl]
   . have g:=h.le j d
     rw[hm _ o_,h.wh j d]
 . rw[l]at k
   split at k
   . omega
   . rename_i e
     rw[hm j d]
     have g:=h.root j d k
     rw[g,if_neg (fun i=>e i.symm)]
 . rw[hm j d]
   have g:=h.low j d
   split<;>omega
 . have g:=h.low j d
   have r:=h.l7 j d
   rw[hm j d]
   split
   . rw[hm a o_,m,if_neg o_]
   . rename_i e
     rw[hm _ o_,r,if_neg e]
 . rw[p]
   by_cases e1:a=j
   . rw[if_pos e1,if_pos (show j=a from e1.symm)]
   . rw[if_neg e1,if_neg (show ¬ j=a from fun e=>e1 e.symm)]
     split
     . rename_i i;subst i;rfl
     . rfl
structure nk where
 l:List Int
 r:List Int
 p:List Int
 h:List Int
 s:List Nat
 d:List Nat
def nk.init(n m:Nat):nk:=⟨List.replicate m (-1),List.replicate m (-1),List.replicate m (-1),List.replicate m 0,List.replicate n 1++List.replicate (m-n) 0,List.range n⟩
def nk.step(lb:List Nat)(e:Ge)(x:Nat)(t:nk):nk :=
 ⟨fN t.l x (fun _=>((fJ t.d (min (fJ lb e.u) (fJ lb e.v)):Nat):Int)),fN t.r x (fun _=>((fJ t.d (max (fJ lb e.u) (fJ lb e.v)):Nat):Int)),
  fN (fN t.p (fJ t.d (min (fJ lb e.u) (fJ lb e.v))) (fun _=>(x:Int))) (fJ t.d (max (fJ lb e.u) (fJ lb e.v))) (fun _=>(x:Int)),fN t.h x (fun _=>e.w),
  fN t.s x (fun _=>fJ t.s (fJ t.d (min (fJ lb e.u) (fJ lb e.v)))+fJ t.s (fJ t.d (max (fJ lb e.u) (fJ lb e.v)))),fN t.d (min (fJ lb e.u) (fJ lb e.v)) (fun _=>x)⟩
def gI(es:List Ge)(n:Nat)(f:List Nat):Nat->nk
 | 0=>nk.init n (n+f.length)
 | i+1=>nk.step (gQ es n (f.take i)) (fJ es (fJ f i)) (n+i) (gI es n f i)
def fT(es:List Ge)(n:Nat)(f:List Nat):nk:=gI es n f f.length
theorem VT{l:List Nat}{a b:Nat}(h:a≠b):l.count a+l.count b<=l.length:=by
 induction l with
 | nil=>simp
 | cons x l c =>
  rw[vj,vj,ze]
  by_cases h1:x=a
  . subst h1;rw[if_pos s_,if_neg (by simpa using h)];omega
  . rw[if_neg (by simpa using h1)]
    split<;>omega
theorem abx{lb:List Nat}{x y j:Nat}(h:x≠y):(jt lb x y).count j=if j=max x y then 0 else if j=min x y then lb.count x+lb.count y else lb.count j:=by
 unfold jt
 induction lb with
 | nil=>simp
 | cons z lb a =>
  rw[jV,vj,a,vj,vj,vj]
  simp only[beq_iff_eq]
  by_cases h1:j=max x y
  . rw[if_pos h1,if_pos h1,if_neg]
    split<;>omega
  . rw[if_neg h1,if_neg h1]
    by_cases h2:j=min x y
    . rw[if_pos h2,if_pos h2]
      by_cases h3:z=max x y
      . rw[if_pos h3,if_pos o_]
        rcases ru x y with q|q
        . rw[tZ q]at h3;rw[if_neg o_,if_pos o_];omega
        . rw[vk q]at h3;rw[if_pos o_,if_neg o_];omega
      . rw[if_neg h3]
        by_cases h4:z=j
        . rw[if_pos h4]
          rcases ru x y with q|q
          . rw[oZ q]at h2;rw[if_pos o_,if_neg o_];omega
          . rw[vi q]at h2;rw[if_neg o_,if_pos o_];omega
        . rw[if_neg h4,if_neg o_,if_neg o_];omega
    . rw[if_neg h2,if_neg h2]
      by_cases h3:z=max x y
      . rw[if_pos h3,if_neg o_,if_neg o_]
      . rw[if_neg h3]
structure qF (es:List Ge) (n:Nat) (f:List Nat) (i:Nat) (us:List iV):Prop where
 un:Un n (gQ es n (f.take i)) us
 dd:∀ j,j<n->(fJ us j).b=fJ (gI es n f i).d j
 nd:∀ j,j<n->fJ (gI es n f i).d j<n+i
 sz:∀ j,j<n->fJ (gQ es n (f.take i)) j=j->fJ (gI es n f i).s (fJ (gI es n f i).d j)=(gQ es n (f.take i)).count j
theorem yO{es:List Ge}{n:Nat}{f:List Nat}:∀ i,(gI es n f i).l.length=n+f.length/\(gI es n f i).r.length=n+f.length/\(gI es n f i).p.length=n+f.length/\(gI es n f i).h.length=n+f.length/\(gI es n f i).s.length=n+f.length/\(gI es n f i).d.length=n
 | 0=>by simp[gI,nk.init]
 | i+1=>by
  have h:=yO (es:=es) (n:=n) (f:=f) i
  simp only[gI,nk.step,gC]
  exact h
theorem VS{n j:Nat}(h:j<n):(List.range n).count j=1:=by
 have a:=List.nodup_iff_count.1 (tW (n:=n)) j
 have b:=List.count_pos_iff.2 (z6.2 h)
 omega
theorem Un.init{n:Nat}:Un n (List.range n) ((List.range n).map fun i=>⟨i,i⟩):=by
 have h:∀ i,i<n->fJ ((List.range n).map fun i=>(⟨i,i⟩:iV)) i=⟨i,i⟩:=fun i hi=>iE (by rw[kR,pX hi];rfl)
 exact⟨s_,s_,fun i hi=>by rw[h i hi];exact zk _,fun i hi=>by rw[h i hi],fun i hi _=>lI hi,fun i hi=>by rw[lI hi];exact zk _,fun i hi=>by rw[lI hi,lI hi]⟩
theorem qF.start{es:List Ge}{n:Nat}{f:List Nat}:qF es n f 0 ((List.range n).map fun i=>⟨i,i⟩):=by
 have h:∀ i,i<n->fJ ((List.range n).map fun i=>(⟨i,i⟩:iV)) i=⟨i,i⟩:=fun i hi=>iE (by rw[kR,pX hi];rfl)
 refine⟨Un.init,fun j a=>?_,fun j a=>?_,fun j a _=>?_⟩
 . rw[h j a];exact(lI a).symm
 . show fJ (List.range n) j<n+0
   rw[lI a];omega
 . show fJ (List.replicate n 1++List.replicate (n+f.length-n) 0) (fJ (List.range n) j)=(List.range n).count j
   rw[lI a,VS a]
   exact iE (by rw[rm (by simpa using a),sj,if_pos a])
theorem qF.at{es:List Ge}{n:Nat}{f:List Nat}{i:Nat}{e:List iV}(h:qF es n f i e)(d:n9 n es)(hi:i<f.length)(c:∀ k∈f,k<es.length)(b:mz es n (f.take i) (fJ f i)) :
 (fJ es (fJ f i)).u<n/\(fJ es (fJ f i)).v<n/\fJ (gQ es n (f.take i)) (fJ es (fJ f i)).u<n/\fJ (gQ es n (f.take i)) (fJ es (fJ f i)).v<n/\fJ (gQ es n (f.take i)) (fJ es (fJ f i)).u≠fJ (gQ es n (f.take i)) (fJ es (fJ f i)).v:=by
 have a:=d.at (c _ (zd (gy hi)))
 have g:=h.un.low _ a.1
 have j:=h.un.low _ a.2.1
 exact⟨a.1,a.2.1,o_,o_,b⟩
theorem qF.next{es:List Ge}{n:Nat}{f:List Nat}{i:Nat}{S us2 B:List iV}(h:qF es n f i S)(M:n9 n es)(hi:i<f.length)(L:∀ k∈f,k<es.length)(J:mz es n (f.take i) (fJ f i))
 (I:Un n (gQ es n (f.take i)) us2) (hb:∀ j,j<n->(fJ us2 j).b=fJ (gI es n f i).d j)
 (K:B=fN (fN us2 (max (fJ (gQ es n (f.take i)) (fJ es (fJ f i)).u) (fJ (gQ es n (f.take i)) (fJ es (fJ f i)).v)) fun z=>{ z with a:=min (fJ (gQ es n (f.take i)) (fJ es (fJ f i)).u) (fJ (gQ es n (f.take i)) (fJ es (fJ f i)).v) }) (min (fJ (gQ es n (f.take i)) (fJ es (fJ f i)).u) (fJ (gQ es n (f.take i)) (fJ es (fJ f i)).v)) fun z=>{ z with b:=n+i }) :
 qF es n f (i+1) B:=by
 obtain⟨E,F,G,H,o⟩:=h.at M hi L J
 have e1:=h.un.l7 _ E
 have C:=h.un.l7 _ F
 have r:gQ es n (f.take (i+1))=jt (gQ es n (f.take i)) (fJ (gQ es n (f.take i)) (fJ es (fJ f i)).u) (fJ (gQ es n (f.take i)) (fJ es (fJ f i)).v):=by
  rw[nY,gy hi]
  exact E8
 generalize w:fJ (gQ es n (f.take i)) (fJ es (fJ f i)).u=x at *
 generalize A:fJ (gQ es n (f.take i)) (fJ es (fJ f i)).v=y at *
 obtain⟨Q,R⟩:=Un.join (c:=n+i) I G H e1 C o rfl rfl K
 have p:=yO (es:=es) (n:=n) (f:=f) i
 have hd:∀ j,fJ (gI es n f (i+1)).d j=if min x y=j then n+i else fJ (gI es n f i).d j:=by
  intro j
  simp only[gI,nk.step,w,A]
  exact iS (by rw[p.2.2.2.2.2];omega)
 have hs:∀ j,fJ (gI es n f (i+1)).s j=if n+i=j then fJ (gI es n f i).s (fJ (gI es n f i).d (min x y))+fJ (gI es n f i).s (fJ (gI es n f i).d (max x y))else fJ (gI es n f i).s j:=by
  intro j
  simp only[gI,nk.step,w,A]
  exact iS (by rw[p.2.2.2.2.1];omega)
 have N:fJ (gQ es n (f.take i)) (min x y)=min x y:=by rcases ru x y with q|q<;>simp only[oZ,vi,q]<;>assumption
 have t:fJ (gQ es n (f.take i)) (max x y)=max x y:=by rcases ru x y with q|q<;>simp only[vk,tZ,q]<;>assumption
 refine⟨r▸Q,fun j g=>?_,fun j g=>?_,fun j g l=>?_⟩
 . rw[R,hd]
   by_cases e:j=min x y
   . rw[if_pos e,if_pos e.symm]
   . rw[if_neg e,if_neg (fun q=>e q.symm),hb j g]
 . rw[hd]
   have:=h.nd j g
   split<;>omega
 . rw[r]at l ⊢
   rw[abx o,hd]
   rw[ox (by rw[h.un.bl];exact g)]at l
   by_cases e:min x y=j
   . rw[if_pos e,if_neg o_,if_pos e.symm,hs,if_pos rfl,h.sz _ o_ N,h.sz _ o_ t]
     rcases ru x y with q|q
     . rw[oZ q,tZ q]
     . rw[vi q,vk q];omega
   . rw[if_neg e]
     have O:j≠max x y:=by
      intro D
      split at l
      . omega
      . rename_i m;rw[D,t]at m;exact m rfl
     have P:fJ (gQ es n (f.take i)) j=j:=by
      split at l
      . rename_i m;omega
      . exact l
     rw[if_neg O,if_neg (fun q=>e q.symm),hs,if_neg (by have:=h.nd j g;omega)]
     exact h.sz j g P
theorem YV{es:List Ge}{n:Nat}(o:List Nat):∀ i,i<(jo es n o).length->mz es n ((jo es n o).take i) (fJ (jo es n o) i):=by
 have h:∀ r:List Nat,∀ i,i<(jo es n r.reverse).length->mz es n ((jo es n r.reverse).take i) (fJ (jo es n r.reverse) i):=by
  intro r
  induction r with
  | nil=>intro i hi;simp[jo]at hi
  | cons k r b =>
   intro i hi
   rw[GR,Cj]at hi ⊢
   split at hi
   . rename_i a
     rw[if_pos a]
     rw[zq,LN]at hi
     by_cases e:i=(jo es n r.reverse).length
     . subst e
       rw[List.take_left' rfl]
       have:fJ (jo es n r.reverse++[k]) (jo es n r.reverse).length=k:=iE s_
       rw[this]
       exact a
     . rw[GG o_]
       have:fJ (jo es n r.reverse++[k]) i=fJ (jo es n r.reverse) i:=by unfold fJ;rw[rm o_]
       rw[this]
       exact b i o_
   . rename_i a
     rw[if_neg a]
     exact b i hi
 simpa using h o.reverse
theorem nZ.mz{es:List Ge}{n:Nat}{f:List Nat}(h:nZ es n f){i:Nat}(hi:i<f.length):mz es n (f.take i) (fJ f i):=by
 obtain⟨o,_,rfl⟩:=h
 exact YV o i hi
theorem qF.two{es:List Ge}{n:Nat}{f:List Nat}{i:Nat}{z:List iV}(h:qF es n f i z)(r:n9 n es)(hi:i<f.length)(p:∀ k∈f,k<es.length)(o:mz es n (f.take i) (fJ f i)){x y:Nat}(t:fJ (gQ es n (f.take i)) (fJ es (fJ f i)).u=x)(w:fJ (gQ es n (f.take i)) (fJ es (fJ f i)).v=y) :
 fJ (gI es n f i).d (min x y)<n+i/\fJ (gI es n f i).d (max x y)<n+i/\fJ (gI es n f i).s (fJ (gI es n f i).d (min x y))+fJ (gI es n f i).s (fJ (gI es n f i).d (max x y))<=n:=by
 obtain⟨j,m,a,b,g⟩:=h.at r hi p o
 have e1:=h.un.l7 _ j
 have e:=h.un.l7 _ m
 rw[t]at a g e1
 rw[w]at b g e
 have c:=VT (l:=gQ es n (f.take i)) g
 rw[E7]at c
 rcases ru x y with q|q
 . rw[oZ q,tZ q,h.sz x a e1,h.sz y b e]
   exact⟨h.nd x a,h.nd y b,c⟩
 . rw[vi q,vk q,h.sz x a e1,h.sz y b e]
   exact⟨h.nd y b,h.nd x a,o_⟩
def nD{α:Type}(x y:α)(m k:Nat):List α:=List.replicate k x++List.replicate (m-k) y
theorem FL{α:Type}{x y:α}{m:Nat}:List.replicate m y=nD x y m 0:=by simp[nD]
theorem Kw{α:Type}{x y:α}{m:Nat}:nD x y m m=List.replicate m x:=by simp[nD]
theorem Si{α:Type}{x y:α}{m k:Nat}(h:k<=m):(nD x y m k).length=m:=by simp[nD];omega
theorem FK{α:Type}[Inhabited α]{x y:α}{m k:Nat}(h:k<m):fN (nD x y m k) k (fun _=>x)=nD x y m (k+1):=by
 have:=Bc (a:=List.replicate k x) (b:=List.replicate (m-(k+1)) y) (x:=y) (y:=x) (f:=fun _=>x) rfl
 rw[sY]at this
 rw[nD,AT h,this,nD,List.replicate_succ']
 simp
def rZ(n k:Nat):List iV:=((List.range k).map fun i=>⟨i,i⟩)++List.replicate (n-k) ⟨0,0⟩
theorem ag9{n:Nat}:List.replicate n (⟨0,0⟩:iV)=rZ n 0:=by simp[rZ]
theorem ag6{n:Nat}:rZ n n=(List.range n).map fun i=>⟨i,i⟩:=by simp[rZ]
theorem ag7{n k:Nat}(h:k<=n):(rZ n k).length=n:=by simp[rZ];omega
theorem ag8{n k:Nat}(h:k<n):fN (rZ n k) k (fun _=>⟨k,k⟩)=rZ n (k+1):=by
 have:=Bc (a:=(List.range k).map fun i=>(⟨i,i⟩:iV)) (b:=List.replicate (n-(k+1)) ⟨0,0⟩) (x:=⟨0,0⟩) (y:=⟨k,k⟩) (f:=fun _=>⟨k,k⟩) rfl
 rw[zo,pY]at this
 rw[rZ,AT h,this,rZ,sB]
 simp
theorem nZ.len{es:List Ge}{n:Nat}{f:List Nat}(h:nZ es n f):f.length<=es.length:=by
 obtain⟨o,a,rfl⟩:=h
 have:=(Ck (es:=es) (n:=n) o).length_le
 rw[a.len]at this
 exact this
end Go.Sx
namespace Go.Sx
open Go
section
variable (es:List Ge) (n:Nat) (f:List Nat)
def nA(i:Nat):Nat:=min (fJ (gQ es n (f.take i)) (fJ es (fJ f i)).u) (fJ (gQ es n (f.take i)) (fJ es (fJ f i)).v)
def nB(i:Nat):Nat:=max (fJ (gQ es n (f.take i)) (fJ es (fJ f i)).u) (fJ (gQ es n (f.take i)) (fJ es (fJ f i)).v)
def nL(i:Nat):Nat:=fJ (gI es n f i).d (nA es n f i)
def nR(i:Nat):Nat:=fJ (gI es n f i).d (nB es n f i)
def gH(y:Nat):Nat:=if y<n then y else nA es n f (y-n)
end
structure gV (es:List Ge) (n:Nat) (f:List Nat):Prop where
 g:n9 n es
 f:nZ es n f
theorem gV.Df{es:List Ge}{n:Nat}{f:List Nat}(h:gV es n f):∀ i,i<=f.length->∃ b,qF es n f i b
 | 0,_=>⟨_,qF.start⟩
 | i+1,hi=>by
  obtain⟨b,a⟩:=h.Df i o_
  exact⟨_,a.next h.g o_ (fun k c=>h.f.lt c) (h.f.mz o_) a.un a.dd rfl⟩
theorem gV.st{es:List Ge}{n:Nat}{f:List Nat}(h:gV es n f){i:Nat}(hi:i<f.length) :
 nA es n f i<nB es n f i/\nB es n f i<n/\fJ (gQ es n (f.take i)) (nA es n f i)=nA es n f i/\fJ (gQ es n (f.take i)) (nB es n f i)=nB es n f i/\nL es n f i<n+i/\nR es n f i<n+i/\gQ es n (f.take (i+1))=jt (gQ es n (f.take i)) (nA es n f i) (nB es n f i):=by
 obtain⟨p,a⟩:=h.Df i o_
 have d:=h.f.mz hi
 obtain⟨b1,b2,b3,m,o⟩:=a.at h.g hi (fun k b=>h.f.lt b) d
 obtain⟨e,j,_⟩:=a.two h.g hi (fun k b=>h.f.lt b) d rfl rfl
 have e1:=a.un.l7 _ b1
 have c:=a.un.l7 _ b2
 have l:gQ es n (f.take (i+1))=jt (gQ es n (f.take i)) (fJ (gQ es n (f.take i)) (fJ es (fJ f i)).u) (fJ (gQ es n (f.take i)) (fJ es (fJ f i)).v):=by
  rw[nY,gy hi]
  exact E8
 unfold nL nR nA nB
 refine⟨o_,o_,?_,?_,e,j,?_⟩
 . rcases ru (fJ (gQ es n (f.take i)) (fJ es (fJ f i)).u) (fJ (gQ es n (f.take i)) (fJ es (fJ f i)).v)with q|q
   . rw[oZ q];exact e1
   . rw[vi q];exact c
 . rcases ru (fJ (gQ es n (f.take i)) (fJ es (fJ f i)).u) (fJ (gQ es n (f.take i)) (fJ es (fJ f i)).v)with q|q
   . rw[tZ q];exact c
   . rw[vk q];exact e1
 . rw[l]
   rcases ru (fJ (gQ es n (f.take i)) (fJ es (fJ f i)).u) (fJ (gQ es n (f.take i)) (fJ es (fJ f i)).v)with q|q
   . rw[oZ q,tZ q]
   . rw[vi q,vk q];exact QW
structure vp (es:List Ge) (n:Nat) (f:List Nat) (i:Nat):Prop where
 a:∀ x,x<n->fJ (gI es n f i).l x = -1/\fJ (gI es n f i).r x = -1/\fJ (gI es n f i).h x=0/\fJ (gI es n f i).s x=1
 b:∀ j,j<i->fJ (gI es n f i).l (n+j)=(nL es n f j:Int)/\fJ (gI es n f i).r (n+j)=(nR es n f j:Int)/\fJ (gI es n f i).h (n+j)=(fJ es (fJ f j)).w /\
  fJ (gI es n f i).s (n+j)=fJ (gI es n f i).s (nL es n f j)+fJ (gI es n f i).s (nR es n f j)/\fJ (gI es n f i).p (nL es n f j)=((n+j:Nat):Int)/\fJ (gI es n f i).p (nR es n f j)=((n+j:Nat):Int)
 c:∀ y,y<n+f.length->fJ (gI es n f i).p y = -1\/∃ j,j<i/\fJ (gI es n f i).p y=((n+j:Nat):Int)/\(y=nL es n f j\/y=nR es n f j)
 e:∀ y,y<n+f.length->fJ (gI es n f i).s y<=n
 d:∀ l,l<n->fJ (gQ es n (f.take i)) l=l->fJ (gI es n f i).p (fJ (gI es n f i).d l) = -1/\gH es n f (fJ (gI es n f i).d l)=l
theorem vp.start{es:List Ge}{n:Nat}{f:List Nat}:vp es n f 0:=by
 refine⟨fun x b=>?_,fun j d=>by omega,fun y c=>.inl ?_,fun y c=>?_,fun l a _=>?_⟩
 . show fJ (List.replicate (n+f.length) (-1)) x = -1/\fJ (List.replicate (n+f.length) (-1)) x = -1/\fJ (List.replicate (n+f.length) 0) x=0/\fJ (List.replicate n 1++List.replicate (n+f.length-n) 0) x=1
   refine⟨AH o_,AH o_,AH o_,iE ?_⟩
   rw[rm (by simpa using b),sj,if_pos b]
 . exact AH c
 . show fJ (List.replicate n 1++List.replicate (n+f.length-n) 0) y<=n
   by_cases h1:y<n
   . rw[iE (x:=1) (by rw[rm (by simpa using h1),sj,if_pos h1])];omega
   . rw[iE (x:=0) (by rw[Dt (by simp;omega),sj,if_pos (by simp;omega)])];omega
 . show fJ (List.replicate (n+f.length) (-1)) (fJ (List.range n) l) = -1/\gH es n f (fJ (List.range n) l)=l
   rw[lI a]
   exact⟨AH o_,if_pos a⟩
theorem vp.next{es:List Ge}{n:Nat}{f:List Nat}(h:gV es n f){i:Nat}(hi:i<f.length)(v:vp es n f i):vp es n f (i+1):=by
 obtain⟨s1,s2,s3,L,s5,s6,s7⟩:=h.st hi
 obtain⟨l1,l2,l3,l4,l5,l6⟩:=yO (es:=es) (n:=n) (f:=f) i
 obtain⟨P,G⟩:=v.d _ o_ s3
 obtain⟨Q,H⟩:=v.d _ s2 L
 have Y:nL es n f i≠nR es n f i:=fun e=>by
  have e1:gH es n f (nL es n f i)=nA es n f i:=G
  have m:gH es n f (nR es n f i)=nB es n f i:=H
  rw[e,m]at e1
  omega
 have E:∀ y,fJ (gI es n f (i+1)).l y=if n+i=y then(nL es n f i:Int)else fJ (gI es n f i).l y:=by
  intro y
  have e1:(gI es n f (i+1)).l=fN (gI es n f i).l (n+i) (fun _=>(nL es n f i:Int)):=rfl
  rw[e1,iS o_]
 have F:∀ y,fJ (gI es n f (i+1)).r y=if n+i=y then(nR es n f i:Int)else fJ (gI es n f i).r y:=by
  intro y
  have e1:(gI es n f (i+1)).r=fN (gI es n f i).r (n+i) (fun _=>(nR es n f i:Int)):=rfl
  rw[e1,iS o_]
 have D:∀ y,fJ (gI es n f (i+1)).h y=if n+i=y then(fJ es (fJ f i)).w else fJ (gI es n f i).h y:=by
  intro y
  have e1:(gI es n f (i+1)).h=fN (gI es n f i).h (n+i) (fun _=>(fJ es (fJ f i)).w):=rfl
  rw[e1,iS o_]
 have t:∀ y,fJ (gI es n f (i+1)).s y=if n+i=y then fJ (gI es n f i).s (nL es n f i)+fJ (gI es n f i).s (nR es n f i)else fJ (gI es n f i).s y:=by
  intro y
  have e1:(gI es n f (i+1)).s=fN (gI es n f i).s (n+i) (fun _=>fJ (gI es n f i).s (nL es n f i)+fJ (gI es n f i).s (nR es n f i)):=rfl
  rw[e1,iS o_]
 have td:∀ y,fJ (gI es n f (i+1)).d y=if nA es n f i=y then n+i else fJ (gI es n f i).d y:=by
  intro y
  have e1:(gI es n f (i+1)).d=fN (gI es n f i).d (nA es n f i) (fun _=>n+i):=rfl
  rw[e1,iS o_]
 have A:∀ y,fJ (gI es n f (i+1)).p y=if nR es n f i=y then((n+i:Nat):Int)else if nL es n f i=y then((n+i:Nat):Int)else fJ (gI es n f i).p y:=by
  intro y
  have e1:(gI es n f (i+1)).p=fN (fN (gI es n f i).p (nL es n f i) fun _=>((n+i:Nat):Int)) (nR es n f i) fun _=>((n+i:Nat):Int):=rfl
  rw[e1,iS (by rw[gC];omega),iS o_]
 refine⟨fun x Z=>?_,fun j hj=>?_,fun y q=>?_,fun y q=>?_,fun l K z=>?_⟩
 . rw[E,F,D,t,if_neg o_,if_neg o_,if_neg o_,if_neg o_]
   exact v.a x Z
 . by_cases e:j=i
   . subst e
     refine⟨by rw[E,if_pos rfl],by rw[F,if_pos rfl],by rw[D,if_pos rfl],?_,?_,by rw[A,if_pos rfl]⟩
     . rw[t,t,t,if_pos rfl,if_neg o_,if_neg o_]
     . rw[A,if_neg (fun e=>Y e.symm),if_pos rfl]
   . have S : j<i:=by omega
     obtain⟨b1,b2,b3,M,N,O⟩:=v.b j S
     obtain⟨_,_,_,_,q5,q6,_⟩:=h.st (show j<f.length by omega)
     have k1:∀ y,fJ (gI es n f i).p y=((n+j:Nat):Int)->fJ (gI es n f (i+1)).p y=((n+j:Nat):Int):=by
      intro y q
      rw[A,if_neg,if_neg,q]
      . intro m;rw[<-m]at q;have o:fJ (gI es n f i).p (nL es n f i) = -1:=P;rw[o]at q;omega
      . intro m;rw[<-m]at q;have o:fJ (gI es n f i).p (nR es n f i) = -1:=Q;rw[o]at q;omega
     rw[E,F,D,t,t,t,if_neg o_,if_neg o_,if_neg o_,if_neg o_,if_neg o_,if_neg o_]
     exact⟨b1,b2,b3,M,k1 _ N,k1 _ O⟩
 . rw[A]
   by_cases e1:nR es n f i=y
   . exact .inr ⟨i,o_,by rw[if_pos e1],.inr e1.symm⟩
   . rw[if_neg e1]
     by_cases m:nL es n f i=y
     . exact .inr ⟨i,o_,by rw[if_pos m],.inl m.symm⟩
     . rw[if_neg m]
       rcases v.c y q with u|⟨j,u,I,J⟩
       . exact .inl u
       . exact .inr ⟨j,o_,I,J⟩
 . rw[t]
   split
   . obtain⟨us,u⟩:=h.Df i o_
     exact(u.two h.g hi (fun k T=>h.f.lt T) (h.f.mz hi) rfl rfl).2.2
   . exact v.e y q
 . rw[s7,ox (by rw[E7];exact K)]at z
   have X:max (nA es n f i) (nB es n f i)=nB es n f i:=by omega
   have W:min (nA es n f i) (nB es n f i)=nA es n f i:=by omega
   rw[X,W]at z
   rw[td]
   by_cases e:nA es n f i=l
   . rw[if_pos e]
     refine⟨?_,?_⟩
     . rw[A,if_neg o_,if_neg o_]
       rcases v.c (n+i) o_ with u|⟨j,u,I,J⟩
       . exact u
       . obtain⟨_,_,_,_,q5,q6,_⟩:=h.st (show j<f.length by omega)
         omega
     . unfold gH
       rw[if_neg o_,show n+i-n=i by omega]
       exact e
   . rw[if_neg e]
     have U:fJ (gQ es n (f.take i)) l=l:=by
      split at z
      . exact absurd z e
      . exact z
     have V:l≠nB es n f i:=by
      intro o
      rw[if_pos (by rw[o];exact L)]at z
      exact e z
     obtain⟨R,B⟩:=v.d l K U
     refine⟨?_,B⟩
     rw[A,if_neg,if_neg,R]
     . intro o
       rw[<-o]at B
       have C:gH es n f (nL es n f i)=nA es n f i:=G
       exact e (C.symm.trans B)
     . intro o
       rw[<-o]at B
       have C:gH es n f (nR es n f i)=nB es n f i:=H
       exact V (B.symm.trans C)
theorem gV.vK{es:List Ge}{n:Nat}{f:List Nat}(h:gV es n f):∀ i,i<=f.length->vp es n f i
 | 0,_=>vp.start
 | i+1,hi=>(h.vK i o_).next h o_
theorem gV.v{es:List Ge}{n:Nat}{f:List Nat}(h:gV es n f):vp es n f f.length:=h.vK _ (zk _)
theorem gV.v8{es:List Ge}{n:Nat}{f:List Nat}(h:gV es n f){i:Nat}(hi:i<f.length):gH es n f (nL es n f i)=nA es n f i/\gH es n f (nR es n f i)=nB es n f i/\gH es n f (n+i)=nA es n f i:=by
 obtain⟨s1,s2,s3,a,b,c,e⟩:=h.st hi
 have v:=h.vK i o_
 refine⟨(v.d _ o_ s3).2,(v.d _ s2 a).2,?_⟩
 unfold gH
 rw[if_neg o_,show n+i-n=i by omega]
theorem nZ.k7{es:List Ge}{n:Nat}{f:List Nat}(h:nZ es n f){i:Nat}(hi:i+1<f.length):(fJ es (fJ f i)).w<=(fJ es (fJ f (i+1))).w:=by
 obtain⟨o,a,rfl⟩:=h
 have b:=a.FR.sublist (Ck (es:=es) (n:=n) o)
 have c:=(u5.1 b) i (i+1) o_ hi o_
 rw[iE (zj (show i<(jo es n o).length by omega)),iE (zj hi)]
 unfold qP at c
 omega
theorem aaP{L:List Nat}{p q:Nat->Bool}(x:Nat)(c:x∈L)(hp:p x=true)(f:q x=false)(h:∀ l∈L,q l=true->p l=true):(L.filter q).length<(L.filter p).length:=by
 induction L with
 | nil=>cases c
 | cons y L g =>
  have e:∀ M:List Nat,(∀ l∈M,q l=true->p l=true)->(M.filter q).length<=(M.filter p).length:=by
   intro M
   induction M with
   | nil=>intro _;exact zk _
   | cons z M i =>
    intro d
    have a:=i fun l b=>d l (by simp[b])
    rw[qx,qx]
    cases hqz:q z with
    | true=>rw[d z s_ hqz];simpa using a
    | false =>
     cases p z with
     | true=>simp;omega
     | false=>simpa using a
  rw[qx,qx]
  rcases zb.1 c with rfl|c
  . rw[hp,f]
    have:=e L fun l b=>h l (by simp[b])
    simp
    omega
  . have a:=g c fun l b=>h l (by simp[b])
    cases hqy:q y with
    | true=>rw[h y s_ hqy];simpa using a
    | false =>
     cases p y with
     | true=>simp;omega
     | false=>simpa using a
theorem nZ.room{es:List Ge}{n:Nat}{f:List Nat}(h:nZ es n f)(k:n9 n es):f.length<=n:=by
 have j:gV es n f:=⟨k,h⟩
 -- each step makes one label less
 have key:∀ i,i<=f.length->i+((List.range n).filter fun l=>decide (fJ (gQ es n (f.take i)) l=l)).length<=n:=by
  intro i
  induction i with
  | zero=>intro _;have:=u7 (fun l=>decide (fJ (gQ es n (f.take 0)) l=l)) (List.range n);rw[pY]at this;omega
  | succ i p =>
   intro hi
   have q:=p o_
   obtain⟨s1,s2,s3,d,s,t,g⟩:=j.st (show i<f.length by omega)
   have c:max (nA es n f i) (nB es n f i)=nB es n f i:=by omega
   have b:min (nA es n f i) (nB es n f i)=nA es n f i:=by omega
   have r:((List.range n).filter fun l=>decide (fJ (gQ es n (f.take (i+1))) l=l)).length<((List.range n).filter fun l=>decide (fJ (gQ es n (f.take i)) l=l)).length:=by
    refine aaP (nB es n f i) (z6.2 s2) (by simpa using d) ?_ fun l m a=>?_
    . rw[g,ox (by rw[E7];exact s2),c,b,if_pos d]
      simp;omega
    . have o := z6.1 m
      rw[g,ox (by rw[E7];exact o),c,b]at a
      simp only[decide_eq_true_eq]at a ⊢
      split at a
      . rename_i e;rw[<-a]at e;omega
      . exact a
   omega
 have:=key f.length (zk _)
 omega
theorem gV.inner{es:List Ge}{n:Nat}{f:List Nat}(h:gV es n f){i:Nat}(hi:i<f.length) :
 (fT es n f).l[n+i]? = some (nL es n f i:Int)/\(fT es n f).r[n+i]? = some (nR es n f i:Int)/\(fT es n f).h[n+i]? = some (fJ es (fJ f i)).w/\(fT es n f).p[nL es n f i]? = some ((n+i:Nat):Int)/\(fT es n f).p[nR es n f i]? = some ((n+i:Nat):Int) /\
 fJ (fT es n f).s (n+i)=fJ (fT es n f).s (nL es n f i)+fJ (fT es n f).s (nR es n f i)/\fJ (fT es n f).s (n+i)<=n/\nL es n f i<n+i/\nR es n f i<n+i/\nL es n f i≠nR es n f i:=by
 obtain⟨o,q,t,u,x,y⟩:=yO (es:=es) (n:=n) (f:=f) f.length
 obtain⟨b1,b2,b3,a,c,d⟩:=h.v.b i hi
 obtain⟨s1,s2,s3,z,j,k,A⟩:=h.st hi
 obtain⟨k1,g,m⟩:=h.v8 hi
 refine⟨?_,?_,?_,?_,?_,a,h.v.e _ o_,j,k,fun e=>?_⟩
 . rw[<-b1];exact gy (by show n+i<(gI es n f f.length).l.length;omega)
 . rw[<-b2];exact gy (by show n+i<(gI es n f f.length).r.length;omega)
 . rw[<-b3];exact gy (by show n+i<(gI es n f f.length).h.length;omega)
 . rw[<-c];exact gy (by show nL es n f i<(gI es n f f.length).p.length;omega)
 . rw[<-d];exact gy (by show nR es n f i<(gI es n f f.length).p.length;omega)
 . rw[e,g]at k1;omega
theorem lC{es:List Ge}{n:Nat}{f:List Nat}:(fT es n f).l.length=n+f.length/\(fT es n f).r.length=n+f.length/\(fT es n f).p.length=n+f.length/\(fT es n f).h.length=n+f.length/\(fT es n f).s.length=n+f.length:=by
 obtain⟨a,b,c,d,e,g⟩:=yO (es:=es) (n:=n) (f:=f) f.length
 exact⟨a,b,c,d,e⟩
theorem gV.par{es:List Ge}{n:Nat}{f:List Nat}(h:gV es n f){y:Nat}(e:y<n+f.length):(fT es n f).p[y]? = some (-1)\/∃ j,j<f.length/\(fT es n f).p[y]? = some ((n+j:Nat):Int)/\(y=nL es n f j\/y=nR es n f j):=by
 have g:=(lC (es:=es) (n:=n) (f:=f)).2.2.1
 rcases h.v.c y e with a|⟨j,a,b,d⟩
 . exact .inl (by rw[<-a];exact gy (by show y<(fT es n f).p.length;omega))
 . exact .inr ⟨j,a,by rw[<-b];exact gy (by show y<(fT es n f).p.length;omega),d⟩
def Pq(v:Value):List Value:=[v]
def nw(es:List Ge)(n:Nat)(f:List Nat)(m k:Nat):List Nat:=(List.range k).map (gH es n f)++List.replicate (m-k) 0
theorem aaK{es:List Ge}{n m:Nat}{f:List Nat}:List.replicate m 0=nw es n f m 0:=by simp[nw]
theorem aaH{es:List Ge}{n m:Nat}{f:List Nat}:nw es n f m m=(List.range m).map (gH es n f):=by simp[nw]
theorem aaI{es:List Ge}{n m k:Nat}{f:List Nat}(h:k<=m):(nw es n f m k).length=m:=by simp[nw];omega
theorem Qr{es:List Ge}{n m k j c:Nat}{f:List Nat}(hk:k<=m)(h:j<k):(fN (nw es n f m k) k fun _=>c)[j]? = some (gH es n f j):=by
 unfold fN nw
 rw[si,if_neg o_,rm (by simpa using h),kR,pX h]
 rfl
theorem Qs{es:List Ge}{n m k c:Nat}{f:List Nat}(h:k<m)(d:c=gH es n f k):fN (nw es n f m k) k (fun _=>c)=nw es n f m (k+1):=by
 have:=Bc (a:=(List.range k).map (gH es n f)) (b:=List.replicate (m-(k+1)) 0) (x:=0) (y:=c) (f:=fun _=>c) rfl
 rw[zo,pY]at this
 rw[nw,AT h,this,nw,sB,d]
 simp
theorem aaJ{es:List Ge}{n m k c d:Nat}{f:List Nat}(h:k<m)(a:c=gH es n f k):fN (fN (nw es n f m k) k (fun _=>d)) k (fun _=>c)=nw es n f m (k+1):=by
 rw[<-Qs h a]
 unfold fN
 rw[List.set_set]
theorem St.xL{bs:List (World×List Nat)}{L:List fU}{w w0:World}{b:Nat}{T:TypeId}{cs:List Value}(h:St bs L w)(hb:(w0,[])∈bs)(a:(blk b T cs).holds w0):(blk b T cs).holds w :=
 (blk b T cs).loc w0 w (fun c d => h.keep hb (by
  have e:c = b:=by simpa[blk]using d
  subst e
  exact(nW.1 a).1) nI) a
structure Mg where
 a:Nat
 b:Nat
 h:Int
 s:Nat
instance:Inhabited Mg:=⟨⟨0,0,0,0⟩⟩
abbrev Mg.cells(x:Mg):List Value:=[.int .i64 (x.a:Int),.int .i64 (x.b:Int),.int .i64 x.h,.int .i64 1,.int .i64 (x.s:Int)]
def JM(es:List Ge)(n:Nat)(f:List Nat)(i:Nat):Mg:=⟨nA es n f i,nB es n f i,(fJ es (fJ f i)).w,fJ (fT es n f).s (n+i)⟩
def nM(es:List Ge)(n:Nat)(f:List Nat)(k:Nat):List Mg:=(List.range k).map (JM es n f)
theorem abl{es:List Ge}{n k:Nat}{f:List Nat}:nM es n f (k+1)=nM es n f k++[JM es n f k]:=by unfold nM;rw[sB,sw];rfl
theorem QI{es:List Ge}{n k:Nat}{f:List Nat}:(nM es n f k).length=k:=by simp[nM]
theorem Qt{es:List Ge}{n m j:Nat}{f:List Nat}(h:j<m):((List.range m).map (gH es n f))[j]? = some (gH es n f j):=by rw[kR,pX h];rfl
end Go.Sx
namespace Go.Sx
open Go
structure j3 (ps:List Int):Prop where
 up:∀ i,i<ps.length->fJ ps i<0\/(i:Int)<fJ ps i/\fJ ps i<(ps.length:Int)
def gp(ps:List Int)(i:Nat):Nat:=if h:(i:Int)<fJ ps i/\i<ps.length then gp ps (fJ ps i).toNat+1 else 0
termination_by ps.length-i
decreasing_by omega
def jF(ps:List Int)(k i:Nat):List Nat:=(List.range k).filter fun j=>decide (fJ ps j=(i:Int))
def nQ(ps:List Int)(k:Nat):List Nat:=(List.range k).filter fun j=>decide (fJ ps j<0)
section
variable {ps:List Int} {k i j:Nat}
theorem adx(h:fJ ps k<0):nQ ps (k+1)=nQ ps k++[k]:=by simp[nQ,sB,vh,h]
theorem adw(h:¬ fJ ps k<0):nQ ps (k+1)=nQ ps k:=by simp[nQ,sB,vh,h]
theorem Qd:jF ps (k+1) i=if fJ ps k=(i:Int)then jF ps k i++[k]else jF ps k i:=by
 unfold jF
 rw[sB,vh]
 split<;>rename_i h<;>simp[h]
theorem aaq(h:fJ ps k<0):jF ps (k+1) i=jF ps k i:=by rw[Qd,if_neg o_]
theorem QH:j∈jF ps k i↔j<k/\fJ ps j=(i:Int):=by simp[jF]
theorem Fl:j∈nQ ps k↔j<k/\fJ ps j<0:=by simp[nQ]
theorem aap:(jF ps k i).Nodup:=tW.sublist wY
theorem adv:(nQ ps k).Nodup:=tW.sublist wY
theorem adu:(nQ ps k).length<=k:=kS (u7 _ _) s_
theorem Qc:(jF ps k i).length<=k:=kS (u7 _ _) s_
theorem Et(h:fJ ps i<0):gp ps i=0:=by rw[gp,dif_neg o_]
theorem Ad(hp:j3 ps)(a:j<ps.length)(h:fJ ps j=(i:Int)):gp ps j=gp ps i+1:=by
 have b:=hp.up j a
 rw[gp,dif_pos o_,h]
 rfl
theorem Ik:gp ps i<=ps.length-i:=by
 induction hm:ps.length-i using Nat.strongRecOn generalizing i with
 | _ m a =>
  rw[gp]
  split
  . rename_i h
    have:=a (ps.length-(fJ ps i).toNat) o_ rfl
    omega
  . omega
end
structure Bf (ps:List Int) (i j:Nat) (od:List Nat) (dp:List Nat):Prop where
 nd:od.Nodup
 lt:∀ x∈od,x<ps.length
 len:dp.length=ps.length
 mem:∀ x,x<ps.length->(x∈od↔fJ ps x<0\/(∃ p∈od.take i,fJ ps x=(p:Int))\/i<od.length/\x∈(jF ps ps.length (fJ od i)).take j)
 dep:∀ x∈od,fJ dp x=gp ps x
 Jd:i<=od.length
 zero:∀ x,x<ps.length->x∉od->fJ dp x=0
section
variable {ps:List Int} {i j:Nat} {od dp:List Nat}
theorem Bf.J7(h:Bf ps i j od dp):od.length<=ps.length:=AJ _ _ h.nd h.lt
theorem Bf.start:Bf ps 0 0 (nQ ps ps.length) (List.replicate ps.length 0) where
 nd:=adv
 lt x hx:=(Fl.1 hx).1
 len:=by simp
 mem x hx:=by simp[Fl,hx]
 dep x hx:=by
  rw[Et (Fl.1 hx).2]
  exact iE (by simp[(Fl.1 hx).1])
 Jd:=by simp
 zero x hx _:=iE (by simp[hx])
theorem Bf.new(h:Bf ps i j od dp)(hi:i<od.length){c:Nat}(e:(jF ps ps.length (fJ od i))[j]? = some c):c<ps.length/\fJ ps c=((fJ od i:Nat):Int)/\c∉od:=by
 obtain⟨d,g⟩:=QH.1 (zd e)
 refine⟨d,g,fun hm=>?_⟩
 rcases(h.mem c d).1 hm with b|⟨p,hp,b⟩|⟨_,b⟩
 . omega
 . have l:p=fJ od i:=by omega
   subst l
   have f:=h.nd
   rw[<-u9 i od]at f
   have k:fJ od i∈od.drop i:=zd (i:=0) (by rw[DE,qC];exact gy hi)
   exact(zr.1 f).2.2 _ hp _ k rfl
 . obtain⟨q,a⟩:=List.mem_iff_getElem?.1 b
   rw[r9]at a
   split at a
   . rename_i n
     obtain⟨m,o⟩:=zg.1 a
     have:=(List.getElem?_inj m aap).1 (a.trans e.symm)
     omega
   . cases a
theorem Bf.v8(hp:j3 ps)(h:Bf ps i j od dp)(hi:i<od.length){c:Nat}(l:(jF ps ps.length (fJ od i))[j]? = some c) :
 Bf ps i (j+1) (od++[c]) (fN dp c (fun _=>fJ dp (fJ od i)+1)):=by
 obtain⟨g,m,k⟩:=h.new hi l
 have o:fJ (od++[c]) i=fJ od i:=iE (by rw[rm hi];exact gy hi)
 refine⟨?_,?_,by rw[gC];exact h.len,?_,?_,by rw[zq];have:=h.Jd;omega,?_⟩
 . refine zr.2 ⟨h.nd,s_,?_⟩
   rintro a n b hb rfl
   simp only[zz]at hb
   exact k (hb▸n)
 . intro x f
   rcases zm.1 f with d|d
   . exact h.lt x d
   . simp only[zz]at d
     exact d▸g
 . intro x f
   rw[o,GG o_,nY,l]
   simp only[zm,zz,Option.toList_some,zq,LN]
   rw[h.mem x f]
   constructor
   . rintro((d|d|⟨_,d⟩)|d)
     . exact .inl d
     . exact .inr (.inl d)
     . exact .inr (.inr ⟨o_,.inl d⟩)
     . exact .inr (.inr ⟨o_,.inr d⟩)
   . rintro(d|d|⟨_,d|d⟩)
     . exact .inl (.inl d)
     . exact .inl (.inr (.inl d))
     . exact .inl (.inr (.inr ⟨hi,d⟩))
     . exact .inr d
 . intro x f
   rcases zm.1 f with d|d
   . have q:c≠x:=fun e=>k (e▸d)
     rw[jX q]
     exact h.dep x d
   . simp only[zz]at d
     subst d
     rw[j9 (by rw[h.len];exact g),Ad hp g m,h.dep _ (zd (gy hi))]
 . intro x f p
   have d:x∉od/\x≠c:=by simpa using p
   rw[jX (Ne.symm d.2)]
   exact h.zero x f d.1
theorem Bf.next(h:Bf ps i j od dp)(hi:i<od.length)(d:(jF ps ps.length (fJ od i)).length<=j):Bf ps (i+1) 0 od dp:=by
 refine⟨h.nd,h.lt,h.len,fun x c=>?_,h.dep,hi,h.zero⟩
 rw[h.mem x c,u6 d,nY,gy hi]
 simp only[QH,List.take_zero,nI,and_false,or_false,zm,Option.toList_some,zz]
 constructor
 . rintro(a|⟨p,a,b⟩|⟨_,_,b⟩)
   . exact .inl a
   . exact .inr ⟨p,.inl a,b⟩
   . exact .inr ⟨_,.inr rfl,b⟩
 . rintro(a|⟨p,a|a,b⟩)
   . exact .inl a
   . exact .inr (.inl ⟨p,a,b⟩)
   . subst a
     exact .inr (.inr ⟨hi,c,b⟩)
theorem Bf.all(hp:j3 ps)(h:Bf ps od.length 0 od dp):∀ x,x<ps.length->x∈od:=by
 intro x
 induction hm:ps.length-x using Nat.strongRecOn generalizing x with
 | _ m c =>
  intro b
  rw[h.mem x b]
  rcases hp.up x b with a|⟨a,d⟩
  . exact .inl a
  . refine .inr (.inl ⟨(fJ ps x).toNat,?_,o_⟩)
    rw[qz]
    exact c (ps.length-(fJ ps x).toNat) o_ _ rfl o_
theorem Bf.fin(hp:j3 ps)(h:Bf ps od.length 0 od dp):od.length=ps.length/\dp=(List.range ps.length).map (gp ps):=by
 refine⟨Nat.le_antisymm h.J7 ?_,?_⟩
 . have b:=CL (List.range ps.length) od tW fun x a=>h.all hp x (z6.1 a)
   simpa using b
 . apply mM
   intro x
   by_cases a:x<ps.length
   . rw[gy (by rw[h.len];exact a),h.dep x (h.all hp x a)]
     simp[a]
   . rw[zt (by rw[h.len];omega),zt (by simp;omega)]
end
def ou(f:Nat->Int)(n k:Nat):List Int:=(List.range k).map f++List.replicate (n-k) 0
section
variable {f:Nat->Int} {n k j:Nat}
theorem YK(h:k<=n):(ou f n k).length=n:=by simp[ou];omega
theorem YM:ou f n 0=List.replicate n 0:=by simp[ou]
theorem YJ:ou f n n=(List.range n).map f:=by simp[ou]
theorem YL(h:k<n):fN (ou f n k) k (fun _=>f k)=ou f n (k+1):=by
 unfold ou fN
 rw[List.set_append_right _ _ s_,sB,sw,mL]
 simp only[zo,pY,Nat.sub_self,jV,DM]
 obtain⟨m,hm⟩:∃ m,n-k=m+1:=⟨n-k-1,o_⟩
 rw[hm,List.replicate_succ,List.set_cons_zero,show n-(k+1)=m by omega]
 rfl
theorem QF{α:Type}[Inhabited α]{g:Nat->α}(h:j<n):fJ ((List.range n).map g) j=g j:=iE (by simp[h])
end
def j8(ps:List Int):Nat->Nat->Int
 | 0,v=>fJ ps v
 | k+1,v=>if 0<=j8 ps k v then j8 ps k (j8 ps k v).toNat else j8 ps k v
def jr(ps:List Int)(k:Nat):List Int:=(List.range ps.length).map (j8 ps k)
section
variable {ps:List Int} {k v:Nat}
theorem Jm(hp:j3 ps)(hv:v<ps.length):j8 ps k v<0\/(v:Int)<j8 ps k v/\j8 ps k v<(ps.length:Int):=by
 induction k generalizing v with
 | zero=>exact hp.up v hv
 | succ k a =>
  have b:=a hv
  unfold j8
  split
  . have c:=a (v:=(j8 ps k v).toNat) o_
    omega
  . omega
theorem E5(h:0<=j8 ps k v):j8 ps (k+1) v=j8 ps k (j8 ps k v).toNat:=by
 show (if 0<=j8 ps k v then _ else _)=_
 rw[if_pos h]
theorem Jn(h:¬ 0<=j8 ps k v):j8 ps (k+1) v=j8 ps k v:=by
 show (if 0<=j8 ps k v then _ else _)=_
 rw[if_neg h]
theorem Ay:(jr ps k).length=ps.length:=by simp[jr]
theorem uD(h:v<ps.length):fJ (jr ps k) v=j8 ps k v:=QF h
theorem aai:jr ps 0=ps:=by
 apply mM
 intro j
 by_cases hj:j<ps.length
 . rw[gy hj,gy (by rw[Ay];exact hj),uD hj]
   rfl
 . rw[zt (by rw[Ay];omega),zt o_]
theorem aak(hp:j3 ps)(hv:v<ps.length)(h:0<=fJ (jr ps k) v):fJ (jr ps k) (fJ (jr ps k) v).toNat=j8 ps (k+1) v:=by
 rw[uD hv]at h ⊢
 rw[E5 h,uD]
 have:=Jm hp hv (k:=k)
 omega
theorem aaj(hv:v<ps.length)(h:¬ 0<=fJ (jr ps k) v):fJ (jr ps k) v=j8 ps (k+1) v:=by
 rw[uD hv]at h ⊢
 rw[Jn h]
theorem IW{f:Nat->Int}{n:Nat}{x:Int}(h:v<n)(a:x=f v):fN (ou f n v) v (fun _=>x)=ou f n (v+1):=by
 rw[a];exact YL h
end
section
variable {ps:List Int} {l:List (Value×List Int)} {k q n:Nat} {v:Value}
theorem Yy{α:Type}[Inhabited α]{l:List α}(h:q<k):fJ (l.eraseIdx k) q=fJ l q:=by
 unfold fJ
 rw[List.getElem?_eraseIdx_of_lt h]
theorem aah(a:l.length=n)(hk:k<n)(h:∀ q,q<k->(fJ l q).2=jr ps q):∀ q,q<k+1->(fJ (fN l k (fun _=>(v,jr ps k))) q).2=jr ps q:=by
 intro q b
 rw[iS o_]
 split
 . rename_i e;subst e;rfl
 . exact h q o_
end
def i6(ps hs:List Int)(T:Int)(x:Nat):Nat:=if h:((x:Int)<fJ ps x/\x<ps.length)/\fJ hs (fJ ps x).toNat<=T then i6 ps hs T (fJ ps x).toNat else x
termination_by ps.length-x
decreasing_by omega
section
variable {ps hs:List Int} {T:Int} {x:Nat}
theorem Ac(hp:j3 ps)(a:x<ps.length)(h:0<=fJ ps x)(b:fJ hs (fJ ps x).toNat<=T):i6 ps hs T x=i6 ps hs T (fJ ps x).toNat:=by
 have:=hp.up x a
 rw[i6,dif_pos ⟨⟨o_,a⟩,b⟩]
theorem B5(h:¬ (0<=fJ ps x/\fJ hs (fJ ps x).toNat<=T)):i6 ps hs T x=x:=by
 rw[i6,dif_neg (fun a=>h ⟨o_,a.2⟩)]
theorem H7(a:x<ps.length)(hp:j3 ps):i6 ps hs T x<ps.length:=by
 induction hm:ps.length-x using Nat.strongRecOn generalizing x with
 | _ m b =>
  by_cases h:0<=fJ ps x/\fJ hs (fJ ps x).toNat<=T
  . have c:=hp.up x a
    rw[Ac hp a h.1 h.2]
    exact b (ps.length-(fJ ps x).toNat) o_ o_ rfl
  . rw[B5 h]
    exact a
end
theorem PZ{l:List (Value×List Int)}(h:l.length=13):l.flatMap kG=[(fJ l 0).1,(fJ l 1).1,(fJ l 2).1,(fJ l 3).1,(fJ l 4).1,(fJ l 5).1,(fJ l 6).1,(fJ l 7).1,(fJ l 8).1,(fJ l 9).1,(fJ l 10).1,(fJ l 11).1,(fJ l 12).1]:=by
 match l,h with
 | [a0,a1,a2,a3,a4,a5,a6,a7,a8,a9,a10,a11,a12],_=>rfl
theorem gV.Rr{es:List Ge}{n:Nat}{f:List Nat}(h:gV es n f){y:Nat}(d:y<n+f.length):fJ (fT es n f).p y = -1\/(y:Int)<fJ (fT es n f).p y/\fJ (fT es n f).p y<((n+f.length:Nat):Int):=by
 rcases h.par d with a|⟨j,a,c,b⟩
 . exact .inl (iE a)
 . have e:=iE c
   obtain⟨_,_,_,_,_,_,_,g,i,_⟩:=h.inner a
   refine .inr ?_
   rcases b with b|b<;>omega
theorem gV.pQ{es:List Ge}{n:Nat}{f:List Nat}(h:gV es n f):j3 (fT es n f).p :=
 ⟨fun i hi=>by
  have c:=(lC (es:=es) (n:=n) (f:=f)).2.2.1
  rcases h.Rr (y:=i) o_ with a|⟨a,b⟩
  . exact .inl o_
  . exact .inr ⟨a,o_⟩⟩
theorem gV.Kb{es:List Ge}{n:Nat}{f:List Nat}(h:gV es n f):∀ i,i<(fT es n f).p.length -> -1<=fJ (fT es n f).p i:=fun i hi=>by
 have c:=(lC (es:=es) (n:=n) (f:=f)).2.2.1
 rcases h.Rr (y:=i) o_ with a|⟨a,b⟩<;>omega
end Go.Sx
namespace Go.Sx
open Go
def ko(es:List Ge)(n:Nat)(f:List Nat)(T:Int)(x:Nat):List Nat :=
 (List.range (n+f.length)).map fun y=>if x<=y then gH es n f (i6 (fT es n f).p (fT es n f).h T y)else gH es n f y
def gU(es:List Ge)(n:Nat)(f:List Nat)(T:Int):List Nat:=(List.range n).map fun y=>gH es n f (i6 (fT es n f).p (fT es n f).h T y)
section
variable {es:List Ge} {n:Nat} {f:List Nat} {T:Int} {x:Nat}
theorem xO:(ko es n f T x).length=n+f.length:=by simp[ko]
theorem Qj:(gU es n f T).length=n:=by simp[gU]
theorem Jt{y:Nat}(h:y<n+f.length):fJ (ko es n f T x) y=if x<=y then gH es n f (i6 (fT es n f).p (fT es n f).h T y)else gH es n f y:=by
 unfold ko
 rw[QF h]
theorem aay:ko es n f T (n+f.length)=(List.range (n+f.length)).map (gH es n f):=by
 unfold ko
 refine yX fun y a=>?_
 rw[if_neg (by rw[z6]at a;omega)]
theorem aaz(h:f.length<=f.length):(ko es n f T 0).take n=gU es n f T:=by
 unfold ko gU
 rw[<-List.map_take,List.take_range,oZ o_]
 refine yX fun y _=>?_
 rw[if_pos (mZ _)]
theorem Qh(b:gV es n f)(h:x<n+f.length)(a:¬ (0<=fJ (fT es n f).p x/\fJ (fT es n f).h (fJ (fT es n f).p x).toNat<=T)):ko es n f T (x+1)=ko es n f T x:=by
 unfold ko
 refine yX fun y c=>?_
 by_cases e:y=x
 . subst e
   rw[if_neg o_,if_pos (zk _),B5 a]
 . by_cases h1:x<=y
   . rw[if_pos h1,if_pos o_]
   . rw[if_neg h1,if_neg o_]
theorem aaA(a:gV es n f)(h:x<n+f.length)(d:0<=fJ (fT es n f).p x)(g:fJ (fT es n f).h (fJ (fT es n f).p x).toNat<=T) :
 (fJ (fT es n f).p x).toNat<n+f.length/\fN (ko es n f T (x+1)) x (fun _=>fJ (ko es n f T (x+1)) (fJ (fT es n f).p x).toNat)=ko es n f T x:=by
 obtain⟨i,j,k,l,m⟩:=lC (es:=es) (n:=n) (f:=f)
 have o:=a.pQ.up x o_
 have b:(fJ (fT es n f).p x).toNat<n+f.length:=by omega
 refine⟨b,?_⟩
 rw[Jt b,if_pos o_]
 apply mM
 intro y
 by_cases hy:y<n+f.length
 . have e1:(fN (ko es n f T (x+1)) x fun _=>gH es n f (i6 (fT es n f).p (fT es n f).h T (fJ (fT es n f).p x).toNat))[y]? = some (fJ (fN (ko es n f T (x+1)) x fun _=>gH es n f (i6 (fT es n f).p (fT es n f).h T (fJ (fT es n f).p x).toNat)) y):=gy (by rw[gC,xO];exact hy)
   have c:(ko es n f T x)[y]? = some (fJ (ko es n f T x) y):=gy (by rw[xO];exact hy)
   rw[e1,c,iS (by rw[xO];exact h),Jt hy,Jt hy]
   by_cases e:x=y
   . subst e
     rw[if_pos rfl,if_pos (zk _),Ac a.pQ o_ d g]
   . rw[if_neg e]
     by_cases h1:x<=y
     . rw[if_pos h1,if_pos o_]
     . rw[if_neg h1,if_neg o_]
 . rw[zt (by rw[gC,xO];omega),zt (by rw[xO];omega)]
end
end Go.Sx
namespace Go.Sx
open Go
structure sD (lab:List Nat) (m:List (Int×Nat)):Prop where
 nd:(m.map Prod.fst).Nodup
 get:∀ x:Nat,gh m (x:Int)=lab.count x
 mem:∀ a,a∈m.map Prod.fst↔∃ x,x∈lab/\a=(x:Int)
theorem sD.start:sD [] []:=⟨w6,fun x=>rfl,fun a=>by simp⟩
theorem sD.next{lab:List Nat}{m:List (Int×Nat)}(h:sD lab m)(x:Nat):sD (lab++[x]) (gD m (x:Int) (lab.count x+1)):=by
 refine⟨CJ h.nd _ _,fun y=>?_,fun a=>?_⟩
 . have b:=h.get y
   unfold gh at b ⊢
   rw[wj,DH]
   by_cases e:x=y
   . subst e
     rw[if_pos rfl]
     simp
   . rw[if_neg o_,b]
     simp[e]
 . rw[Qb]
   split
   . rename_i hm
     rw[h.mem]
     constructor
     . rintro⟨z,c,e⟩;exact⟨z,by simp[c],e⟩
     . rintro⟨z,c,e⟩
       rcases zm.1 c with b|b
       . exact⟨z,b,e⟩
       . rw[zz]at b
         subst b
         obtain⟨y,f,d⟩:=(h.mem _).1 hm
         exact⟨y,f,by rw[e,d]⟩
   . rw[zm,h.mem,zz]
     constructor
     . rintro(⟨z,c,e⟩|e)
       . exact⟨z,by simp[c],e⟩
       . exact⟨x,s_,e⟩
     . rintro⟨z,c,e⟩
       rcases zm.1 c with b|b
       . exact .inl ⟨z,b,e⟩
       . rw[zz]at b
         subst b
         exact .inr e
def ji(n:Nat)(lab:List Nat):List Nat:=(List.range n).filter fun x=>decide (x∈lab)
structure Gp where
 l:Nat
 s:Nat
instance:Inhabited Gp:=⟨⟨0,0⟩⟩
def Gp.cells(x:Gp):List Value:=[.int .i64 x.l,.int .i64 x.s]
def kL(n:Nat)(lab:List Nat):List Gp:=(ji n lab).map fun x=>⟨x,lab.count x⟩
theorem Nb{n x:Nat}{lab:List Nat}(h:x∈ji n lab):x<n/\x∈lab:=by
 unfold ji at h
 rw[z8,z6]at h
 exact⟨h.1,by simpa using h.2⟩
theorem HI{n:Nat}{lab:List Nat}:(ji n lab).length<=n:=kS (u7 _ _) s_
theorem sD.keys{n:Nat}{lab:List Nat}{m:List (Int×Nat)}(h:sD lab m)(f:∀ x∈lab,x<n){e ys:List Int}(hp:e.Perm (m.map Prod.fst))(d:ys.Perm e)(hs:mQ ys ys.length):ys=gw (ji n lab):=by
 have g:ys.Nodup:=(d.trans hp).nodup_iff.2 h.nd
 refine Ng (hs.k7 g) ?_ fun a=>?_
 . unfold gw ji
   rw[GQ]
   exact(GL.sublist wY).imp fun {a b} i=>by omega
 . rw[(d.trans hp).mem_iff,h.mem]
   unfold gw
   rw[z7]
   constructor
   . rintro⟨x,c,rfl⟩
     exact⟨x,by unfold ji;rw[z8,z6];exact⟨f x c,by simpa using c⟩,rfl⟩
   . rintro⟨x,c,rfl⟩
     exact⟨x,(Nb c).2,rfl⟩
theorem sD.len{n:Nat}{lab:List Nat}{m:List (Int×Nat)}(h:sD lab m)(d:∀ x∈lab,x<n):m.length<=n:=by
 have b:(m.map Prod.fst).length<=((List.range n).map fun i:Nat=>(i:Int)).length:=xX _ _ h.nd fun a c=>by
  obtain⟨x,e,rfl⟩:=(h.mem a).1 c
  exact z7.2 ⟨x,z6.2 (d x e),rfl⟩
 simpa using b
theorem Qk{es:List Ge}{n:Nat}{f:List Nat}{T:Int}(a:gV es n f):∀ x∈gU es n f T,x<n:=by
 intro x b
 unfold gU at b
 obtain⟨y,c,rfl⟩:=z7.1 b
 rw[z6]at c
 obtain⟨g,j,k,l,m⟩:=lC (es:=es) (n:=n) (f:=f)
 have d:=H7 (hs:=(fT es n f).h) (T:=T) (x:=y) (ps:=(fT es n f).p) o_ a.pQ
 unfold gH
 split
 . assumption
 . rename_i e
   have:=a.st (i:=i6 (fT es n f).p (fT es n f).h T y-n) o_
   omega
end Go.Sx
namespace Go.Sx
open Go
def ot{α:Type}(cf:α->List Value)(sz:Nat)(e:TypeId)(m:List (Int×(Value×List α))):fU:=gj (m.map fun p=>fL cf p.2.1 e sz p.2.2)
section
variable {α:Type} {cf:α->List Value} {bs:List (World×List Nat)} {L:List fU} {w:World} {e:TypeId} {sz:Nat} {m:List (Int×(Value×List α))} {a:Int}
theorem St.Pk{a:List (Int×(Value×List α))}(h:St bs (ot cf sz e m :: L) w)(hp:m.Perm a):St bs (ot cf sz e a :: L) w :=
 St.pack _ _ ((St.unpack h).perm ((hp.map _).append_right _))
theorem St.YB{p:Int×(Value×List α)}(h:St bs (ot cf sz e (p :: m) :: L) w):St bs (fL cf p.2.1 e sz p.2.2 :: ot cf sz e m :: L) w:=by
 have a:St bs (([fL cf p.2.1 e sz p.2.2]++m.map fun p=>fL cf p.2.1 e sz p.2.2)++L) w:=St.unpack h
 rw[mL]at a
 have b:=a.perm (L' := (m.map fun p=>fL cf p.2.1 e sz p.2.2)++([fL cf p.2.1 e sz p.2.2]++L)) (by
  rw[<-mL,<-mL]
  exact List.Perm.append_right _ qB)
 exact(St.pack _ _ b).swap
theorem St.VY{p:Int×(Value×List α)}(h:St bs (fL cf p.2.1 e sz p.2.2 :: ot cf sz e m :: L) w):St bs (ot cf sz e (p :: m) :: L) w:=by
 have a:St bs ((m.map fun p=>fL cf p.2.1 e sz p.2.2)++(fL cf p.2.1 e sz p.2.2 :: L)) w:=St.unpack h.swap
 refine St.pack _ _ (a.perm ?_)
 show List.Perm _ (fL cf p.2.1 e sz p.2.2 :: ((m.map fun p=>fL cf p.2.1 e sz p.2.2)++L))
 exact tY
theorem St.Pn(a:Int)(h:St bs (ot cf sz e m :: L) w):St bs (fL cf (gh m a).1 e sz (gh m a).2 :: ot cf sz e (iZ m a) :: L) w:=by
 unfold gh
 cases hm:gZ m a with
 | none =>
  rw[QG hm]
  exact St.Eh h e sz
 | some x=>exact(h.Pk (JO hm)).YB
theorem St.Pm{v:Value}{xs:List α}(h:St bs (fL cf v e sz xs :: ot cf sz e (iZ m a) :: L) w):St bs (ot cf sz e (gD m a (v,xs)) :: L) w :=
 (St.VY (p:=(a,(v,xs))) h).Pk (JQ m a (v,xs)).symm
theorem St.YC(h:St bs L w):St bs (ot cf sz e ([]:List (Int×(Value×List α))) :: L) w:=St.pack [] L h
end
end Go.Sx
namespace Go.Sx
open Go
structure jG where
 e:Nat
 d:Nat
instance:Inhabited jG:=⟨⟨0,0⟩⟩
def jG.cells(x:jG):List Value:=[.int .i64 x.e,.int .i64 x.d]
abbrev AM:=List (Int×(Value×List jG))
theorem Po{m:AM}{N:Nat}(h:∀ c,(gh m c).2.length<=N)(a:Int)(v:Value)(x:jG):∀ c,(gh (gD m a (v,(gh m a).2++[x])) c).2.length<=N+1:=by
 intro c
 have d:=h a
 have b:=h c
 unfold gh
 rw[wj]
 split
 . show ((gh m a).2++[x]).length<=_
   rw[zq,ze,zh]
   omega
 . exact Nat.le_succ_of_le b
theorem YF:∀ c,(gh ([]:AM) c).2.length<=0:=fun c=>zk 0
end Go.Sx
namespace Go.Sx
open Go
def pL(E:List Ge)(n:Nat):List Nat:=E.foldl (fun lb e=>jt lb (fJ lb e.u) (fJ lb e.v)) (List.range n)
theorem Qo{es:List Ge}{n:Nat}{f:List Nat}:gQ es n f=pL (f.map (fJ es)) n:=by
 unfold gQ pL
 rw[List.foldl_map]
structure mN (n:Nat) (lb:List Nat):Prop where
 len:lb.length=n
 low:∀ i,i<n->fJ lb i<=i
 l7:∀ i,i<n->fJ lb (fJ lb i)=fJ lb i
theorem mN.range{n:Nat}:mN n (List.range n) :=
 ⟨s_,fun i h=>by rw[lI h];exact zk _,fun i h=>by rw[lI h,lI h]⟩
theorem mN.next{n u v:Nat}{lb:List Nat}(h:mN n lb)(a:u<n)(hv:v<n):mN n (jt lb (fJ lb u) (fJ lb v)):=by
 have b:=h.len
 have g:=h.low u a
 have lv:=h.low v hv
 have d:=h.l7 u a
 have iv:=h.l7 v hv
 refine⟨by rw[Fq];exact b,fun i hi=>?_,fun i hi=>?_⟩
 . rw[ox o_]
   have:=h.low i hi
   split<;>omega
 . have f:=h.low i hi
   have c:=h.l7 i hi
   rw[ox (i:=i) o_]
   split
   . rename_i e
     rw[ox o_]
     rcases ru (fJ lb u) (fJ lb v)with q|q
     . rw[oZ q,tZ q,d];split<;>omega
     . rw[vi q,vk q,iv];split<;>omega
   . rename_i e
     rw[ox o_,c,if_neg e]
structure nJ (E:List Ge) (n:Nat) (lb:List Nat):Prop where
 ok:mN n lb
 Sj:∀ e∈E,fJ lb e.u=fJ lb e.v
 q8:∀ lb2,mN n lb2->(∀ e∈E,fJ lb2 e.u=fJ lb2 e.v)->∀ i j,i<n->j<n->fJ lb i=fJ lb j->fJ lb2 i=fJ lb2 j
theorem nJ.start{n:Nat}:nJ [] n (List.range n) :=
 ⟨mN.range,fun e h=>(nI h).elim,fun b _ _ i j hi a h=>by rw[lI hi,lI a]at h;rw[h]⟩
theorem nJ.next{E:List Ge}{n:Nat}{lb:List Nat}(h:nJ E n lb)(e:Ge)(f:e.u<n)(hv:e.v<n)(p:∀ e∈E,e.u<n/\e.v<n):nJ (E++[e]) n (jt lb (fJ lb e.u) (fJ lb e.v)):=by
 have w:=h.ok.len
 refine⟨h.ok.next f hv,fun x b=>?_,fun t s r i j hi c a=>?_⟩
 . rcases zm.1 b with b|b
   . rw[ox (by have:=(p x b).1;omega),ox (by have:=(p x b).2;omega),h.Sj x b]
   . rw[zz]at b
     subst b
     rw[ox o_,ox o_]
     split<;>split<;>omega
 . have k:=h.q8 t s fun x b=>r x (wX _ b)
   have d:=r e (wW _ (zz.2 rfl))
   rw[ox o_,ox o_]at a
   have g:=fun q:fJ lb i=fJ lb e.u=>k i e.u hi f q
   have m:=fun q:fJ lb i=fJ lb e.v=>k i e.v hi hv q
   have l:=fun q:fJ lb j=fJ lb e.u=>k j e.u c f q
   have o:=fun q:fJ lb j=fJ lb e.v=>k j e.v c hv q
   rcases ru (fJ lb e.u) (fJ lb e.v)with q|q
   . rw[oZ q,tZ q]at a
     by_cases h1:fJ lb i=fJ lb e.v
     . by_cases h3:fJ lb j=fJ lb e.v
       . rw[m h1,o h3]
       . rw[if_pos h1,if_neg h3]at a
         rw[m h1,l a.symm,d]
     . by_cases h3:fJ lb j=fJ lb e.v
       . rw[if_neg h1,if_pos h3]at a
         rw[g a,o h3,d]
       . rw[if_neg h1,if_neg h3]at a
         exact k i j hi c a
   . rw[vi q,vk q]at a
     by_cases h1:fJ lb i=fJ lb e.u
     . by_cases h3:fJ lb j=fJ lb e.u
       . rw[g h1,l h3]
       . rw[if_pos h1,if_neg h3]at a
         rw[g h1,o a.symm,d]
     . by_cases h3:fJ lb j=fJ lb e.u
       . rw[if_neg h1,if_pos h3]at a
         rw[m a,l h3,d]
       . rw[if_neg h1,if_neg h3]at a
         exact k i j hi c a
theorem nJ.fold{n:Nat}:∀ (L D:List Ge) (lb:List Nat),nJ D n lb->(∀ e∈D,e.u<n/\e.v<n)->(∀ e∈L,e.u<n/\e.v<n)->nJ (D++L) n (L.foldl (fun lb e=>jt lb (fJ lb e.u) (fJ lb e.v)) lb)
 | [],D,lb,h,_,_=>by rw[qA];exact h
 | e :: L,D,lb,h,hD,hL=>by
  have a:=hL e (za ..)
  have c:=nJ.fold L (D++[e]) _ (h.next e a.1 a.2 hD) (fun x b=>by
   rcases zm.1 b with q|q
   . exact hD x q
   . rw[zz]at q;subst q;exact a) (fun x b=>hL x (lV _ b))
  rw[mL]at c
  exact c
theorem EV{E:List Ge}{n:Nat}(h:∀ e∈E,e.u<n/\e.v<n):nJ E n (pL E n) :=
 nJ.fold E [] _ nJ.start (fun e h=>(nI h).elim) h
theorem nJ.le{E d:List Ge}{n:Nat}{a b:List Nat}(h1:nJ E n a)(c:nJ d n b)(hm:∀ e,e∈E->e∈d){i:Nat}(hi:i<n):fJ b i<=fJ a i:=by
 have j:=h1.ok.low i hi
 have g:=h1.q8 b c.ok (fun e f=>c.Sj e (hm e f)) (fJ a i) i o_ hi (h1.ok.l7 i hi)
 have h:=c.ok.low (fJ a i) o_
 omega
theorem nJ.uniq{E d:List Ge}{n:Nat}{a b:List Nat}(h1:nJ E n a)(c:nJ d n b)(hm:∀ e,e∈E↔e∈d):a=b:=by
 refine mM fun i=>?_
 by_cases hi:i<n
 . rw[gy (by rw[h1.ok.len];exact hi),gy (by rw[c.ok.len];exact hi)]
   exact congrArg some (Nat.le_antisymm (c.le h1 (fun e h=>(hm e).2 h) hi) (h1.le c (fun e h=>(hm e).1 h) hi))
 . rw[zt (by rw[h1.ok.len];omega),zt (by rw[c.ok.len];omega)]
theorem aaF{es:List Ge}{n:Nat}(o:List Nat):gQ es n (jo es n o)=gQ es n o:=by
 have h:∀ r:List Nat,gQ es n (jo es n r.reverse)=gQ es n r.reverse:=by
  intro r
  induction r with
  | nil=>rfl
  | cons i r a=>rw[GR,Cj,Ju,E8,a]
 simpa using h o.reverse
theorem YU{es:List Ge}{n:Nat}(a b:List Nat):∃ g,jo es n (a++b)=jo es n a++g/\∀ x∈g,x∈b:=by
 have h:∀ r:List Nat,∃ g,jo es n (a++r.reverse)=jo es n a++g/\∀ x∈g,x∈r:=by
  intro r
  induction r with
  | nil=>exact⟨[],s_,fun x c=>c⟩
  | cons i r f =>
   obtain⟨g,d,e⟩:=f
   rw[GR,<-mL,Cj,d]
   split
   . refine⟨g++[i],by rw[mL],fun x c=>?_⟩
     rcases zm.1 c with q|q
     . exact lV _ (e x q)
     . rw[zz]at q;subst q;exact za ..
   . exact⟨g,rfl,fun x c=>lV _ (e x c)⟩
 obtain⟨g,d,e⟩:=h b.reverse
 rw[List.reverse_reverse]at d
 exact⟨g,d,fun x c=>List.mem_reverse.1 (e x c)⟩
theorem Qg{es:List Ge}{T:Int}:∀ {o:List Nat},o.Pairwise (qP es)->o.filter (fun i=>decide ((fJ es i).w<=T))++o.filter (fun i => !decide ((fJ es i).w<=T))=o
 | [],_=>rfl
 | a :: o,h=>by
  rw[sZ]at h
  by_cases ha:(fJ es a).w<=T
  . rw[Dz (by simpa using ha),Dy (by simpa using ha),ng,Qg h.2]
  . have hb:∀ x∈o,¬ (fJ es x).w<=T:=fun x b=>by have:=h.1 x b;unfold qP at this;omega
    rw[Dy (by simpa using ha),Dz (by simpa using ha)]
    rw[GK.2 (fun x b=>by simpa using hb x b),rq]
    exact congrArg (a :: ·) (tV.2 fun x b=>by simpa using hb x b)
section
variable {es:List Ge} {n:Nat} {f:List Nat} {T:Int}
theorem gV.cut(h:gV es n f)(T:Int):∃ m,m<=f.length/\(∀ j,j<m->(fJ es (fJ f j)).w<=T)/\(∀ j,m<=j->j<f.length->T<(fJ es (fJ f j)).w)/\gQ es n (f.take m)=pL (es.filter fun e=>decide (e.w<=T)) n:=by
 obtain⟨l,⟨o,d,rfl⟩⟩:=h
 have s:=Qg (T:=T) d.FR
 obtain⟨g,b,r⟩:=YU (es:=es) (n:=n) (o.filter fun i=>decide ((fJ es i).w<=T)) (o.filter fun i => !decide ((fJ es i).w<=T))
 rw[s]at b
 refine⟨(jo es n (o.filter fun i=>decide ((fJ es i).w<=T))).length,by rw[b,zq];omega,fun j c=>?_,fun j c p=>?_,?_⟩
 . rw[b,iE (show (_++g)[j]? = _ by rw[rm c];exact gy c)]
   have k:=(Ck (es:=es) (n:=n) (o.filter fun i=>decide ((fJ es i).w<=T))).subset (zd (gy c))
   simpa using(z8.1 k).2
 . rw[b]at p ⊢
   have q:j-(jo es n (o.filter fun i=>decide ((fJ es i).w<=T))).length<g.length:=by rw[zq]at p;omega
   rw[iE (show (_++g)[j]? = _ by rw[Dt c];exact gy q)]
   have k:=(z8.1 (r _ (zd (gy q)))).2
   have y:¬ (fJ es (fJ g (j-(jo es n (o.filter fun i=>decide ((fJ es i).w<=T))).length))).w<=T:=by simpa using k
   omega
 . rw[b,List.take_left,aaF,Qo]
   refine(EV fun e a=>?_).uniq (EV fun e a=>?_) fun e=>?_
   . obtain⟨i,hi,rfl⟩:=z7.1 a
     have:=l _ (zd (gy (d.lt (z8.1 hi).1)))
     exact⟨this.1,this.2.1⟩
   . have:=l _ (z8.1 a).1
     exact⟨this.1,this.2.1⟩
   . constructor
     . intro a
       obtain⟨i,hi,rfl⟩:=z7.1 a
       obtain⟨v,x⟩:=z8.1 hi
       exact z8.2 ⟨zd (gy (d.lt v)),x⟩
     . intro a
       obtain⟨t,u⟩:=z8.1 a
       obtain⟨i,hi⟩:=List.getElem?_of_mem t
       have e1:=iE hi
       refine z7.2 ⟨i,z8.2 ⟨d.perm.mem_iff.2 (z6.2 (zg.1 hi).1),?_⟩,e1⟩
       rw[e1];exact u
def q7(es:List Ge)(n:Nat)(f:List Nat)(i y:Nat):Nat:=fJ (gI es n f i).d (fJ (gQ es n (f.take i)) y)
theorem gV.AA(h:gV es n f){i:Nat}(hi:i<=f.length):mN n (gQ es n (f.take i)):=by
 rw[Qo]
 refine(EV fun e a=>?_).ok
 obtain⟨k,b,rfl⟩:=z7.1 a
 have:=h.g _ (zd (gy (h.f.lt (List.take_subset _ _ b))))
 exact⟨this.1,this.2.1⟩
theorem gV.agH(h:gV es n f){i y:Nat}(hi:i<f.length)(a:y<n):q7 es n f (i+1) y=n+i/\(q7 es n f i y=nL es n f i\/q7 es n f i y=nR es n f i)\/q7 es n f (i+1) y=q7 es n f i y:=by
 obtain⟨s1,s2,s3,g,j,k,b⟩:=h.st hi
 have c:=(h.AA (i:=i) o_).len
 have hd:=(yO (es:=es) (n:=n) (f:=f) i).2.2.2.2.2
 have e:=(h.AA (i:=i) o_).low y a
 have e1:(gI es n f (i+1)).d=fN (gI es n f i).d (nA es n f i) (fun _=>n+i):=rfl
 unfold q7
 rw[e1,b,ox o_,tZ o_,oZ o_]
 by_cases h1:fJ (gQ es n (f.take i)) y=nB es n f i
 . rw[if_pos h1,iS o_,if_pos rfl,h1]
   exact .inl ⟨rfl,.inr rfl⟩
 . rw[if_neg h1,iS o_]
   by_cases h2:nA es n f i=fJ (gQ es n (f.take i)) y
   . rw[if_pos h2,<-h2]
     exact .inl ⟨rfl,.inl rfl⟩
   . rw[if_neg h2]
     exact .inr rfl
theorem gV.NG(h:gV es n f){y:Nat}(b:y<n):∀ i,i<=f.length->(∀ j,j<i->(fJ es (fJ f j)).w<=T)->i6 (fT es n f).p (fT es n f).h T y=i6 (fT es n f).p (fT es n f).h T (q7 es n f i y)
 | 0,_,_=>by
  have:q7 es n f 0 y=y:=by
   show fJ (List.range n) (fJ (List.range n) y)=y
   rw[lI b,lI b]
  rw[this]
 | i+1,hi,hw=>by
  rw[h.NG b i o_ fun j t=>hw j o_]
  rcases h.agH (show i<f.length by omega) b with ⟨c,a⟩|c
  . obtain⟨b1,b2,b3,k,l,o,q,r,s,m⟩:=h.inner (show i<f.length by omega)
    have u:=(lC (es:=es) (n:=n) (f:=f)).2.2.1
    have d:=iE b3
    rw[c]
    rcases a with a|a
    . have e:=iE k
      rw[a,Ac h.pQ o_ o_ (by rw[e];show fJ (fT es n f).h ((n+i:Nat):Int).toNat<=T;rw[show ((n+i:Nat):Int).toNat=n+i by omega,d];exact hw i o_),e,show ((n+i:Nat):Int).toNat=n+i by omega]
    . have g:=iE l
      rw[a,Ac h.pQ o_ o_ (by rw[g];show fJ (fT es n f).h ((n+i:Nat):Int).toNat<=T;rw[show ((n+i:Nat):Int).toNat=n+i by omega,d];exact hw i o_),g,show ((n+i:Nat):Int).toNat=n+i by omega]
  . rw[c]
theorem gV.top(h:gV es n f){y m:Nat}(c:y<n)(hm:m<=f.length)(h1:∀ j,j<m->(fJ es (fJ f j)).w<=T)(o:∀ j,m<=j->j<f.length->T<(fJ es (fJ f j)).w):i6 (fT es n f).p (fT es n f).h T y=q7 es n f m y:=by
 rw[h.NG c m hm h1]
 have ok:=h.AA hm
 have x:=ok.low y c
 have v:=h.vK m hm
 have t:=v.d (fJ (gQ es n (f.take m)) y) o_ (ok.l7 y c)
 refine B5 fun g=>?_
 obtain⟨z,s⟩:=h.Df m hm
 have r:q7 es n f m y<n+f.length:=by have:=s.nd (fJ (gQ es n (f.take m)) y) o_;unfold q7;omega
 rcases h.par r with q|⟨j,e,q,a⟩
 . rw[iE q]at g
   omega
 . rw[iE q,show ((n+j:Nat):Int).toNat=n+j by omega,iE (h.inner e).2.2.1]at g
   by_cases hjm:j<m
   . obtain⟨b1,b2,b3,u,k,l⟩:=v.b j hjm
     have i:fJ (gI es n f m).p (q7 es n f m y) = -1:=t.1
     rcases a with a|a
     . rw[a,k]at i;omega
     . rw[a,l]at i;omega
   . have:=o j o_ e
     omega
theorem gV.Qm(h:gV es n f){y m:Nat}(a:y<n)(hm:m<=f.length)(h1:∀ j,j<m->(fJ es (fJ f j)).w<=T)(b:∀ j,m<=j->j<f.length->T<(fJ es (fJ f j)).w):gH es n f (i6 (fT es n f).p (fT es n f).h T y)=fJ (gQ es n (f.take m)) y:=by
 have ok:=h.AA hm
 have c:=ok.low y a
 rw[h.top a hm h1 b]
 exact((h.vK m hm).d (fJ (gQ es n (f.take m)) y) o_ (ok.l7 y a)).2
theorem gV.Qi(h:gV es n f):gU es n f T=pL (es.filter fun e=>decide (e.w<=T)) n:=by
 obtain⟨m,hm,a,b,c⟩:=h.cut T
 rw[<-c]
 have ok:=h.AA hm
 refine mM fun y=>?_
 by_cases hy:y<n
 . rw[gy (xs:=gQ es n (f.take m)) (by rw[ok.len];exact hy),<-h.Qm hy hm a b]
   unfold gU
   rw[kR,pX hy]
   rfl
 . rw[zt (by rw[Qj];omega),zt (by rw[ok.len];omega)]
theorem Tz{i:Nat}:∀ d x,x<n+i->fJ (gI es n f (i+d)).s x=fJ (gI es n f i).s x
 | 0,x,_=>rfl
 | d+1,x,hx=>by
  rw[<-Tz d x hx]
  have e:(gI es n f (i+d+1)).s=fN (gI es n f (i+d)).s (n+(i+d)) (fun _=>fJ (gI es n f (i+d)).s (nL es n f (i+d))+fJ (gI es n f (i+d)).s (nR es n f (i+d))):=rfl
  show fJ (gI es n f (i+d+1)).s x=_
  rw[e,jX o_]
theorem Ql{y:Nat}(a:y<n):fJ (gU es n f T) y=gH es n f (i6 (fT es n f).p (fT es n f).h T y) :=
 iE (by unfold gU;rw[kR,pX a];rfl)
theorem gV.pS(h:gV es n f){y:Nat}(a:y<n):fJ (fT es n f).s (i6 (fT es n f).p (fT es n f).h T y)=(gU es n f T).count (fJ (gU es n f T) y):=by
 obtain⟨m,hm,b,c,g⟩:=h.cut T
 have ok:=h.AA hm
 have k:=ok.low y a
 obtain⟨l,d⟩:=h.Df m hm
 rw[Ql a,h.Qm a hm b c,h.Qi,<-g,h.top a hm b c,<-d.sz _ o_ (ok.l7 y a)]
 have j:=d.nd (fJ (gQ es n (f.take m)) y) o_
 have e:=Tz (es:=es) (n:=n) (f:=f) (i:=m) (f.length-m) (q7 es n f m y) j
 rw[show m+(f.length-m)=f.length by omega]at e
 exact e
end
def qh(l:List Nat)(k:Nat):List Nat:=l.take k++List.replicate (l.length-k) 0
theorem V2{l:List Nat}:List.replicate l.length 0=qh l 0:=by simp[qh]
theorem V0{l:List Nat}:qh l l.length=l:=by simp[qh]
theorem Ig{l:List Nat}{k:Nat}(h:k<=l.length):(qh l k).length=l.length:=by simp[qh];omega
theorem N3{l:List Nat}{k j:Nat}(a:j<l.length):fJ (qh l k) j=if j<k then fJ l j else 0:=by
 refine iE ?_
 unfold qh
 by_cases h:j<k
 . rw[if_pos h,rm (by rw[zx];omega),r9,if_pos h]
   exact gy a
 . rw[if_neg h,Dt (by rw[zx];omega),sj,zx,if_pos o_]
theorem V1{l:List Nat}{k c:Nat}(h:k<l.length)(d:c=fJ l k):fN (qh l k) k (fun _=>c)=qh l (k+1):=by
 have a:=Ig (l:=l) (k:=k) o_
 have b:=Ig (l:=l) (k:=k+1) o_
 refine mM fun j=>?_
 by_cases hj:j<l.length
 . rw[gy (by rw[gC,a];exact hj),gy (by rw[b];exact hj),iS (by rw[a];exact h),N3 hj,N3 hj]
   refine congrArg some ?_
   by_cases e:k=j
   . rw[if_pos e,if_pos o_,d,e]
   . rw[if_neg e]
     by_cases h1:j<k
     . rw[if_pos h1,if_pos o_]
     . rw[if_neg h1,if_neg o_]
 . rw[zt (by rw[gC,a];omega),zt (by rw[b];omega)]
theorem Y5{E:List Ge}{n k:Nat}(h:k<E.length):pL (E.take (k+1)) n=jt (pL (E.take k) n) (fJ (pL (E.take k) n) (fJ E k).u) (fJ (pL (E.take k) n) (fJ E k).v):=by
 unfold pL
 rw[nY,gy h,GP]
 rfl
theorem HL{ys:List Int}(hs:ys.Pairwise fun a b=>a<b){i j:Nat}(hi:i<ys.length)(c:j<ys.length)(h:fJ ys i=fJ ys j):i=j:=by
 have hp:=u5.1 hs
 rw[iE (zj hi),iE (zj c)]at h
 rcases GS i j with q|q|q
 . have:=hp i j hi c q;omega
 . exact q
 . have:=hp j i c hi q;omega
theorem Ge.ext{a b:Ge}(c:a.u=b.u)(hv:a.v=b.v)(d:a.w=b.w):a=b:=by
 cases a;cases b;simp_all
theorem mO.uniq{ids:List Int}{L:List Lv}{es c:List Ge}(hs:ids.Pairwise fun a b=>a<b)(h:mO ids L es L.length)(d:mO ids L c L.length):es=c:=by
 have e:=h.len
 have f:=d.len
 refine mM fun i=>?_
 by_cases hi:i<L.length
 . rw[gy o_,gy o_]
   have a:=h.fst i hi
   have b:=d.fst i hi
   exact congrArg some (Ge.ext (HL hs a.ul b.ul (a.u.trans b.u.symm)) (HL hs a.vl b.vl (a.v.trans b.v.symm)) (a.w.trans b.w.symm))
 . rw[zt o_,zt o_]
end Go.Sx
namespace Go.Sx
open Go
def rts(lab:List Nat)(i:Nat):List Nat:=(List.range i).filter fun x=>decide (fJ lab x=x)
theorem CY{lab:List Nat}{i:Nat}:rts lab (i+1)=rts lab i++if fJ lab i=i then[i]else[]:=by
 unfold rts
 rw[sB,vh]
 congr 1
 split<;>rename_i h
 . exact Dz (by simpa using h)
 . exact Dy (by simpa using h)
theorem Sk{lab:List Nat}{i:Nat}:∀ d,∃ r,rts lab (i+d)=rts lab i++r
 | 0=>⟨[],s_⟩
 | d+1=>by
  obtain⟨r,h⟩:=Sk (lab:=lab) (i:=i) d
  exact⟨r++(if fJ lab (i+d)=i+d then[i+d]else[]),by rw[<-kD,CY,h,mL]⟩
theorem mN.ji{n:Nat}{lab:List Nat}(h:mN n lab):ji n lab=rts lab n:=by
 unfold Go.Sx.ji rts
 refine wZ fun x a=>?_
 have a:=z6.1 a
 refine decide_eq_decide.2 ?_
 constructor
 . intro hm
   obtain⟨j,b,e⟩:=vg hm
   have d : j<n:=by rw[<-h.len];exact b
   have c:fJ lab j=x:=iE (by rw[zj b,e])
   rw[<-c];exact h.l7 j d
 . intro e
   have:=zd (gy (xs:=lab) (k:=x) (by rw[h.len];exact a))
   rw[e]at this;exact this
theorem mN.root{n i:Nat}{lab:List Nat}(h:mN n lab)(hi:i<n)(a:fJ lab i=i):(rts lab i).length<(kL n lab).length/\fJ (kL n lab) (rts lab i).length=⟨i,lab.count i⟩:=by
 obtain⟨r,e⟩:=Sk (lab:=lab) (i:=i+1) (n-(i+1))
 rw[show i+1+(n-(i+1))=n by omega,CY,if_pos a]at e
 unfold kL
 rw[h.ji,e]
 refine⟨s_,iE ?_⟩
 rw[kR]
 simp
theorem mN.roots{n:Nat}{lab:List Nat}(h:mN n lab):(kL n lab).length=(rts lab n).length:=by unfold kL;rw[h.ji,zo]
def pU(lab:List Nat)(i:Nat):Nat:=((rts lab i).map fun r=>lab.count r).sum
theorem KU{lab:List Nat}{i:Nat}:pU lab (i+1)=pU lab i+if fJ lab i=i then lab.count i else 0:=by
 unfold pU
 rw[CY,sw,List.sum_append]
 split<;>simp
theorem N0:∀ R:List Nat,(R.map fun r=>([]:List Nat).count r).sum=0
 | []=>rfl
 | r :: R=>by rw[jV,DL,N0 R];rfl
theorem NZ:∀ (l R:List Nat),R.Nodup->(∀ a∈l,a∈R)->(R.map fun r=>l.count r).sum=l.length
 | [],R,_,_=>N0 R
 | a :: l,R,c,hl=>by
  have d:=NZ l R c fun b hb=>hl b (lV _ hb)
  have key:∀ R:List Nat,R.Nodup->(R.map fun r=>(a :: l).count r).sum=(R.map fun r=>l.count r).sum+if a∈R then 1 else 0:=by
   intro R c
   induction R with
   | nil=>rfl
   | cons r R d =>
    have c:=zu.1 c
    rw[jV,DL,d c.2,jV,DL,vj]
    by_cases e:a=r
    . subst e
      rw[if_neg c.1]
      simp;omega
    . have:(a==r)=false:=by simpa using e
      rw[this]
      simp only[zb,e,false_or]
      simp;omega
  rw[key R c,if_pos (hl a za),d]
  rfl
theorem mN.SU{n:Nat}{lab:List Nat}(h:mN n lab):pU lab n=n:=by
 have g:(rts lab n).Nodup:=by unfold rts;exact tW.filter _
 unfold pU
 rw[NZ lab _ g fun a b=>?_,h.len]
 rw[<-h.ji]
 unfold Go.Sx.ji
 obtain⟨j,c,e⟩:=vg b
 rw[z8,z6]
 refine⟨?_,by simpa using b⟩
 have d : j<n:=by rw[<-h.len];exact c
 have f:fJ lab j=a:=iE (by rw[zj c,e])
 rw[<-f];exact Nat.lt_of_le_of_lt (h.low j d) d
theorem adI{lab:List Nat}{i:Nat}(h:fJ lab i=i):(rts lab (i+1)).length=(rts lab i).length+1:=by rw[CY,if_pos h,zq];rfl
theorem adJ{lab:List Nat}{i:Nat}(h:fJ lab i≠i):(rts lab (i+1)).length=(rts lab i).length:=by rw[CY,if_neg h,qA]
theorem aeL{lab:List Nat}{i:Nat}(h:fJ lab i≠i):pU lab (i+1)=pU lab i:=by rw[KU,if_neg h];rfl
theorem aeK{lab:List Nat}{i:Nat}(h:fJ lab i=i):pU lab (i+1)=pU lab i+lab.count i:=by rw[KU,if_pos h]
theorem adH{lab:List Nat}{i:Nat}:(rts lab i).length<=i:=kS (u7 _ _) (Nat.le_of_eq pY)
theorem SX{lab:List Nat}{i:Nat}:∀ d,pU lab i<=pU lab (i+d)
 | 0=>zk _
 | d+1=>kS (SX d) (by rw[<-kD,KU];exact Nat.le_add_right _ _)
theorem mN.SV{n i:Nat}{lab:List Nat}(h:mN n lab)(hi:i<=n):pU lab i<=n:=by
 have a:=SX (lab:=lab) (i:=i) (n-i)
 rw[Nat.add_sub_cancel' hi,h.SU]at a
 exact a
theorem N1{l:List Nat}{j x:Nat}(h:j<l.length):(l.take (j+1)).count x=(l.take j).count x+if fJ l j=x then 1 else 0:=by
 rw[nY,gy h,DH]
 simp only[Option.toList,List.count_singleton,beq_iff_eq]
end Go.Sx
namespace Go.Sx
open Go
theorem fW.ok.copy{fO fM:Nat}{s:fW}(h:s.ok fO fM){d:AW}(f:∃ k,d.A={ s.A with ps:=k })(l:d.A.ok){e:TW}(r:e.ok)(p:∀ x,e.mem x↔s.t.mem x)(q:e.A.n=s.t.A.n){im2:IM}(hk:(im2.map Prod.fst).Nodup)
 (g:∀ a,(gZ im2 a=none↔gZ s.im a=none)/\(gh im2 a).2=(gh s.im a).2) (jd tb ab mb:Nat) (lv:Value) :
 fW.ok fO fM ⟨jd,tb,ab,mb,lv,s.last,d,e,s.live,im2⟩/\∀ x,fW.has ⟨jd,tb,ab,mb,lv,s.last,d,e,s.live,im2⟩ x↔s.has x:=by
 obtain⟨k,f⟩:=f
 have c:∀ j,d.A.gY j↔s.A.gY j:=fun j=>by rw[f];exact Iff.rfl
 have o:d.A.n=s.A.n:=by rw[f]
 have hb:d.A.begun=s.A.begun:=by rw[f]
 refine⟨⟨o.trans h.n,q.trans h.tn,h.en,h.vn,l,r,h.ll.trans hb.symm,fun i hi=>h.slot i ((c i).1 hi),h.Fe,fun i hi=>h.ne i ((c i).1 hi),fun id=>?_,hk,fun id i=>?_,fun id=>?_,fun id=>?_,
  fun i hi=>h.seq i ((c i).1 hi),fun i j hi m=>h.FQ i j ((c i).1 hi) ((c j).1 m),h.sN⟩,fun x=>?_⟩
 . show e.mem id↔∃ i,d.A.gY i/\_
   rw[p,h.mem]
   exact⟨fun⟨i,a,b⟩=>⟨i,(c i).2 a,b⟩,fun⟨i,a,b⟩=>⟨i,(c i).1 a,b⟩⟩
 . show i∈(gh im2 id).2↔d.A.gY i/\_
   rw[(g id).2,c]
   exact h.inc id i
 . show ((gh im2 id).2).Nodup
   rw[(g id).2]
   exact h.nd id
 . show gZ im2 id=none↔(gh im2 id).2=[]
   rw[(g id).1,(g id).2]
   exact h.empty id
 . exact⟨fun⟨i,a,b⟩=>⟨i,(c i).1 a,b⟩,fun⟨i,a,b⟩=>⟨i,(c i).2 a,b⟩⟩
end Go.Sx
namespace Go.Sx
open Go
theorem Fo.top{xs:List Nd}{F:FT}(h:Fo xs F){j:Nat}(f:j≠0)(d:j<xs.length):∃ r,PR (gT (gR xs F)) j r:=by
 obtain⟨m,hd⟩:=h.dep d
 clear d
 induction hd with
 | zero=>exact absurd rfl f
 | @step T q j m c n t k s =>
  have hs:∀ v u,nC (gA xs false T) q v u->gT (gR xs F) v u:=fun v u hp=>⟨(gA xs false T,q),z7.2 ⟨(T,q),c,rfl⟩,hp⟩
  have o:=h.yH c
  have hm:j∈gA xs false T:=(oE xs false T).mem_iff.2 n
  obtain⟨g, i⟩:∃ z,(gA xs false T).head? = some z:=by
   cases e:gA xs false T with
   | nil=>rw[e]at hm;simp at hm
   | cons z l=>exact⟨z,rfl⟩
  obtain⟨a,b⟩:=PR.EY i o hs hm
  by_cases hq:q=0
  . exact⟨g, a hq⟩
  . obtain⟨r,p⟩:=s hq
    exact⟨r,b r hq p⟩
theorem Fo.aal{xs:List Nd}{F:FT}(h:Fo xs F){j:Nat}(b:j≠0)(c:j<xs.length):Joined xs F j j:=by
 obtain⟨r,a⟩:=h.top b c
 exact⟨r,a,a⟩
section
variable {xs ys zs:List Nd} {F R R2:FT} {i j:Nat} {a b:Tr}
theorem Wd(m:Fo xs F)(n:Joined xs F i j)(h:kE xs F ys i a R)(k:kE (kg ys i) ((.nd a i .nil,0) :: R) zs j b R2)(hs:(fJ zs j).size=2):gA zs false (.nd b j .nil)=[i,j]:=by
 obtain⟨r,hi,o⟩:=n
 have d:=ab8 h.Cy k (h.aaM o hi fun v u q f g=>m.sU f g)
 have hv:=(k.fo.rep (.nd b j .nil,0) s_).2.2.1.size
 have e:=(oE zs false (.nd b j .nil)).length_eq
 have p:=k.seq
 rw[p]at e d ⊢
 have e1:((b.mem++j :: Tr.nil.mem).length:Int)=2:=by rw[<-hv];exact hs
 have c:(gA zs false b++[j]).length=2:=by
  rw[e]
  show (b.mem++j :: Tr.nil.mem).length=2
  omega
 cases hb:gA zs false b with
 | nil=>rw[hb]at c;simp at c
 | cons x l =>
  rw[hb]at c d
  cases l with
  | cons y l=>simp at c
  | nil =>
   simp at d
   subst d
   rfl
theorem aaS(f:Fo xs F)(h:kE xs F ys i a R)(k:kE (kg ys i) ((.nd a i .nil,0) :: R) zs j b R2)(t:¬ Joined xs F i j)(q:j≠0)(s:j<xs.length)(o:i≠0)(p:i<xs.length):∃ n,R2.Perm ((.nd a i .nil,0) :: n):=by
 rcases k.De (.nd a i .nil) s_ with ⟨c,_⟩|c
 . exact Rv c
 . exfalso
   rw[h.Cy.head]at c
   obtain⟨r,g⟩:=f.top q s
   obtain⟨m, l⟩:=f.top o p
   have w:r≠m := fun e=>t ⟨m, l, e▸g⟩
   obtain⟨x,p2⟩:=h.aaN g l w fun v u z c d=>f.sU c d
   have y:=k.top c (v:=j) (by simp[Tr.mem])
   have e:r=i:=PR.unique (P:=gT (gR (kg ys i) ((.nd a i .nil,0) :: R))) (fun v u z c d=>h.Cy.fo.sU c d) x y
   exact p2 (by rw[e];simp[Tr.mem])
end
theorem gf.lead{xs:List Nd}(h:gf xs){i:Nat}(hi:i<xs.length):gf (kg xs i):=h.iJ hi fun x a b c d e=>⟨a,b,c,d,e⟩
theorem uF(xs:List Nd)(i:Nat):(kg xs i).length=xs.length:=gC
end Go.Sx
namespace Go.Sx
open Go
theorem Q2{n k:Nat}(a:n<=1000000):gf (mE n k):=by
 have key:∀ i,i<n+1->fJ (mE n k) i=wm i\/fJ (mE n k) i=uI:=fun i hi=>by
  rw[xU hi]
  split
  . exact .inl rfl
  . exact .inr rfl
 refine⟨fun i hi=>?_,fun i hi=>?_,fun i hi=>?_,fun i hi=>?_,fun i hi=>?_⟩<;>rw[qn]at * <;> rcases key i hi with e|e<;>rw[e]
 all_goals first
  | exact(by decide:gX .i64 0)
  | (simp only[wm,uI];omega)
  | (show (-9223372036854775808:Int)<=0/\(0:Int)<=9223372036854775807;omega)
end Go.Sx
namespace Go.Sx
open Go
def gL(ps:List Int):Nat->Nat->Nat
 | 0,v=>v
 | k+1,v=>gL ps k (fJ ps v).toNat
section
variable {ps:List Int} {k j v:Nat}
theorem tP(a b:Nat):gL ps (a+b) v=gL ps b (gL ps a v):=by
 induction a generalizing v with
 | zero=>rw[lD];rfl
 | succ a c=>rw[Nat.succ_add];exact c
theorem ag2:gL ps 1 v=(fJ ps v).toNat:=rfl
theorem Eu(hp:j3 ps)(hv:v<ps.length):0<gp ps v↔0<=fJ ps v:=by
 constructor
 . intro h
   rcases Int.lt_or_le (fJ ps v) 0 with a|a
   . rw[Et a]at h
     omega
   . exact a
 . intro h
   rw[Ad hp hv (i:=(fJ ps v).toNat) o_]
   omega
theorem N6(hp:j3 ps)(hv:v<ps.length)(h:0<=fJ ps v):gp ps v=gp ps (fJ ps v).toNat+1:=Ad hp hv o_
theorem qq(hp:j3 ps)(hv:v<ps.length)(hk:k<=gp ps v):gL ps k v<ps.length/\gp ps (gL ps k v)=gp ps v-k/\v<=gL ps k v:=by
 induction k generalizing v with
 | zero=>exact⟨hv,rfl,zk _⟩
 | succ k d =>
  have a:=(Eu hp hv).1 o_
  have e:=hp.up v hv
  have f:=N6 hp hv a
  obtain⟨b,c,g⟩:=d (v:=(fJ ps v).toNat) o_ o_
  refine⟨b,?_,?_⟩
  . show gp ps (gL ps k (fJ ps v).toNat)=_
    rw[c]
    omega
  . show v<=gL ps k (fJ ps v).toNat
    omega
theorem ag3(hp:j3 ps)(hv:v<ps.length)(hk:k<gp ps v):fJ ps (gL ps k v)=((gL ps (k+1) v:Nat):Int):=by
 obtain⟨a,b,_⟩:=qq hp hv (Nat.le_of_lt hk)
 have c:=(Eu hp a).1 o_
 rw[tP k 1,ag2]
 omega
theorem P5(hp:j3 ps)(hv:v<ps.length):(2 ^ j<=gp ps v->j8 ps j v=((gL ps (2 ^ j) v:Nat):Int))/\(gp ps v<2 ^ j->j8 ps j v<0):=by
 induction j generalizing v with
 | zero =>
  have a:=Eu hp hv
  constructor
  . intro h
    show fJ ps v=(((fJ ps v).toNat:Nat):Int)
    have:=a.1 (by rw[Nat.pow_zero]at h;omega)
    omega
  . intro h
    show fJ ps v<0
    have b:¬ 0<gp ps v:=by rw[Nat.pow_zero]at h;omega
    rw[a]at b
    omega
 | succ j c =>
  have e:2 ^ (j+1)=2 ^ j+2 ^ j:=by rw[DN];omega
  obtain⟨f,g⟩:=c hv
  rw[e]
  constructor
  . intro h
    have a:=f o_
    obtain⟨b,d,_⟩:=qq hp hv (k:=2 ^ j) o_
    rw[E5 o_,a,mj,(c b).1 o_,<-tP]
  . intro h
    rcases xd (gp ps v) (2 ^ j)with a|a
    . have:=g a
      rw[Jn o_]
      exact this
    . have b:=f a
      obtain⟨d,i,_⟩:=qq hp hv (k:=2 ^ j) a
      rw[E5 o_,b,mj]
      exact(c d).2 o_
theorem Jo(hp:j3 ps)(hv:v<ps.length)(h:2 ^ j<=gp ps v):fJ (jr ps j) v=((gL ps (2 ^ j) v:Nat):Int):=by
 rw[uD hv]
 exact(P5 hp hv).1 h
theorem P4(hp:j3 ps)(hv:v<ps.length)(h:gp ps v<2 ^ j):fJ (jr ps j) v<0:=by
 rw[uD hv]
 exact(P5 hp hv).2 h
theorem P3(hp:j3 ps)(hm:∀ i,i<ps.length -> -1<=fJ ps i)(hv:v<ps.length) : -1<=j8 ps j v:=by
 induction j generalizing v with
 | zero=>exact hm v hv
 | succ j a =>
  have b:=a hv
  have c:=Jm hp hv (k:=j)
  by_cases h:0<=j8 ps j v
  . rw[E5 h]
    exact a o_
  . rw[Jn h]
    exact b
end
structure o6 (ps:List Int) (a b D j s:Nat):Prop where
 le:s<=D
 ne:gL ps s a≠gL ps s b
 Pp:D<s+2 ^ j\/gL ps (s+2 ^ j) a=gL ps (s+2 ^ j) b
section
variable {ps:List Int} {a b D j s:Nat}
theorem o6.start(h:a≠b)(c:D<8192):o6 ps a b D 13 0:=⟨mZ _,h,.inl (by rw[lD];exact c)⟩
theorem o6.next(hp:j3 ps)(hm:∀ i,i<ps.length -> -1<=fJ ps i)(n:a<ps.length)(hb:b<ps.length)(p:gp ps a=D)(q:gp ps b=D)(h:o6 ps a b D (j+1) s) :
 (fJ (jr ps j) (gL ps s a)=fJ (jr ps j) (gL ps s b)->o6 ps a b D j s) /\
 (fJ (jr ps j) (gL ps s a)≠fJ (jr ps j) (gL ps s b)->o6 ps a b D j (s+2 ^ j)/\fJ (jr ps j) (gL ps s a)=((gL ps (s+2 ^ j) a:Nat):Int)/\fJ (jr ps j) (gL ps s b)=((gL ps (s+2 ^ j) b:Nat):Int)):=by
 have g:=h.le
 obtain⟨a1,a2,_⟩:=qq hp n (k:=s) o_
 obtain⟨b1,b2,_⟩:=qq hp hb (k:=s) o_
 have e:2 ^ (j+1)=2 ^ j+2 ^ j:=by rw[DN];omega
 rcases xd (D-s) (2 ^ j)with l|l
 . have r:=P4 hp a1 (j:=j) o_
   have nb:=P4 hp b1 (j:=j) o_
   have o:=P3 hp hm a1 (j:=j)
   have mb:=P3 hp hm b1 (j:=j)
   rw[<-uD a1]at o
   rw[<-uD b1]at mb
   exact⟨fun _=>⟨g,h.ne,.inl o_⟩,fun c=>absurd (show fJ (jr ps j) (gL ps s a)=fJ (jr ps j) (gL ps s b) by omega) c⟩
 . have ya:=Jo hp a1 (j:=j) o_
   have d:=Jo hp b1 (j:=j) o_
   rw[<-tP]at ya d
   refine⟨fun c=>⟨g,h.ne,.inr o_⟩,fun c=>⟨⟨o_,fun m=>c (by rw[ya,d,m]),?_⟩,ya,d⟩⟩
   have f:=h.Pp
   rw[e,<-kD]at f
   exact f
theorem o6.fin(hp:j3 ps)(e:a<ps.length)(i:gp ps a=D)(h:o6 ps a b D 0 s) :
 (fJ ps (gL ps s a)<0->s=D)/\(¬ fJ ps (gL ps s a)<0->s<D/\fJ ps (gL ps s a)=((gL ps (s+1) a:Nat):Int)/\gL ps (s+1) a=gL ps (s+1) b):=by
 have j:=h.le
 obtain⟨a1,a2,_⟩:=qq hp e (k:=s) o_
 have d:=Eu hp a1
 refine⟨fun f=>?_,fun f=>?_⟩
 . have g:¬ 0<gp ps (gL ps s a):=by rw[d];omega
   omega
 . have g:=d.2 o_
   refine⟨o_,ag3 hp e o_,?_⟩
   have c:=h.Pp
   rw[Nat.pow_zero]at c
   rcases c with c|c
   . omega
   . exact c
end
theorem Il{ps:List Int}(hp:j3 ps){i:Nat}(hi:i<ps.length):gp ps i+i<ps.length:=by
 induction hm:ps.length-i using Nat.strongRecOn generalizing i with
 | _ m a =>
  rcases hp.up i hi with h|⟨b,c⟩
  . rw[Et h]
    omega
  . have:=a (ps.length-(fJ ps i).toNat) o_ (i:=(fJ ps i).toNat) o_ rfl
    rw[N6 hp hi o_]
    omega
def sC(ps:List Int)(a b z:Nat)(B:Bool):Prop :=
 (B=true/\∃ s t,s<=gp ps a/\t<=gp ps b/\gL ps s a=z/\gL ps t b=z/\∀ c t', c <= gp ps a->t' <= gp ps b->gL ps c a=gL ps t' b->s<=c) \/
 (B=false/\z=0/\∀ s t,s<=gp ps a->t<=gp ps b->gL ps s a≠gL ps t b)
section
variable {ps:List Int} {a b A B D s:Nat}
theorem JI(hp:j3 ps)(d:a<ps.length)(hb:b<ps.length){s t:Nat}(hs:s<=gp ps a)(e:t<=gp ps b)(h:gL ps s a=gL ps t b) :
 ∃ m,m<=min (gp ps a) (gp ps b)/\s=gp ps a-min (gp ps a) (gp ps b)+m/\gL ps m (gL ps (gp ps a-min (gp ps a) (gp ps b)) a)=gL ps m (gL ps (gp ps b-min (gp ps a) (gp ps b)) b):=by
 have c:=(qq hp d hs).2.1
 have f:=(qq hp hb e).2.1
 rw[h]at c
 refine⟨min (gp ps a) (gp ps b)-(gp ps a-s),o_,o_,?_⟩
 rw[<-tP,<-tP,show gp ps a-min (gp ps a) (gp ps b)+(min (gp ps a) (gp ps b)-(gp ps a-s))=s by omega,show gp ps b-min (gp ps a) (gp ps b)+(min (gp ps a) (gp ps b)-(gp ps a-s))=t by omega,h]
theorem VE(hp:j3 ps)(c:a<ps.length)(hb:b<ps.length)(h:gL ps (gp ps a-min (gp ps a) (gp ps b)) a=gL ps (gp ps b-min (gp ps a) (gp ps b)) b) :
 sC ps a b (gL ps (gp ps a-min (gp ps a) (gp ps b)) a) true :=
 .inl ⟨rfl,_,_,Nat.sub_le _ _,Nat.sub_le _ _,rfl,h.symm,fun g t' hs d e=>by
  obtain⟨m,_,f,_⟩:=JI hp c hb hs d e
  omega⟩
theorem o6.apart{j:Nat}(h:o6 ps A B D j s){m:Nat}(hm:gL ps m A=gL ps m B):s<m:=by
 apply Nat.lt_of_not_le
 intro a
 apply h.ne
 rw[show s=m+(s-m) by omega,tP,tP,hm]
theorem VG(hp:j3 ps)(g:a<ps.length)(hb:b<ps.length)(hA:A=gL ps (gp ps a-min (gp ps a) (gp ps b)) a)(d:B=gL ps (gp ps b-min (gp ps a) (gp ps b)) b)
 (h:o6 ps A B (min (gp ps a) (gp ps b)) 0 s) (h1:s<min (gp ps a) (gp ps b)) (f:gL ps (s+1) A=gL ps (s+1) B):sC ps a b (gL ps (s+1) A) true:=by
 refine .inl ⟨rfl,gp ps a-min (gp ps a) (gp ps b)+(s+1),gp ps b-min (gp ps a) (gp ps b)+(s+1),o_,o_,by rw[tP,<-hA],by rw[tP,<-d,f],fun k t' hs i e=>?_⟩
 obtain⟨m,_,j,c⟩:=JI hp g hb hs i e
 rw[<-hA,<-d]at c
 have:=h.apart c
 omega
theorem VF(hp:j3 ps)(f:a<ps.length)(hb:b<ps.length)(hA:A=gL ps (gp ps a-min (gp ps a) (gp ps b)) a)(d:B=gL ps (gp ps b-min (gp ps a) (gp ps b)) b)
 (h:o6 ps A B (min (gp ps a) (gp ps b)) 0 s) (h1:s=min (gp ps a) (gp ps b)):sC ps a b 0 false:=by
 refine .inr ⟨rfl,rfl,fun k t' hs g e=>?_⟩
 obtain⟨m,i,j,c⟩:=JI hp f hb hs g e
 rw[<-hA,<-d]at c
 have:=h.apart c
 omega
end
end Go.Sx
namespace Go.Sx
open Go
theorem UA{y:Nat}(h:0<y):(2*y) &&& (2*y-1)=2*(y &&& (y-1)):=by
 apply Nat.eq_of_testBit_eq
 intro i
 rw[Nat.testBit_and]
 cases i with
 | zero=>simp[Nat.testBit_zero]
 | succ i=>rw[Du,Du,Du,show 2*y / 2=y by omega,show (2*y-1) / 2=y-1 by omega,show 2*(y &&& (y-1)) / 2=y &&& (y-1) by omega,Nat.testBit_and]
theorem UB{m:Nat}:(2*m+1) &&& (2*m+1-1)=2*m:=by
 rw[Nat.add_sub_cancel]
 apply Nat.eq_of_testBit_eq
 intro i
 rw[Nat.testBit_and]
 cases i with
 | zero=>simp[Nat.testBit_zero]
 | succ i=>rw[Du,Du,show (2*m+1) / 2=m by omega,show 2*m / 2=m by omega,Bool.and_self]
theorem UC(k m:Nat):(2 ^ k*(2*m+1)) &&& (2 ^ k*(2*m+1)-1)=2 ^ k*(2*m+1)-2 ^ k:=by
 induction k with
 | zero=>rw[Nat.pow_zero,Nat.one_mul,UB];omega
 | succ k b =>
  have a:0<2 ^ k*(2*m+1):=Nat.mul_pos (Nat.pow_pos d_) o_
  have e:2 ^ (k+1)*(2*m+1)=2*(2 ^ k*(2*m+1)):=by rw[DN,Nat.mul_comm (2 ^ k) 2,Nat.mul_assoc]
  rw[e,UA a,b,DN]
  omega
theorem Ih{x:Nat}(c:x≠0)(h:x<2 ^ 64):x &&& (x-1)=x-2 ^ Lib.ctz 64 x/\2 ^ Lib.ctz 64 x<=x:=by
 obtain⟨m,hm,d⟩:=Lib.ctzFrom_spec 64 x o_ h
 have e:Lib.ctz 64 x=Lib.ctzFrom 64 x:=by simp[Lib.ctz,c]
 rw[e]
 have a:=UC (Lib.ctzFrom 64 x) m
 rw[<-hm]at a
 refine⟨a,?_⟩
 have b:2 ^ Lib.ctzFrom 64 x*1<=2 ^ Lib.ctzFrom 64 x*(2*m+1):=Bw _ o_
 rw[<-hm,su]at b
 exact b
theorem V5{x:Nat}(a:x≠0)(h:x<8192):Lib.ctz 64 x<13:=by
 have c:=(Ih a (nX h d_)).2
 apply Nat.lt_of_not_le
 intro b
 have d:2 ^ 13<=2 ^ Lib.ctz 64 x:=LQ d_ b
 have e:(2:Nat) ^ 13=8192:=by decide
 omega
structure BC (ps:List Int) (v0 d0 d v:Nat):Prop where
 le:d<=d0
 at_:v=gL ps (d0-d) v0
theorem BC.next{ps:List Int}{b a d v:Nat}(hp:j3 ps)(hv:b<ps.length)(hd:a<=gp ps b)(i:a<8192)(h:BC ps b a d v)(e:d≠0) :
 v<ps.length/\fJ (jr ps (Lib.ctz 64 d)) v=((gL ps (2 ^ Lib.ctz 64 d) v:Nat):Int)/\BC ps b a (d &&& (d-1)) (gL ps (2 ^ Lib.ctz 64 d) v):=by
 have g:=h.le
 obtain⟨c,l⟩:=Ih e (Nat.lt_of_le_of_lt g (nX i d_))
 obtain⟨a1,a2,_⟩:=qq hp hv (k:=a-d) o_
 rw[<-h.at_]at a1 a2
 have f:=Jo hp a1 (j:=Lib.ctz 64 d)
 generalize 2 ^ Lib.ctz 64 d=E at *
 refine⟨a1,f o_,by rw[c];omega,?_⟩
 rw[c,show a-(d-E)=(a-d)+E by omega,tP,<-h.at_]
end Go.Sx
namespace Go.Sx
open Go
theorem fW.HX{fO fM:Nat}{s:fW}(h:s.ok fO fM)(hA:s.t.A.ok){u v:Int}(g:u≠v){L:List Lv}{K:List Int}(y:L.length<fM)(m:∀ x,s.has x->x∈L)
 (l:∀ x,s.has x->x.u∈K/\x.v∈K) (p:u∈K) (hv:v∈K) (hk:K.length<=fO):s.gK fO fM u v=0:=by
 have k:((s.A.list s.A.begun).map fun i:Nat=>(i:Int)).length<=(L.map Lv.slot).length:=xX _ _ (by
  rw[List.Nodup,GQ]
  exact(s.A.CA _).imp fun {a b} z e=>by omega) fun j o=>by
  obtain⟨i,hi,rfl⟩:=z7.1 o
  have f:=(h.kU.oQ i).1 hi
  exact z7.2 ⟨_,m _ ⟨i,f,rfl⟩,h.slot i f⟩
 rw[zo,zo,h.kU.AD]at k
 obtain⟨c,k1,B,r⟩:=TW.HQ h.tok hA g
 have w:c.length<=K.length:=xX c K k1 fun x q=>by
  rcases(r x).1 q with hm|rfl|rfl
  . obtain⟨i,hi,n⟩:=(h.mem x).1 hm
    have d:=l _ ⟨i,hi,rfl⟩
    rcases n with e|e
    . rw[<-e];exact d.1
    . rw[<-e];exact d.2
  . exact p
  . exact hv
 exact fW.Ab g o_ o_
structure WW.Ins (c:WC) (s s2:WW) (x:Lv):Prop where
 has:∃ i:Nat,∀ y,s2.u.has y↔(s.u.has y/\x.t<y.exp)\/y=⟨(i:Int),s.u.last+1,x.u,x.v,x.wt,x.t,x.t+c.win⟩
 last:s2.u.last=s.u.last+1
 now:s2.now=x.t
 added:s2.added=s.added+1
structure WW.Uj (c:WC) (s s2:WW) (x:Lv) (e:Int):Prop where
 step:WW.Step s s2 x
 ins:e=0->WW.Ins c s s2 x
 room:s.u.gK c.fO c.fM x.u x.v=0->e=0
abbrev cW:WC:=⟨10,4,4,4⟩
abbrev wE(i:Nat)(q u v w t:Int):Lv:=⟨(i:Int),q,u,v,w,t,t+10⟩
section
variable {s s1 s2 s3:WW}
theorem ahG(b:∀ y,¬ s.u.has y)(c:s.u.last=0)(h:WW.Ins cW s s1 ⟨0,0,1,2,5,0,0⟩):(∃ i,∀ y,s1.u.has y↔y=wE i 1 1 2 5 0)/\s1.u.last=1:=by
 obtain⟨⟨i,hi⟩,a,_,_⟩:=h
 rw[c]at a hi
 exact⟨⟨i,fun y=>(hi y).trans ⟨fun h=>h.elim (fun h=>absurd h.1 (b y)) id,.inr⟩⟩,a⟩
theorem ahH{i:Nat}(c:∀ y,s1.u.has y↔y=wE i 1 1 2 5 0)(d:s1.u.last=1)(h:WW.Ins cW s1 s2 ⟨0,0,2,3,7,4,0⟩):(∃ j,∀ y,s2.u.has y↔y=wE i 1 1 2 5 0\/y=wE j 2 2 3 7 4)/\s2.u.last=2:=by
 obtain⟨⟨j,b⟩,a,_,_⟩:=h
 rw[d]at a b
 refine⟨⟨j,fun y=>(b y).trans (or_congr_left ?_)⟩,a⟩
 rw[c]
 exact⟨fun h=>h.1,fun h=>⟨h,by rw[h];show (4:Int)<0+10;decide⟩⟩
theorem ahI{i j:Nat}(b:∀ y,s2.u.has y↔y=wE i 1 1 2 5 0\/y=wE j 2 2 3 7 4)(c:s2.u.last=2)(h:WW.Ins cW s2 s3 ⟨0,0,1,3,9,6,0⟩) :
 ∃ k,∀ y,s3.u.has y↔(y=wE i 1 1 2 5 0\/y=wE j 2 2 3 7 4)\/y=wE k 3 1 3 9 6:=by
 obtain⟨⟨k,a⟩,_,_,_⟩:=h
 rw[c]at a
 refine⟨k,fun y=>(a y).trans (or_congr_left ?_)⟩
 rw[b]
 refine⟨fun h=>h.1,fun h=>⟨h,?_⟩⟩
 rcases h with rfl|rfl
 . exact(by decide:(6:Int)<0+10)
 . exact(by decide:(6:Int)<4+10)
def lY:List Ge:=[⟨0,1,5⟩,⟨1,2,7⟩,⟨0,2,9⟩]
theorem ahK{fO fM:Nat}(U:s3.u.ok fO fM){i j k:Nat}(h:∀ y,s3.u.has y↔(y=wE i 1 1 2 5 0\/y=wE j 2 2 3 7 4)\/y=wE k 3 1 3 9 6){K:List Int}{L:List Lv}{es:List Ge}
 (R:s3.u.oI K) (S:s3.u.mo L) (s:mO K L es L.length):K=[1,2,3]/\L.length=3/\es=lY:=by
 have e1:L=[wE i 1 1 2 5 0,wE j 2 2 3 7 4,wE k 3 1 3 9 6]:=S.uniq ⟨fun x=>by rw[h];simp[or_assoc],s_⟩
 have P:K=[1,2,3]:=R.uniq ⟨s_,fun x=>by
  rw[U.mem]
  constructor
  . intro l
    simp only[zb,nI,or_false]at l
    rcases l with rfl|rfl|rfl
    . obtain⟨n,c,e⟩:=(h (wE i 1 1 2 5 0)).2 (.inl (.inl rfl));exact⟨n,c,by rw[e];exact .inl rfl⟩
    . obtain⟨n,c,e⟩:=(h (wE i 1 1 2 5 0)).2 (.inl (.inl rfl));exact⟨n,c,by rw[e];exact .inr rfl⟩
    . obtain⟨n,c,e⟩:=(h (wE j 2 2 3 7 4)).2 (.inl (.inr rfl));exact⟨n,c,by rw[e];exact .inr rfl⟩
  . rintro⟨n,c,m⟩
    rcases(h _).1 ⟨n,c,rfl⟩with (e|e)|e<;>rw[e]at m<;>rcases m with rfl|rfl<;>simp⟩
 subst e1 P
 refine⟨rfl,rfl,?_⟩
 have T:=s.len
 have f:∀ n:Nat,n<3->LV [1,2,3] (fJ [wE i 1 1 2 5 0,wE j 2 2 3 7 4,wE k 3 1 3 9 6] n) (fJ es n):=fun n c=>s.fst n c
 have g:∀ a:Nat,a<3->∀ x:Int,fJ ([1,2,3]:List Int) a=x->(a:Int)+1=x:=fun a m x l=>by
  match a,m with
  | 0,_=>exact l
  | 1,_=>exact l
  | 2,_=>exact l
 match es,T,f with
 | [a,b,d],_,f =>
  have fa:=f 0 d_
  have fb:=f 1 d_
  have Q:=f 2 d_
  obtain⟨a1,a2,a3,t,v⟩:=fa
  obtain⟨b1,b2,b3,A,B⟩:=fb
  obtain⟨F,G,H,I,J⟩:=Q
  have w:=g _ a1 _ a3;have z:=g _ a2 _ t
  have C:=g _ b1 _ b3;have D:=g _ b2 _ A
  have M:=g _ F _ H;have N:=g _ G _ I
  obtain⟨o,p,aw⟩:=a
  obtain⟨q,bv,E⟩:=b
  obtain⟨r,dv,O⟩:=d
  change (o:Int)+1=1 at w;change (p:Int)+1=2 at z;change aw=5 at v
  change (q:Int)+1=2 at C;change (bv:Int)+1=3 at D;change E=7 at B
  change (r:Int)+1=1 at M;change (dv:Int)+1=3 at N;change O=9 at J
  have:o=0:=by omega
  have:p=1:=by omega
  have:q=1:=by omega
  have:bv=2:=by omega
  have:r=0:=by omega
  have:dv=2:=by omega
  subst_vars
  rfl
end
end Go.Sx
namespace Go.Sx
open Go
theorem ahJ:nZ lY 3 [0,1]:=⟨[0,1,2],⟨List.Perm.refl _,d_⟩,d_⟩
theorem T2:(fT lY 3 [0,1]).p=[3,3,4,4,-1]/\(fT lY 3 [0,1]).h=[0,0,0,5,7]/\(fT lY 3 [0,1]).s=[1,1,1,2,3]:=by decide
theorem Lu{es:List Ge}{n:Nat}{f:List Nat}(h:gV es n f)(a:es=lY)(b:n=3):f=[0,1]:=by
 subst a b
 exact h.f.uniq ahJ
section
variable {f:List Nat} (h:gV lY 3 f)
include h
theorem T3:gH lY 3 f (i6 (fT lY 3 f).p (fT lY 3 f).h 7 2)=0/\fJ (fT lY 3 f).s (i6 (fT lY 3 f).p (fT lY 3 f).h 7 2)=3:=by
 have hp:=h.pQ
 obtain rfl:=Lu h rfl rfl
 obtain⟨e1,a,b⟩:=T2
 rw[e1]at hp
 rw[e1,a,b,Ac hp d_ d_ d_]
 show gH lY 3 [0,1] (i6 _ _ 7 4)=0/\fJ _ (i6 _ _ 7 4)=3
 rw[B5 d_]
 decide
theorem ahM{z:Nat}{B:Bool}(k:sC (fT lY 3 f).p 0 2 z B):B=true/\fJ (fT lY 3 f).h z=7:=by
 have hp:=h.pQ
 obtain rfl:=Lu h rfl rfl
 obtain⟨e1,m,q⟩:=T2
 rw[e1]at hp k
 rw[m]
 have d:gp [3,3,4,4,-1] 4=0:=Et d_
 have l:gp [3,3,4,4,-1] 3=1:=by rw[Ad hp (j:=3) (i:=4) d_ d_,d]
 have b:gp [3,3,4,4,-1] 0=2:=by rw[Ad hp (j:=0) (i:=3) d_ d_,l]
 have c:gp [3,3,4,4,-1] 2=1:=by rw[Ad hp (j:=2) (i:=4) d_ d_,d]
 rcases k with ⟨rfl,s,t,e,g,n,a,_⟩|⟨_,_,o⟩
 . rw[b]at e
   rw[c]at g
   refine⟨rfl,?_⟩
   subst n
   match s,e,t,g,a with
   | 0,_,0,_,a=>exact absurd a d_
   | 0,_,1,_,a=>exact absurd a d_
   | 1,_,0,_,a=>exact absurd a d_
   | 1,_,1,_,a=>exact absurd a d_
   | 2,_,0,_,a=>exact absurd a d_
   | 2,_,1,_,_=>decide
 . exact absurd d_ (o 2 1 (by rw[b];exact zk _) (by rw[c];exact zk _))
theorem ahL:f=[0,1]/\(nM lY 3 f f.length).map (fun m=>(m.a,m.b,m.h))=[(0,1,5),(0,2,7)]:=by
 obtain rfl:=Lu h rfl rfl
 exact⟨rfl,d_⟩
end
end Go.Sx
namespace Go.Sx
open Go
def FI(l:List Oper)(pre:List (List Nat))(mem:List Nat):Bool :=
 CS l pre &&
 (l.all fun o => !E0 o.op) &&
 ((List.range l.length).all fun j=>(l[j]?).all fun o=>o.after.toList.all fun e => !Region.binds .any e||decide (e.on<j)) &&
 ((
  List.range l.length).all fun j=>(List.range j).all fun i =>
  match l[i]?,l[j]? with
  | some x,some y => !(mX l.toArray x y||mX l.toArray y x)||(pre.getD j []).contains i
  | _,_=>true) &&
 (mem.all fun m=>decide (m<l.length))
def okD(pre:List (List Nat))(mem:List Nat)(i:Nat)(d:List Nat):Bool :=
 !(d.contains i)&&mem.all fun m=>(!((pre.getD i []).contains m)||d.contains m)&&(!(d.contains m) || !((pre.getD m []).contains i))
def tD(mem d:List Nat)(i:Nat):List Nat:=mem.filter fun j=>d.contains j||j==i
section
variable {Γ:Type} (P:Program) (ops:Array Oper) (Q:Exit->Act->World->Prop) (n:Nat) (ds:List Deferred) (s0:List (Nat×Value))
def mq(l0:List Oper)(pre:List (List Nat))(mem:List Nat)(V:List (Γ->Value))(M:List Nat->Γ->World->Prop):Nat->(Γ->List (Nat×Value))->List Oper->List (Γ->Value)->Prop
 | i,s,o :: l,v :: vs =>
  (
   bif mem.contains i then ∀ d,okD pre mem i d=true->∀ g w,M d g w->ni P ops Q n ds s0 l0 o (s g) (fun v' w' => ∃ a, M (tD mem d i) a w' /\ v' = v a /\ lX pre i g a 0 V) w
   else ∀ d,okD pre mem i d=true->∀ g w,M d g w->mu P ops n o (s g) (v g) (M d g) w) /\
  mq l0 pre mem V M (i+1) (fun g=>kj o.dst (v g) (s g)) l vs
 | _,_,[],[]=>True
 | _,_,_,_=>False
end
section
variable {Γ:Type} {r:Option Nat} {P:Program} {Q:Exit->Act->World->Prop} {n:Nat} {ds:List Deferred} {s0:List (Nat×Value)} {l:List Oper} {pre:List (List Nat)} {mem:List Nat} {V:List (Γ->Value)} {M:List Nat->Γ->World->Prop}
theorem mq.get{l0:List Oper}:∀ (l:List Oper) (vs:List (Γ->Value)) (b:Nat) (s:Γ->List (Nat×Value)),mq P l0.toArray Q n ds s0 l0 pre mem V M b s l vs->l.length=vs.length /\
 ∀ k o,l[k]? = some o->∃ v,vs[k]? = some v /\
  (
   bif mem.contains (b+k)then ∀ d,okD pre mem (b+k) d=true->∀ g w,M d g w->ni P l0.toArray Q n ds s0 l0 o (iM (fun j=>decide (j<b+k)) b l (vs.map (· g)) (s g)) (fun v' w' => ∃ f, M (tD mem d (b+k)) f w' /\ v' = v f /\ lX pre (b+k) g f 0 V) w
   else ∀ d,okD pre mem (b+k) d=true->∀ g w,M d g w->mu P l0.toArray n o (iM (fun j=>decide (j<b+k)) b l (vs.map (· g)) (s g)) (v g) (M d g) w):=by
 intro l
 induction l with
 | nil=>intro vs b s h;cases vs with|nil=>exact⟨rfl,fun k o c=>by simp at c⟩|cons v vs=>exact h.elim
 | cons o l m =>
  intro vs b s h
  cases vs with
  | nil=>exact h.elim
  | cons v vs =>
   obtain⟨q,r⟩:=h
   obtain⟨e,t⟩:=m vs (b+1) _ r
   refine⟨by simp[e],fun k y c=>?_⟩
   cases k with
   | zero =>
    simp at c
    subst c
    refine⟨v,rfl,?_⟩
    have hs:∀ g,iM (fun j=>decide (j<b+0)) b (o :: l) ((v :: vs).map (· g)) (s g)=s g:=by
     intro g
     have key:∀ (l:List Oper) (a:List Value) (i:Nat) (s:List (Nat×Value)),b<=i->iM (fun j=>decide (j<b+0)) i l a s=s:=by
      intro l
      induction l with
      | nil=>intro a i s _;cases a<;>rfl
      | cons o l m=>intro a i s hi;cases a with|nil=>rfl|cons u a=>simp only[iM];rw[show decide (i<b+0)=false by simp;omega];exact m a (i+1) s o_
     exact key _ _ _ _ (zk _)
    simp only[hs]
    exact q
   | succ k =>
    obtain⟨v', x, p⟩:=t k y (by simpa using c)
    refine⟨v', by simpa using x, ?_⟩
    rw[show b+1+k=b+(k+1) by omega]at p
    have hs:∀ g,iM (fun j=>decide (j<b+(k+1))) b (o :: l) ((v :: vs).map (· g)) (s g)=iM (fun j=>decide (j<b+(k+1))) (b+1) l (vs.map (· g)) (kj o.dst (v g) (s g)):=by
     intro g
     simp only[jV,iM]
     rw[show decide (b<b+(k+1))=true by simp]
     rfl
    simp only[hs]
    exact p
theorem contains_filter{S:Nat->Bool}{mem:List Nat}{j:Nat}(a:j∈mem):(mem.filter S).contains j=S j:=by
 cases h:S j with
 | true=>simp[h,a]
 | false=>simp[h]
theorem Rc{S:Nat->Bool}{i:Nat}(d:(mem.all fun m=>decide (m<l.length))=true)(a:∀ k,(pre.getD i []).contains k=true->S k=true)(e:∀ k,k<l.length->(pre.getD k []).contains i=true->S k=false)(b:S i=false):okD pre mem i (mem.filter S)=true:=by
 simp only[okD,lW,GO,zn]
 refine⟨by simp[b],fun m hm=>⟨?_,?_⟩⟩
 . rw[contains_filter hm]
   cases h:(pre.getD i []).contains m with
   | true=>simp[a m h]
   | false=>rfl
 . rw[contains_filter hm]
   have c:m<l.length:=of_decide_eq_true (zn.1 d m hm)
   cases h:(pre.getD m []).contains i with
   | true=>simp[e m c h]
   | false=>simp
theorem R8{id:Nat}{w:World}(hm:P.follows .mixedOrders=true)(pre:List (List Nat))(mem:List Nat)(ay:FI l pre mem=true)(V:List (Γ->Value))(M:List Nat->Γ->World->Prop)(g0:Γ)(sE:Γ->List (Nat×Value))
 (h0:M [] g0 w.drew) (hO:mq P l.toArray Q n ds s0 l pre mem V M 0 (fun _=>s0) l V) (hE:∀ g,iM (fun _=>true) 0 l (V.map (· g)) s0=sE g)
 (aI:∀ g w', M mem g w' -> Q .normal (Fr n (sE g) ds) w'):WP r P (.region id l.toArray true) Q (Fr n s0 ds) w:=by
 simp only[FI,lW]at ay
 obtain⟨⟨⟨⟨ap,aQ⟩,aF⟩,aH⟩,al⟩:=ay
 obtain⟨aW,av⟩:=mq.get (l0:=l) l V 0 (fun _=>s0) hO
 simp only[lD]at av
 -- conflicts are ordered
 have ae:∀ i j x y,l[i]? = some x->l[j]? = some y->i<j->(mX l.toArray x y=true\/mX l.toArray y x=true)->(pre.getD j []).contains i=true:=by
  intro i j x y X hy ak h
  have p:j<l.length:=(zg.1 hy).1
  have z:=zn.1 (zn.1 aH j (z6.2 p)) i (z6.2 ak)
  simp only[X,hy]at z
  rcases ve.1 z with A|A
  . exfalso
    have N:(mX l.toArray x y||mX l.toArray y x)=true:=by
     rcases h with h|h<;>simp[h]
    rw[N]at A
    cases A
  . exact A
 refine wpIn_region_any hm ?_
 have aY:l.toArray.size=l.length:=by simp
 -- the invariant
 let c:Array Bool->Nat->Bool:=fun a i=>a.getD i false
 have aV:∀ (fuel:Nat) (a:Array Bool) (g:Γ) (w:World),a.size=l.length->a.toList.countP (! ·)<=fuel->Down l (c a)->M (mem.filter (c a)) g w ->
  wpAnyIn (FW r) 0 P .any l.toArray Q fuel a (Fr n (iM (c a) 0 l (V.map (· g)) s0) ds) w:=by
  intro fuel
  have fin:∀ (a:Array Bool) (g:Γ) (w:World),a.size=l.length->(∀ i,i<l.length->c a i=true)->M (mem.filter (c a)) g w->Q .normal (Fr n (iM (c a) 0 l (V.map (· g)) s0) ds) w:=by
   intro a g w hs U E
   have e1:mem.filter (c a)=mem:=tV.2 fun m aO => U m (by simpa using of_decide_eq_true (zn.1 al m aO))
   rw[e1]at E
   have e2:Fr n (iM (c a) 0 l (V.map (· g)) s0) ds=Fr n (sE g) ds:=by
    rw[<-hE g]
    refine vm ds fun t=>?_
    rw[oP,oP]
    congr 1
    refine Az l 0 _ _ rfl fun j o p _=>⟨?_,fun _=>rfl⟩
    rw[lD]
    exact U j (zg.1 p).1
   rw[e2]
   exact aI g w E
  have aB:∀ (a:Array Bool),a.size=l.length->Region.ready .any l.toArray a=[]->∀ i,i<l.length->c a i=true:=by
   intro a hs q i
   induction i using Nat.strongRecOn with
   | _ i ih =>
    intro hi
    cases O:c a i with
    | true=>rfl
    | false =>
     exfalso
     have:i∈Region.ready .any l.toArray a:=by
      rw[mem_ready]
      refine⟨?_,l[i],by simp[hi],fun e C hb=>?_⟩
      . have:i<a.size:=by omega
        simp only[c]at O
        simp[this]at O ⊢
        exact O
      . have z:=zn.1 aF i (z6.2 hi)
        rw[zj hi]at z
        simp only[Option.all_some,zn]at z
        have A:=z e (by simpa using C)
        rw[hb,DK,Bool.false_or,decide_eq_true_eq]at A
        exact ih e.on A o_
     rw[q]at this
     cases this
  induction fuel with
  | zero =>
   intro a g w hs O hd E
   have hz:∀ x∈a.toList,x=true:=by
    intro x X
    have:=Bv.1 (Nat.le_zero.1 O) x X
    simpa using this
   have U:∀ i,i<l.length->c a i=true:=by
    intro i hi
    have aj : i<a.size:=by omega
    simp only[c]
    simp[aj]
    exact hz _ s_
   refine⟨?_,fin a g w hs U E⟩
   cases q:Region.ready .any l.toArray a with
   | nil=>rfl
   | cons i rs =>
    have:i∈Region.ready .any l.toArray a:=by rw[q];simp
    rw[mem_ready]at this
    obtain⟨z,o,ho,_⟩:=this
    have hi:i<l.length:=by simpa using(nW.1 ho).1
    have:=U i hi
    simp only[c]at this
    have aj : i<a.size:=by omega
    simp[aj]at z this
    rw[z]at this
    cases this
  | succ fuel ih =>
   intro a g w hs O hd E
   refine⟨fun q=>fin a g w hs (aB a hs q) E,fun i hi=>?_⟩
   obtain⟨ac,o,ho,ar⟩:=mem_ready.1 hi
   have D : l[i]? = some o:=by simpa using ho
   have W:i<l.length:=(zg.1 D).1
   have Z : i<a.size:=by omega
   have H:c a i=false:=by
    simp only[c];simp[Z]at ac ⊢;exact ac
   -- the set behind it
   let S:=c a
   let J := c (a.setIfInBounds i true)
   have H:S i=false:=H
   have hd:Down l S:=hd
   have G : ∀ j,J j=(S j||j==i):=fun j=>EU a i j Z
   have ai : Down l J := ⟨fun j B p Y e C hb=>by
    rw[G]at Y ⊢
    rcases ve.1 Y with h|h
    . rw[show S e.on=true from hd.closed j B p h e C hb];rfl
    . have:j=i:=by simpa using h
      subst this
      have:B=o:=Option.some.inj (p.symm.trans D)
      subst this
      rw[show S e.on=true from ar e C hb];rfl⟩
   have az:=fun j=>AP (S:=S) ap hd j
   have aP := fun j=>AP (S:=J) ap ai j
   -- what waits for i has not come up
   have R:∀ k,k<l.length->(pre.getD k []).contains i=true->S k=false:=by
    intro k I aM
    cases T:S k with
    | false=>rfl
    | true=>have:=az k T I i aM;rw[H]at this;cases this
   -- what i waits for has
   have ad:∀ k,(pre.getD i []).contains k=true->S k=true:=by
    intro k I
    have z:=aP i (by rw[G];simp) W k I
    rw[G]at z
    rcases ve.1 z with h|h
    . exact h
    . exfalso
      have e:k=i:=by simpa using h
      subst e
      have:=R k W I
      -- k is in fP own list: then it has come up before itself
      have A:=zn.1 (zn.1 ap k (z6.2 W)) k (by simpa using I)
      rw[zj W]at A
      simp only[Option.any_some,DI,lW,decide_eq_true_eq,zB,beq_iff_eq]at A
      obtain⟨e,C,⟨hb,aX⟩,N⟩:=A
      have aE:S e.on=true:=by
       have:l[k]=o:=by rw[zj W]at D; exact Option.some.inj D
       rw[this]at C
       exact ar e (by simpa using C) hb
      rcases N with N|N
      . omega
      . have:=az e.on aE o_ k (by simpa using N)
        rw[H]at this;cases this
   -- the slots that it looks at hold what they hold in the order of the text
   have agree:∀ t,t∈o.looksAt l.toArray->look (iM S 0 l (V.map (· g)) s0) t=look (iM (fun j=>decide (j<i)) 0 l (V.map (· g)) s0) t:=by
    intro t F
    rw[oP,oP]
    congr 1
    refine Az l 0 _ _ rfl fun j B p L=>⟨?_,fun _=>rfl⟩
    rw[lD]
    have aA:mX l.toArray B o=true:=by simp[mX,L,F]
    rcases GS j i with h|h|h
    . simp[h,ad j (ae j i B o p D h (.inl aA))]
    . subst h;simp[H,S]
    . have:=R j (zg.1 p).1 (ae i j o B D p h (.inr aA))
      simp[this];omega
   have au:execOp (ev n (iM S 0 l (V.map (· g)) s0)) o=execOp (ev n (iM (fun j=>decide (j<i)) 0 l (V.map (· g)) s0)) o:=by
    refine execOp_congr o (fun cs b e=>?_) fun x X=>?_
    . have:=zn.1 aQ o (zd D)
      rw[e]at this
      simp[E0]at this
    . cases x with
      | tmp t =>
       simp only[ev]
       rw[agree t (wX _ (GN.2 ⟨.tmp t,by simpa using X,rfl⟩))]
      | _=>rfl
   have ab:gB l.toArray n (iM S 0 l (V.map (· g)) s0) o.guard=gB l.toArray n (iM (fun j=>decide (j<i)) 0 l (V.map (· g)) s0) o.guard:=by
    cases hg:o.guard with
    | none=>rfl
    | some gd =>
     obtain⟨jg,aZ⟩:=gd
     simp only[gB]
     have e:vQ l.toArray.toList jg=(l.toArray[jg]?).bind (·.dst):=by rw[Ip];simp
     rw[e]
     cases hdg:(l.toArray[jg]?).bind (·.dst)with
     | none=>rfl
     | some d =>
      simp only[ev]
      rw[agree d (wW _ (by rw[hg];simp only;rw[hdg];simp))]
   -- the frame behind it
   have aq:(a.setIfInBounds i true).toList.countP (! ·)<=fuel:=by
    have:(a.setIfInBounds i true).toList.countP (! ·)+1<=a.toList.countP (! ·):=by
     rw[Lx]
     have aw:i<a.toList.length:=by simpa using Z
     have aJ:a.toList[i]=false:=by simp[Z]at ac;simpa using ac
     have e:=u9 i a.toList
     have e2:a.toList=a.toList.take i++false :: a.toList.drop (i+1):=by
      conv=>lhs;rw[<-e,Bt aw,aJ]
     have e3:a.toList.set i true=a.toList.take i++true :: a.toList.drop (i+1):=by
      rw[LB,if_pos aw]
     rw[e3]
     conv=>rhs;rw[e2]
     simp[List.countP_append,wU]
     omega
    omega
   have frame:∀ (s : Γ) (v:Γ->Value),V[i]? = some v->(∀ k u,V[k]? = some u->S k=true->u s = u g) ->
    (Fr n (iM S 0 l (V.map (· g)) s0) ds).put o.dst (v s)=Fr n (iM J 0 l (V.map (· s)) s0) ds:=by
    intro s v hv aR
    rw[zG]
    refine vm ds fun t=>?_
    rw[JA,oP,oP]
    by_cases hdt:o.dst=some t
    . rw[if_pos hdt]
      have:mU J t 0 l (V.map (· s))=some (v s):=by
       refine Qn l 0 i _ o (v s) D hdt (by simp[hv]) (by rw[lD,G];simp) fun j B ak p L=>?_
       rw[lD,G]
       have aU:mX l.toArray o B=true:=by simp[mX,hdt,L]
       have:=R j (zg.1 p).1 (ae i j o B D p ak (.inl aU))
       simp[this];omega
      rw[this];rfl
    . rw[if_neg hdt]
      congr 1
      refine Az l 0 _ _ s_ fun j B p L=>?_
      rw[lD,G]
      have aL:¬ j=i:=by
       rintro rfl
       have:B=o:=Option.some.inj (p.symm.trans D)
       subst this
       exact hdt L
      refine⟨by simp[aL],fun Y=>?_⟩
      have ax:j<V.length:=by have:=(zg.1 p).1;omega
      simp only[kR,zj ax,w5]
      rw[aR j _ (zj ax) Y]
   obtain⟨v,hv,aa⟩:=av i o D
   unfold wpOpIn
   rw[ho]
   simp only
   by_cases himem:i∈mem
   . -- an operation on memory
     have ah:mem.contains i=true:=by simpa using himem
     rw[ah]at aa
     have ao:okD pre mem i (mem.filter S)=true:=Rc al ad R H
     have aK:tD mem (mem.filter S) i=mem.filter J := by
      unfold tD
      refine wZ fun j p=>?_
      rw[G]
      have:(mem.filter S).contains j=S j:=contains_filter p
      rw[this]
     have aD : M (mem.filter S) g w:=E
     have next:∀ v' w', (∃ s, M (tD mem (mem.filter S) i) s w' /\ v' = v s /\ lX pre i g s 0 V) ->
      wpAnyIn (FW r) 0 P .any l.toArray Q fuel (a.setIfInBounds i true) ((Fr n (iM S 0 l (V.map (· g)) s0) ds).put o.dst v') w' := by
      rintro v' w' ⟨s, af,rfl,aS⟩
      have:=ih (a.setIfInBounds i true) s w' (by simpa using hs) aq ai (by rw[show mem.filter (c (a.setIfInBounds i true))=tD mem (mem.filter S) i from aK.symm];exact af)
      rw[frame s v hv ?_]
      . exact this
      . intro k u I T
        refine lX.get V 0 aS k u I ?_
        rw[lD]
        have aN:k<l.length:=by have:=(zg.1 I).1;omega
        have z:(pre.getD k []).contains i=false:=by
         cases h:(pre.getD k []).contains i with
         | false=>rfl
         | true=>have:=R k aN h;rw[T]at this;cases this
        have A:¬ k=i:=by rintro rfl;rw[H]at T;cases T
        rw[z];simp[A]
     rcases aa _ ao g w aD with ⟨F,am,ag⟩|⟨F,K⟩
     . rw[rj,ab,F,if_pos rfl]
       refine⟨fun _ _=>trivial,?_⟩
       rw[semAt_eq (wz am),o7, au]
       rcases ag with ⟨v', w', q,K⟩|⟨w', q,K⟩|⟨f,args,q,hC⟩
       . rw[q];exact next v' w' K
       . rw[q];exact next undef w' K
       . rw[q]
         refine⟨fun h=>by simp[FW]at h,uw.2 (Calls.mono hC ?_)⟩
         intro e w' C
         cases e with
         | returned v' => exact next v' w' C
         | panicked ch =>
          refine C _ fun t aT => ?_
          rw[oP,Cp l 0 _ (fun j B p L=>absurd L (aT B (zd p)))]
          rfl
         | outgrown=>exact C
     . rw[rj,ab,F]
       exact⟨fun _ _=>trivial,next undef w K⟩
   . have ah:mem.contains i=false:=by simpa using himem
     rw[ah]at aa
     have aG : mem.filter J = mem.filter S:=by
      refine wZ fun j p=>?_
      rw[G]
      have:¬ j=i:=by rintro rfl;exact himem p
      simp[this]
     have ao:okD pre mem i (mem.filter S)=true:=Rc al ad R H
     have next:∀ w', M (mem.filter S) g w' -> wpAnyIn (FW r) 0 P .any l.toArray Q fuel (a.setIfInBounds i true) ((Fr n (iM S 0 l (V.map (· g)) s0) ds).put o.dst (v g)) w' := by
      intro w' af
      have:=ih (a.setIfInBounds i true) g w' (by simpa using hs) aq ai (by rw[show mem.filter (c (a.setIfInBounds i true))=mem.filter S from aG];exact af)
      rw[frame g v hv (fun _ _ _ _=>rfl)]
      exact this
     rcases aa _ ao g w E with ⟨F,am,ag⟩|⟨F,K⟩
     . rw[rj,ab,F,if_pos rfl]
       refine⟨fun _ _=>trivial,?_⟩
       rw[semAt_eq (wz am),o7, au]
       rcases ag with q|⟨f,args,q,hC⟩
       . rw[q];exact next w E
       . rw[q]
         refine⟨fun h=>by simp[FW]at h,uw.2 (Calls.mono hC ?_)⟩
         rintro e w' ⟨v', rfl,rfl,aC⟩
         exact next w' aC
     . rw[rj,ab,F]
       exact⟨fun _ _=>trivial,by rw[<-K];exact next w E⟩
 have e0:Fr n s0 ds=Fr n (iM (c (Array.replicate l.toArray.size false)) 0 l (V.map (· g0)) s0) ds:=by
  refine vm ds fun t=>?_
  rw[oP,Cp l 0 _ (fun j o _ _=>?_)]
  . rfl
  . simp only[c];exact tB _ _
 have hz:mem.filter (c (Array.replicate l.toArray.size false))=[]:=GK.2 fun j _=>by
  simp only[c];rw[tB];simp
 rw[e0]
 refine aV _ _ g0 _ s_ (kS LJ s_) ⟨fun j o _ h=>?_⟩ (by rw[hz];exact h0)
 exfalso
 simp only[c]at h
 rw[tB]at h
 cases h
end
def Ch:List Nat->List Nat->Bool
 | [],[]=>true
 | a :: l,b :: m=>Nat.beq a b&&Ch l m
 | _,_=>false
theorem Pe:∀ {l m:List Nat},Ch l m=true->l=m
 | [],[],_=>rfl
 | a :: l,b :: m,h=>by
  simp only[Ch,lW]at h
  rw[Br h.1,Pe h.2]
 | [],_ :: _,h=>by cases h
 | _ :: _,[],h=>by cases h
def uH{α:Type}:List (List Nat×α)->List Nat->Option α
 | [],_=>none
 | (k,a) :: l,d=>bif Ch k d then some a else uH l d
section
variable {Γ:Type} {r:Option Nat} {P:Program} {ops:Array Oper} {Q:Exit->Act->World->Prop} {n:Nat} {ds:List Deferred} {s0:List (Nat×Value)} {l0 l:List Oper} {pre:List (List Nat)} {mem:List Nat} {V vs:List (Γ->Value)} {v:Γ->Value}
variable {bs:List (World×List Nat)} {Ls:List (List Nat×((Γ->List fU)×(Γ->World->Prop)))} {i:Nat} {s:Γ->List (Nat×Value)} {o:Oper} {L L' : Γ->List fU} {F F' : Γ->World->Prop}
def p6(bs:List (World×List Nat))(Ls:List (List Nat×((Γ->List fU)×(Γ->World->Prop))))(d:List Nat)(g:Γ)(w:World):Prop :=
 match uH Ls d with
 | some (L,F)=>St bs (L g) w/\F g w
 | none=>False
def zD(C:List Nat->(Γ->List fU)->(Γ->World->Prop)->Prop):List (List Nat×((Γ->List fU)×(Γ->World->Prop)))->Prop
 | []=>True
 | (d,L,F) :: r=>C d L F/\zD C r
theorem zD.get{C:List Nat->(Γ->List fU)->(Γ->World->Prop)->Prop}:∀ {Ls:List (List Nat×((Γ->List fU)×(Γ->World->Prop)))} {d:List Nat},zD C Ls->uH Ls d=some (L,F)->C d L F
 | [],_,_,h=>by cases h
 | (k,L0,F0) :: r,d,hf,h=>by
  simp only[uH]at h
  cases hk:Ch k d with
  | true =>
   rw[hk]at h
   simp only[cond_true,Option.some.injEq,Prod.mk.injEq]at h
   obtain⟨rfl,rfl⟩:=h
   rw[<-Pe hk]
   exact hf.1
  | false =>
   rw[hk]at h
   exact zD.get hf.2 h
theorem Q8:mq P ops Q n ds s0 l0 pre mem V (p6 bs Ls) i s [] []:=trivial
theorem ny(hm:mem.contains i=false)(h:∀ g w C,mu P ops n o (s g) (v g) C w)(K:mq P ops Q n ds s0 l0 pre mem V (p6 bs Ls) (i+1) (fun g=>kj o.dst (v g) (s g)) l vs) :
 mq P ops Q n ds s0 l0 pre mem V (p6 bs Ls) i s (o :: l) (v :: vs):=by
 refine⟨?_,K⟩
 rw[hm]
 intro d _ g w e
 rcases h g w (p6 bs Ls d g)with ⟨b,c,a|a⟩|a
 . exact .inl ⟨b,c,.inl a⟩
 . exact .inl ⟨b,c,.inr a⟩
 . exact .inr a
theorem AL(hm:mem.contains i=false)(h:zD (fun d L F=>bif okD pre mem i d then ∀ g w,St bs (L g) w->F g w->mu P ops n o (s g) (v g) (fun w' => St bs (L g) w' /\ F g w') w else True) Ls)
 (K:mq P ops Q n ds s0 l0 pre mem V (p6 bs Ls) (i+1) (fun g=>kj o.dst (v g) (s g)) l vs):mq P ops Q n ds s0 l0 pre mem V (p6 bs Ls) i s (o :: l) (v :: vs):=by
 refine⟨?_,K⟩
 rw[hm]
 intro d hd g w a
 unfold p6 at a ⊢
 cases hl:uH Ls d with
 | none=>rw[hl]at a;exact a.elim
 | some p =>
  obtain⟨L,F⟩:=p
  rw[hl]at a
  have b:=h.get hl
  simp only[hd,cond_true]at b
  exact b g w a.1 a.2
theorem AK(hm:mem.contains i=true)
 (h:zD (fun d L F=>bif okD pre mem i d then ∃ L' F', uH Ls (tD mem d i)=some (L', F')/\∀ g w,St bs (L g) w->F g w->ni P ops Q n ds s0 l0 o (s g) (fun v' w' => ∃ b, (St bs (L' b) w' /\ F' b w')/\v' = v b /\ lX pre i g b 0 V) w else True) Ls)
 (K:mq P ops Q n ds s0 l0 pre mem V (p6 bs Ls) (i+1) (fun g=>kj o.dst (v g) (s g)) l vs):mq P ops Q n ds s0 l0 pre mem V (p6 bs Ls) i s (o :: l) (v :: vs):=by
 refine⟨?_,K⟩
 rw[hm]
 intro d hd g w a
 unfold p6 at a ⊢
 cases hl:uH Ls d with
 | none=>rw[hl]at a;exact a.elim
 | some p =>
  obtain⟨L,F⟩:=p
  rw[hl]at a
  have c:=h.get hl
  simp only[hd,cond_true]at c
  obtain⟨L', F', f, e⟩:=c
  rw[f]
  exact e g w a.1 a.2
theorem Sb{id:Nat}{w:World}(hm:P.follows .mixedOrders=true)(pre:List (List Nat))(mem:List Nat)(j:FI l pre mem=true)(V:List (Γ->Value))(Ls:List (List Nat×((Γ->List fU)×(Γ->World->Prop))))(a:Γ)
 (sE:Γ->List (Nat×Value)) (d:uH Ls []=some (L,F)) (k:St bs (L a) w) (c:∀ w', gx [] w w' -> F a w') (f:mq P l.toArray Q n ds s0 l pre mem V (p6 bs Ls) 0 (fun _=>s0) l V)
 (b:∀ g,iM (fun _=>true) 0 l (V.map (· g)) s0=sE g) (e:uH Ls mem=some (L', F'))
 (i:∀ g w', St bs (L' g) w' -> F' g w' -> Q .normal (Fr n (sE g) ds) w'):WP r P (.region id l.toArray true) Q (Fr n s0 ds) w :=
 R8 hm pre mem j V (p6 bs Ls) a sE (by unfold p6;rw[d];exact⟨k.grow (gx.drew [] w),c _ (gx.drew [] w)⟩) f b fun g w' h=>by
  unfold p6 at h
  rw[e]at h
  exact i g w' h.1 h.2
end
end Go.Sx
