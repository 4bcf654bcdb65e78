/- Plain lemmas. No conditions. -/
import Derived.Test.YtedjjkcihkmjgaaGreatDoorFa
import Derived.Maps.RangeRun
set_option linter.unusedVariables false
set_option linter.unusedSectionVars false
set_option linter.unusedSimpArgs false
namespace Go.Sx
open Go
structure Nd where
 k0:Nat
 k1:Nat
 up:Nat
 flip:Bool
 key:Int
 size:Int
 first:Nat
 i7:Int
 total:Int
 deriving Inhabited
def Nd.cells(x:Nd):List Value:=[.int .i64 x.k0,.int .i64 x.k1,.int .i64 x.up,.bool x.flip,.int .i64 x.key,.int .i64 x.size,.int .i64 x.first,.int .i64 x.i7,.int .i64 x.total]
def jV(xs:List Nd)(i:Nat):Nat×Bool :=
 if (cE xs i).up=0 then(0,false)else if (cE xs (cE xs i).up).k0=i then(0,true)else if (cE xs (cE xs i).up).k1=i then(1,true)else(0,false)
def mj(xs:List Nd)(i j:Nat):Bool:=decide ((cE xs i).key<(cE xs j).key\/(cE xs i).key=(cE xs j).key/\i<j)
def jj(xs:List Nd)(i s k:Nat):List Nd :=
 let ys:=if s=0 then cO xs i (fun x=>{ x with k0:=k })else cO xs i (fun x=>{ x with k1:=k })
 if k=0 then ys else cO ys k (fun x=>{ x with up:=i })
def kL(xs:List Nd)(i:Nat):List Nd :=
 if (cE xs i).flip=true then
  let y0:=cO xs i (fun x=>{ x with flip:=false })
  let y1:=cO y0 i (fun x=>{ x with k0:=(cE y0 i).k1 })
  let y2:=cO y1 i (fun x=>{ x with k1:=(cE y0 i).k0 })
  let a:=if (cE y2 i).k0=0 then y2 else cO y2 (cE y2 i).k0 (fun x=>{ x with flip := !(cE y2 (cE y2 i).k0).flip })
  if (cE y2 i).k1=0 then a else cO a (cE y2 i).k1 (fun x=>{ x with flip := !(cE a (cE y2 i).k1).flip })
 else xs
structure fT (xs:List Nd):Prop where
 k0:∀ i,i<xs.length->(cE xs i).k0<xs.length
 k1:∀ i,i<xs.length->(cE xs i).k1<xs.length
 up:∀ i,i<xs.length->(cE xs i).up<xs.length
 first:∀ i,i<xs.length->(cE xs i).first<xs.length
 key:∀ i,i<xs.length->ij .i64 (cE xs i).key
variable{i p q j:Nat}{xs ys E:List Nd}{pl L:List Nat}{a u:Int}{ps:List (Option Nat)}{d:Bool}{l:List Int}{P:Nat->Nat->Prop}{es:List (Int×Value×Nat)}{v2:Value}{hm:Nat->Nat}(k:Nat)(ds:List Nat)
theorem fT.iV{k:Nat}{f:Nd->Nd}(h:fT xs)(hk:k<xs.length)(a:∀ x:Nd,x.k0<xs.length->x.k1<xs.length->x.up<xs.length->x.first<xs.length->ij .i64 x.key->(f x).k0<xs.length/\(f x).k1<xs.length/\(f x).up<xs.length/\(f x).first<xs.length/\ij .i64 (f x).key):fT (cO xs k f):=by
 have key:∀ i,i<xs.length->(cE (cO xs k f) i).k0<xs.length/\(cE (cO xs k f) i).k1<xs.length/\(cE (cO xs k f) i).up<xs.length/\(cE (cO xs k f) i).first<xs.length/\ij .i64 (cE (cO xs k f) i).key:=by
  intro i hi
  rw[jH hk]
  split
  . exact a _ (h.k0 k hk) (h.k1 k hk) (h.up k hk) (h.first k hk) (h.key k hk)
  . exact⟨h.k0 i hi,h.k1 i hi,h.up i hi,h.first i hi,h.key i hi⟩
 refine⟨fun i hi=>?_,fun i hi=>?_,fun i hi=>?_,fun i hi=>?_,fun i hi=>?_⟩<;>(rw[gd]at hi;try rw[gd])
 . exact(key i hi).1
 . exact(key i hi).2.1
 . exact(key i hi).2.2.1
 . exact(key i hi).2.2.2.1
 . exact(key i hi).2.2.2.2
inductive Tr where
 | nil:Tr
 | nd (l:Tr) (i:Nat) (r:Tr):Tr
namespace Tr
def root:Tr->Nat
 | .nil=>0
 | .nd _ i _=>i
def mem:Tr->List Nat
 | .nil=>[]
 | .nd l i r=>l.mem++i :: r.mem
end Tr
def jD(xs:List Nd)(d:Bool)(i:Nat):Nat:=bif d then(cE xs i).k0 else(cE xs i).k1
def o8(xs:List Nd)(L:List Nat):Int:=(L.map fun j=>1+(cE xs j).i7).sum
def Iu(xs:List Nd)(m:Nat)(L:List Nat):Prop:=m∈L/\∀ j∈L,j=m\/mj xs m j=true
structure qF (xs:List Nd) (i:Nat) (L:List Nat):Prop where
 size:(cE xs i).size=(L.length:Int)
 total:(cE xs i).total=IntKind.i64.wrap (o8 xs L)
 first:Iu xs (cE xs i).first L
def gR(xs:List Nd):Tr->Nat->Prop
 | .nil,_=>True
 | .nd l i r,p=>(i≠0/\i<xs.length)/\((cE xs i).k0=l.root/\(cE xs i).k1=r.root/\(cE xs i).up=p)/\qF xs i (l.mem++i :: r.mem)/\gR xs l i/\gR xs r i
abbrev Cx:=List (Bool×Nat×Tr)
def nw(d:Bool)(t:Tr)(g:Nat)(s:Tr):Tr:=bif d then .nd t g s else .nd s g t
def kH(d:Bool)(L:List Nat)(g:Nat)(s:Tr):List Nat:=bif d then L++g :: s.mem else s.mem++g :: L
def kK:Cx->Tr->Tr
 | [],t=>t
 | (d,g,s) :: c,t=>kK c (nw d t g s)
def mw:Cx->List Nat->List Nat
 | [],L=>L
 | (d,g,s) :: c,L=>mw c (kH d L g s)
def xD:Cx->Nat->Nat
 | [],p=>p
 | (_,g,_) :: _,_=>g
def kB:Cx->List Nat
 | []=>[]
 | (_,g,s) :: c=>g :: s.mem++kB c
def nq(xs:List Nd):Cx->Nat->List Nat->Nat->Prop
 | [],_,_,_=>True
 | (d,g,s) :: c,h,L,p=>(g≠0/\g<xs.length)/\(jD xs d g=h/\jD xs (!d) g=s.root/\(cE xs g).up=xD c p)/\qF xs g (kH d L g s)/\gR xs s g/\nq xs c g (kH d L g s) p
theorem Tw(d:Bool)(t:Tr)(g:Nat)(s:Tr):(nw d t g s).root=g:=by cases d<;>rfl
theorem K6(d:Bool)(t:Tr)(g:Nat)(s:Tr):(nw d t g s).mem=kH d t.mem g s:=by cases d<;>rfl
theorem qM:∀ (c:Cx) (t:Tr),(kK c t).mem=mw c t.mem
 | [],t=>rfl
 | (d,g,s) :: c,t=>by rw[kK,qM c,K6,mw]
variable{b s T U:Tr}{O:Cx}
theorem aed{t:Tr}{g:Nat}:gR xs (nw d t g s) p↔(g≠0/\g<xs.length)/\(jD xs d g=t.root/\jD xs (!d) g=s.root/\(cE xs g).up=p)/\qF xs g (kH d t.mem g s)/\gR xs t g/\gR xs s g:=by
 grind [nw,gR,jD,kH]
theorem Ac{xs:List Nd}:∀ (c:Cx) (t:Tr) (p:Nat),gR xs (kK c t) p↔gR xs t (xD c p)/\nq xs c t.root t.mem p
 | [],t,p=>by simp[kK,xD,nq]
 | (d,g,s) :: c,t,p=>by
  rw[kK,Ac c,aed,Tw,K6]
  simp only[xD,nq]
  constructor
  . rintro⟨⟨a,b,e,f,h⟩,i⟩;exact⟨f,a,b,e,h,i⟩
  . rintro⟨f,a,b,e,h,i⟩;exact⟨⟨a,b,e,f,h⟩,i⟩
structure KL (xs ys:List Nd):Prop where
 len:ys.length=xs.length
 key:∀ j,(cE ys j).key=(cE xs j).key
 i7:∀ j,(cE ys j).i7=(cE xs j).i7
theorem KL.refl(xs:List Nd):KL xs xs:=⟨rfl,fun _=>rfl,fun _=>rfl⟩
theorem KL.trans{zs:List Nd}(h:KL xs ys)(k:KL ys zs):KL xs zs:=⟨k.len.trans h.len,fun j=>(k.key j).trans (h.key j),fun j=>(k.i7 j).trans (h.i7 j)⟩
theorem KL.before(h:KL xs ys)(i j:Nat):mj ys i j=mj xs i j:=by simp[mj,h.key]
theorem KL.HJ(h:KL xs ys)(L:List Nat):o8 ys L=o8 xs L:=by simp[o8,h.i7]
theorem KL.Kz(h:KL xs ys){m:Nat}(k:Iu xs m L):Iu ys m L:=⟨k.1,fun j a=>by rw[h.before];exact k.2 j a⟩
theorem qF.to(h:qF xs i L)(k:KL xs ys)(hs:(cE ys i).size=(cE xs i).size)(ht:(cE ys i).total=(cE xs i).total)(a:(cE ys i).first=(cE xs i).first):qF ys i L :=
 ⟨hs.trans h.size,by rw[ht,h.total,k.HJ],by rw[a];exact k.Kz h.first⟩
theorem gR.to{xs ys:List Nd}(k:KL xs ys):∀ {t:Tr} {p:Nat},gR xs t p->(∀ j∈t.mem,cE ys j=cE xs j)->gR ys t p
 | .nil,_,_,_=>trivial
 | .nd l i r,p,h,hs=>by
  obtain⟨⟨b,c⟩,⟨d,e,f⟩,g,m,n⟩:=h
  have hi:=hs i (by simp[Tr.mem])
  refine⟨⟨b,by rw[k.len];exact c⟩,⟨by rw[hi];exact d,by rw[hi];exact e,by rw[hi];exact f⟩,g.to k (by rw[hi]) (by rw[hi]) (by rw[hi]),gR.to k m fun j a=>hs j (by simp[Tr.mem,a]),gR.to k n fun j a=>hs j (by simp[Tr.mem,a])⟩
theorem gR.up(k:KL xs ys){t:Tr}(h:gR xs t p)(hs:∀ j∈t.mem,j≠t.root->cE ys j=cE xs j)(a:cE ys t.root={ cE xs t.root with up:=q })(c:t.mem.Nodup):gR ys t q:=by
 cases t with
 | nil=>trivial
 | nd l i r =>
  obtain⟨⟨e,f⟩,⟨g,m,v⟩,n,o,s⟩:=h
  simp only[Tr.root]at a hs
  simp only[Tr.mem]at c hs
  rw[zo]at c
  obtain⟨n1,d,u⟩:=c
  rw[zu]at d
  refine⟨⟨e,by rw[k.len];exact f⟩,⟨by rw[a];exact g,by rw[a];exact m,by rw[a]⟩,n.to k (by rw[a]) (by rw[a]) (by rw[a]),gR.to k o fun j b=>hs j (by simp[b]) ?_,gR.to k s fun j b=>hs j (by simp[b]) ?_⟩
  . rintro rfl;exact u j b j s_ rfl
  . rintro rfl;exact d.1 b
theorem nq.to{xs ys:List Nd}(k:KL xs ys):∀ {c:Cx} {r p:Nat} {L:List Nat},nq xs c r L p->(∀ j∈kB c,cE ys j=cE xs j)->nq ys c r L p
 | [],_,_,_,_,_=>trivial
 | (d,g,s) :: c,r,p,L,h,hs=>by
  obtain⟨⟨i,l⟩,⟨e,f,m⟩,n,o,q⟩:=h
  have a:=hs g (by simp[kB])
  refine⟨⟨i,by rw[k.len];exact l⟩,⟨by simp only[jD,a]at e ⊢;exact e,by simp only[jD,a]at f ⊢;exact f,by rw[a];exact m⟩,n.to k (by rw[a]) (by rw[a]) (by rw[a]),gR.to k o fun j b=>hs j (by simp[kB,b]),nq.to k q fun j b=>hs j (by simp[kB,b])⟩
theorem nq.xm(k:KL xs ys){g r b:Nat}{c:Cx}(h:nq xs ((d,g,s) :: c) r L p)(hs:∀ j∈s.mem++kB c,cE ys j=cE xs j)
 (e:cE ys g=bif d then { cE xs g with k0:=b } else { cE xs g with k1:=b }):nq ys ((d,g,s) :: c) b L p:=by
 obtain⟨⟨f,i⟩,⟨q,t,l⟩,m,n,o⟩:=h
 refine⟨⟨f,by rw[k.len];exact i⟩,⟨?_,?_,?_⟩,m.to k ?_ ?_ ?_,gR.to k n fun j a=>hs j (by simp[a]),nq.to k o fun j a=>hs j (by simp[a])⟩
 . cases d<;>simp[jD,e]
 . grind [jD]
 all_goals cases d<;>simp[e]<;>exact l
theorem DM:∀ {c:Cx} {L:List Nat} {j:Nat},j∈mw c L↔j∈L\/j∈kB c
 | [],L,j=>by simp[mw,kB]
 | (d,g,s) :: c,L,j=>by
  rw[mw,DM (c:=c)]
  cases d<;>simp only[kH,kB,cond_true,cond_false,zj,ze]<;>simp only[or_assoc,or_left_comm,or_comm]
theorem DP:∀ {c:Cx} {L:List Nat},(mw c L).Nodup->L.Nodup/\(kB c).Nodup/\∀ j∈L,j∉kB c
 | [],L,h=>⟨h,by simp[kB],by simp[kB]⟩
 | (d,g,s) :: c,L,h=>by
  obtain⟨t,l,m⟩:=DP (c:=c) h
  have key:L.Nodup/\s.mem.Nodup/\g∉L/\g∉s.mem/\∀ j∈L,j∉s.mem:=by
   cases d
   . grind [kH]
   . grind [kH]
  obtain⟨k1,o,p,q,r⟩:=key
  have n:∀ j,j∈kH d L g s↔j∈L\/j=g\/j∈s.mem:=fun j=>by cases d<;>simp only[kH,cond_true,cond_false,zj,ze,or_assoc,or_left_comm,or_comm]
  refine⟨k1,?_,fun j i f=>?_⟩
  . rw[kB,zo,zu]
    refine⟨⟨q,o⟩,l,fun a k b hb e=>?_⟩
    subst e
    rcases ze.1 k with rfl|k
    . grind
    . grind
  . rw[kB,zj,ze]at f
    rcases f with (rfl|f)|f
    . exact p i
    . exact r j i f
    . exact m j ((n j).2 (.inl i)) f
theorem afR{l':List Int}(h:l.Perm l'):l.sum=l'.sum:=by
 induction h with
 | nil=>rfl
 | cons x _ c=>simp only[List.sum_cons,c]
 | swap x y l=>simp only[List.sum_cons];omega
 | trans _ _ a b=>exact a.trans b
theorem agU{L':List Nat}(h:L.Perm L'):o8 xs L=o8 xs L' := afR (h.map _)
theorem qF.perm{i:Nat}{L L':List Nat}(h:qF xs i L)(k:L.Perm L'):qF xs i L' := by
 refine⟨by rw[h.size,k.length_eq],?_,⟨k.mem_iff.1 h.first.1,fun j a=>h.first.2 j (k.mem_iff.2 a)⟩⟩
 rw[h.total,agU k]
theorem agS(xs:List Nd)(L M:List Nat):o8 xs (L++M)=o8 xs L+o8 xs M:=by simp[o8]
theorem Nf(x:Int):IntKind.i64.wrap x=if 9223372036854775808<=x%18446744073709551616 then x%18446744073709551616-18446744073709551616 else x%18446744073709551616:=by
 show (if (true&&decide (x%18446744073709551616≥9223372036854775808))=true then x%18446744073709551616-18446744073709551616 else x%18446744073709551616)=_
 simp
theorem Vj(x:Int):IntKind.i64.wrap x=(x+9223372036854775808)%18446744073709551616-9223372036854775808:=by
 rw[Nf];split<;>omega
theorem ahQ(a b:Int):IntKind.i64.wrap (IntKind.i64.wrap a+IntKind.i64.wrap b)=IntKind.i64.wrap (a+b):=by
 simp only[Vj];omega
theorem ahR{x:Int}(h:-9223372036854775808<=x)(a:x<=9223372036854775807):IntKind.i64.wrap x=x:=by rw[Vj];omega
def ng(xs:List Nd)(i k:Nat):List Nd :=
 if k=0 then xs else
  let y0:=cO xs i (fun x=>{ x with size:=IntKind.i64.wrap (x.size+(cE xs k).size) })
  let y1:=cO y0 i (fun x=>{ x with total:=IntKind.i64.wrap (x.total+(cE y0 k).total) })
  if mj y1 (cE y1 k).first (cE y1 i).first then cO y1 i (fun x=>{ x with first:=(cE y1 k).first })else y1
def iU(xs:List Nd)(i:Nat):List Nd :=
 let y:=cO xs i (fun x=>{ x with size:=1,first:=i,total:=IntKind.i64.wrap (1+x.i7) })
 ng (ng y i (cE xs i).k0) i (cE xs i).k1
structure pG (xs ys:List Nd) (i:Nat):Prop where
 len:ys.length=xs.length
 other:∀ j,j≠i->cE ys j=cE xs j
 here:∃ s t f,cE ys i={ cE xs i with size:=s,total:=t,first:=f }
theorem pG.refl(xs:List Nd)(i:Nat):pG xs xs i:=⟨rfl,fun _ _=>rfl,_,_,_,rfl⟩
theorem pG.trans{zs:List Nd}(h:pG xs ys i)(k:pG ys zs i):pG xs zs i:=by
 obtain⟨s,t,f,e⟩:=h.here
 obtain⟨c, t', b, e'⟩:=k.here
 exact⟨k.len.trans h.len,fun j a=>(k.other j a).trans (h.other j a),c, t', b, by rw[e', e]⟩
theorem pG.kl(h:pG xs ys i):KL xs ys:=by
 obtain⟨s,t,f,e⟩:=h.here
 refine⟨h.len,fun j=>?_,fun j=>?_⟩<;>(by_cases hj:j=i)
 . subst hj;rw[e]
 . rw[h.other j hj]
 . subst hj;rw[e]
 . rw[h.other j hj]
theorem pG.flip(h:pG xs ys i)(j:Nat):(cE ys j).flip=(cE xs j).flip:=by
 obtain⟨s,t,f,e⟩:=h.here
 by_cases hj:j=i
 . subst hj;rw[e]
 . rw[h.other j hj]
theorem Tn{k:Nat}{M:List Nat}(hi:i<xs.length)(hk:k<xs.length)(h:qF xs i L)(p:k≠0->k≠i/\qF xs k M)(t:k=0->M=[])(u:L.length+M.length<=1000001) :
 pG xs (ng xs i k) i/\qF (ng xs i k) i (L++M):=by
 unfold ng
 by_cases hk0:k=0
 . grind [pG.refl]
 . rw[if_neg hk0]
   obtain⟨q,hv⟩:=p hk0
   obtain⟨y0,f⟩:∃ y,y=cO xs i (fun x=>{ x with size:=IntKind.i64.wrap (x.size+(cE xs k).size) }):=⟨_,rfl⟩
   obtain⟨y1,e1⟩:∃ y,y=cO y0 i (fun x=>{ x with total:=IntKind.i64.wrap (x.total+(cE y0 k).total) }):=⟨_,rfl⟩
   simp only[<-f,<-e1]
   have r:y0.length=xs.length:=by rw[f,gd]
   have l1:y1.length=xs.length:=by rw[e1,gd,r]
   have a0:cE y0 i={ cE xs i with size:=IntKind.i64.wrap ((cE xs i).size+(cE xs k).size) }:=by rw[f,jQ hi]
   have b0:∀ j,j≠i->cE y0 j=cE xs j:=fun j d=>by rw[f,k6 (fun e=>d e.symm)]
   have a1:cE y1 i={ cE xs i with size:=IntKind.i64.wrap ((cE xs i).size+(cE xs k).size),total:=IntKind.i64.wrap ((cE xs i).total+(cE xs k).total) }:=by
    grind [jQ]
   have b1:∀ j,j≠i->cE y1 j=cE xs j:=fun j d=>by rw[e1,k6 (fun e=>d e.symm),b0 j d]
   have o1:pG xs y1 i:=⟨l1,b1,_,_,_,a1⟩
   have hs:IntKind.i64.wrap ((cE xs i).size+(cE xs k).size)=((L++M).length:Int):=by
    rw[h.size,hv.size,ahR o_ o_,zk];omega
   have ht:IntKind.i64.wrap ((cE xs i).total+(cE xs k).total)=IntKind.i64.wrap (o8 xs (L++M)):=by
    rw[h.total,hv.total,ahQ,agS]
   have hb:∀ a b,mj y1 a b=mj xs a b:=o1.kl.before
   have o:(cE y1 k).first=(cE xs k).first:=by rw[b1 k q]
   have m:(cE y1 i).first=(cE xs i).first:=by rw[a1]
   have n:∀ a b c,mj xs a b=true->mj xs b c=true->mj xs a c=true:=by
    grind [mj]
   have s:∀ a b,mj xs a b=false->a=b\/mj xs b a=true:=by
    grind [mj]
   rw[o,m,hb]
   cases hc:mj xs (cE xs k).first (cE xs i).first with
   | true =>
    rw[if_pos rfl]
    have g:cE (cO y1 i (fun x=>{ x with first:=(cE xs k).first })) i={ cE xs i with size:=IntKind.i64.wrap ((cE xs i).size+(cE xs k).size),total:=IntKind.i64.wrap ((cE xs i).total+(cE xs k).total),first:=(cE xs k).first }:=by
     rw[jQ o_,a1]
    have l:pG xs (cO y1 i (fun x=>{ x with first:=(cE xs k).first })) i:=⟨by rw[gd,l1],fun j d=>by rw[k6 (fun e=>d e.symm),b1 j d],_,_,_,g⟩
    refine⟨l,⟨by rw[g];exact hs,by rw[g,l.kl.HJ];exact ht,?_⟩⟩
    rw[g]
    refine l.kl.Kz ⟨yC _ hv.first.1,fun j d=>?_⟩
    rcases zj.1 d with d|d
    . rcases h.first.2 j d with rfl|d
      . exact .inr hc
      . exact .inr (n _ _ _ hc d)
    . exact hv.first.2 j d
   | false =>
    rw[if_neg s_]
    refine⟨o1,⟨by rw[a1];exact hs,by rw[a1,o1.kl.HJ];exact ht,?_⟩⟩
    rw[m]
    refine o1.kl.Kz ⟨sj _ h.first.1,fun j d=>?_⟩
    rcases zj.1 d with d|d
    . exact h.first.2 j d
    . rcases s _ _ hc with e|e
      . rw[<-e];exact hv.first.2 j d
      . rcases hv.first.2 j d with rfl|d
        . exact .inr e
        . exact .inr (n _ _ _ e d)
theorem gR.vals{t:Tr}(h:gR xs t p):t.root≠0->qF xs t.root t.mem:=by
 cases t with
 | nil=>intro h;exact absurd rfl h
 | nd l i r=>intro _;exact h.2.2.1
theorem gR.nS{t:Tr}(h:gR xs t p):t.root≠0->t.root∈t.mem:=by
 cases t with
 | nil=>intro h;exact absurd rfl h
 | nd l i r=>intro _;simp[Tr.root,Tr.mem]
theorem gR.LV{t:Tr}(h:gR xs t p):t.root=0->t.mem=[]:=by
 cases t with
 | nil=>intro _;rfl
 | nd l i r=>intro e;exact absurd e h.1.1
theorem gR.Cd{t:Tr}(h:gR xs t p)(a:0<xs.length):t.root<xs.length:=by
 cases t with
 | nil=>exact a
 | nd l i r=>exact h.1.2
theorem gR.rm{xs:List Nd}:∀ {t:Tr} {p:Nat},gR xs t p->∀ j∈t.mem,j≠0/\j<xs.length
 | .nil,_,_,j,a=>by simp[Tr.mem]at a
 | .nd l i r,p,h,j,a=>by
  obtain⟨b,_,_,c,d⟩:=h
  simp only[Tr.mem,zj,ze]at a
  rcases a with a|rfl|a
  . exact gR.rm c j a
  . exact b
  . exact gR.rm d j a
theorem Cb{l r:Tr}(hi:i≠0/\i<xs.length)(w:gR xs l i)(A:gR xs r i)(v:(cE xs i).k0=l.root)(h1:(cE xs i).k1=r.root)(z:(l.mem++i :: r.mem).Nodup)(C:(l.mem++i :: r.mem).length<=1000000) :
 pG xs (iU xs i) i/\gR (iU xs i) (.nd l i r) (cE xs i).up:=by
 have I:0<xs.length:=by omega
 rw[zo,zu]at z
 obtain⟨n1,⟨n,J⟩,F⟩:=z
 have o:i∉l.mem:=fun h=>F i h i s_ rfl
 simp only[zk,zb]at C
 unfold iU
 obtain⟨y,d⟩:∃ y,y=cO xs i (fun x=>{ x with size:=1,first:=i,total:=IntKind.i64.wrap (1+x.i7) }):=⟨_,rfl⟩
 simp only[<-d]
 have c:cE y i={ cE xs i with size:=1,first:=i,total:=IntKind.i64.wrap (1+(cE xs i).i7) }:=by rw[d,jQ hi.2]
 have E:y.length=xs.length:=by rw[d,gd]
 have by_:∀ j,j≠i->cE y j=cE xs j:=fun j a=>by rw[d,k6 (fun e=>a e.symm)]
 have p:pG xs y i:=⟨E,by_,_,_,_,c⟩
 have H:qF y i [i]:=⟨by rw[c];rfl,by rw[c,p.kl.HJ];simp[o8],by rw[c];exact⟨s_,fun j a=>.inl (by simpa using a)⟩⟩
 have g : gR y l i:=w.to p.kl fun j a=>by_ j (fun e=>o (e▸a))
 have D : gR y r i:=A.to p.kl fun j a=>by_ j (fun e=>n (e▸a))
 rw[v,h1]
 obtain⟨o1,G⟩:=Tn (xs:=y) (i:=i) (k:=l.root) (L:=[i]) (M:=l.mem) o_ (g.Cd o_) H (fun h=>⟨fun e=>o (e▸w.nS h),g.vals h⟩) (g.LV) (by simp;omega)
 have m:=D.to o1.kl fun j a=>o1.other j (fun e=>n (e▸a))
 have B:=g.to o1.kl fun j a=>o1.other j (fun e=>o (e▸a))
 obtain⟨b,v2⟩:=Tn (xs:=ng y i l.root) (i:=i) (k:=r.root) (L:=[i]++l.mem) (M:=r.mem) (by rw[o1.len];omega) (m.Cd (by rw[o1.len];omega)) G (fun h=>⟨fun e=>n (e▸A.nS h),m.vals h⟩) (m.LV) (by simp;omega)
 have u:=(p.trans o1).trans b
 obtain⟨s,t,f,q⟩:=u.here
 refine⟨u,⟨hi.1,by rw[u.len];exact hi.2⟩,⟨by rw[q];exact v,by rw[q];exact h1,by rw[q]⟩,v2.perm ?_,B.to b.kl fun j a=>b.other j (fun e=>o (e▸a)),m.to b.kl fun j a=>b.other j (fun e=>n (e▸a))⟩
 simp only[List.singleton_append,pW]
 exact sA.symm
def iR(xs:List Nd)(i:Nat):List Nd :=
 let p:=(cE xs i).up
 let g:=(cE xs p).up
 let s:=(jV xs i).1
 let y1:=if (jV xs p).2=true then jj xs g (jV xs p).1 i else cO xs i (fun x=>{ x with up:=g })
 let y2:=jj y1 p s (if s=0 then(cE y1 i).k1 else(cE y1 i).k0)
 let a:=jj y2 i (1-s) p
 iU (iU a p) i
def r8(d:Bool)(k:Nat)(x:Nd):Nd:=bif d then { x with k0:=k } else { x with k1:=k }
def sd(d:Bool):Nat:=bif d then 0 else 1
theorem Mi(d:Bool)(k:Nat)(x:Nd):(r8 d k x).key=x.key:=by cases d<;>rfl
theorem Mj(d:Bool)(k:Nat)(x:Nd):(r8 d k x).i7=x.i7:=by cases d<;>rfl
theorem Mh(d:Bool)(k:Nat)(x:Nd):(r8 d k x).flip=x.flip:=by cases d<;>rfl
theorem afb(d:Bool)(k:Nat)(x:Nd):(r8 d k x).up=x.up:=by cases d<;>rfl
theorem QN(xs:List Nd)(i:Nat)(d:Bool)(k:Nat):jj xs i (sd d) k=if k=0 then cO xs i (r8 d k)else cO (cO xs i (r8 d k)) k (fun x=>{ x with up:=i }):=by
 cases d<;>rfl
theorem Kl(xs:List Nd)(i:Nat)(d:Bool)(k:Nat):(jj xs i (sd d) k).length=xs.length:=by
 rw[QN];split<;>simp[gd]
theorem Kk{k:Nat}(hi:i<xs.length)(hk:k<xs.length)(a:k≠i)(j:Nat) :
 cE (jj xs i (sd d) k) j=if j=i then r8 d k (cE xs i)else if j=k/\k≠0 then { cE xs k with up:=i } else cE xs j:=by
 grind [QN,jH,gd,k6]
theorem Ml(b:(cE xs i).up=p)(hp:p≠0)(hk:jD xs d p=i)(a:jD xs (!d) p≠i):jV xs i=(sd d,true):=by
 unfold jV
 rw[b,if_neg hp]
 cases d
 . simp only[jD,cond_false,Bool.not_false,cond_true]at hk a
   rw[if_neg a,if_pos hk];rfl
 . simp only[jD,cond_true]at hk
   rw[if_pos hk];rfl
theorem TO(a:(cE xs i).up=p)(h:p=0\/jD xs true p≠i/\jD xs false p≠i):jV xs i=(0,false):=by
 grind [jV,jD]
def r6(d:Bool)(a:Tr)(i:Nat)(b:Tr)(p:Nat)(s:Tr):Tr:=bif d then .nd a i (.nd b p s)else .nd (.nd s p a) i b
theorem LW(d:Bool)(a:Tr)(i:Nat)(b:Tr)(p:Nat)(s:Tr):(r6 d a i b p s).mem=kH d (a.mem++i :: b.mem) p s:=by
 cases d<;>simp[r6,kH,Tr.mem]
theorem aeC(d:Bool)(a:Tr)(i:Nat)(b:Tr)(p:Nat)(s:Tr):(r6 d a i b p s).root=i:=by cases d<;>rfl
theorem LD:∀ (c:Cx) (L:List Nat),L.length<=(mw c L).length
 | [],_=>zh _
 | (d,g,s) :: c,L=>kS (by cases d<;>simp[kH]<;>omega) (LD c _)
theorem To{t:Tr}(hi:i≠0/\i<xs.length)(ht:gR xs t i)(hs:gR xs s i)(a:jD xs d i=t.root)(h1:jD xs (!d) i=s.root)(c:(kH d t.mem i s).Nodup)(b:(kH d t.mem i s).length<=1000000) :
 pG xs (iU xs i) i/\gR (iU xs i) (nw d t i s) (cE xs i).up:=by
 cases d
 . exact Cb hi hs ht (by simpa[jD]using h1) (by simpa[jD]using a) c b
 . exact Cb hi ht hs (by simpa[jD]using a) (by simpa[jD]using h1) c b
structure Vx (xs ys:List Nd) (S:List Nat):Prop where
 kl:KL xs ys
 other:∀ j,j∉S->cE ys j=cE xs j
 flip:∀ j,(cE ys j).flip=(cE xs j).flip
theorem nq.lD(k:KL xs ys){c:Cx}{r a:Nat}(h:nq xs c r L q)(hs:∀ d g s c', c=(d,g,s) :: c' -> (∀ j∈s.mem++kB c', cE ys j=cE xs j)/\cE ys g=r8 d a (cE xs g)):nq ys c a L q:=by
 cases c with
 | nil=>trivial
 | cons f c' =>
  obtain⟨d,g,s⟩:=f
  obtain⟨b,e⟩:=hs d g s c' rfl
  exact h.xm k b e
theorem Ad{a:Tr}{c:Cx}(hR:gR xs (kK ((d,p,s) :: c) (.nd a i b)) q)(hn:(mw ((d,p,s) :: c) (a.mem++i :: b.mem)).Nodup)(a4:xs.length<=1000001)(aj:(mw ((d,p,s) :: c) (a.mem++i :: b.mem)).length<=1000000)(hq:c=[]->q=0\/jD xs true q≠p/\jD xs false q≠p) :
 gR (iR xs i) (kK c (r6 d a i b p s)) q/\Vx xs (iR xs i) (mw ((d,p,s) :: c) (a.mem++i :: b.mem)):=by
 obtain⟨hT,hC⟩:=(Ac _ _ _).1 hR
 obtain⟨⟨i0,il⟩,⟨av,aw,iu⟩,iv,ha,hb⟩:=hT
 simp only[xD]at iu
 obtain⟨⟨U,pl⟩,⟨pk,po,pu⟩,pv,hs,aa⟩:=hC
 simp only[Tr.root]at pk
 simp only[Tr.mem]at pv aa
 obtain⟨n1,n2,P⟩:=DP hn
 simp only[kB,pW,zu,zo,zj,ze,not_or]at n1 n2 P
 obtain⟨H,ns,nc,aY⟩:=n2
 obtain⟨na,⟨ay,nb⟩,ai⟩:=n1
 have J:i≠p:=(P i s_).1
 have an:i∉s.mem:=(P i s_).2.1
 have ab:i∉kB c:=(P i s_).2.2
 have ak:i∉a.mem:=fun h=>ai i h i (.inl rfl) rfl
 have aW:s.root≠i:=fun e=>by
  by_cases h:s.root=0
  . exact i0 (e.symm.trans h)
  . exact an (e▸hs.nS h)
 -- sides
 have aV:jV xs i=(sd d,true):=Ml iu U pk (by rw[po];exact aW)
 -- the parent's parent
 obtain⟨g,R⟩:∃ g,(cE xs p).up=g:=⟨_,rfl⟩
 have S:g=xD c q:=R.symm.trans pu
 -- the middle tree,and the outer one
 obtain⟨m,o,hm⟩:∃ m o:Tr,(m,o)=(bif d then(b,a)else(a,b)):=⟨_,_,rfl⟩
 have aK:gR xs m i/\gR xs o i/\jD xs (!d) i=m.root/\jD xs d i=o.root/\(∀ j,j∈m.mem\/j∈o.mem↔j∈a.mem\/j∈b.mem)/\i∉m.mem/\i∉o.mem/\m.mem.Nodup/\o.mem.Nodup/\∀ j∈m.mem,j∉o.mem:=by
  cases d<;>(simp only[cond_true,cond_false,Prod.mk.injEq]at hm;obtain⟨rfl,rfl⟩:=hm)
  . exact⟨ha,hb,by simpa[jD]using av,by simpa[jD]using aw,fun j=>Iff.rfl,ak,ay,na,nb,fun j n r=>ai j n j (.inr r) rfl⟩
  . exact⟨hb,ha,by simpa[jD]using aw,by simpa[jD]using av,fun j=>Or.comm,ay,ak,nb,na,fun j n r=>ai j r j (.inr n) rfl⟩
 obtain⟨G,aN,aq,aP,ao,am,aE,ad,a6,aL⟩:=aK
 have B:∀ j,j∈m.mem\/j∈o.mem->j≠p/\j∉s.mem/\j∉kB c:=fun j l=>by
  have:=P j (by rcases(ao j).1 l with h|h<;>simp[h])
  exact⟨this.1,this.2.1,this.2.2⟩
 have a5:m.root<xs.length:=G.Cd o_
 have ac:m.root≠i:=fun e=>am (e▸G.nS o_)
 have ae:m.root≠p:=fun e=>(B m.root (.inl (G.nS o_))).1 e
 -- the first step
 obtain⟨y1,F⟩:∃ y,y=(if (jV xs p).2=true then jj xs g (jV xs p).1 i else cO xs i (fun x=>{ x with up:=g })):=⟨_,rfl⟩
 have aX:y1.length=xs.length/\cE y1 i={ cE xs i with up:=g }/\(∀ j,j≠i->j∉kB c->cE y1 j=cE xs j)/\(∀ C v E c', c=(C, v, E) :: c' -> (∀ j,j≠i->j≠v -> cE y1 j=cE xs j)/\cE y1 v = r8 C i (cE xs v))/\(c=[]->∀ j,j≠i->cE y1 j=cE xs j):=by
  cases c with
  | nil =>
   have ag:jV xs p=(0,false):=TO (p:=q) (by rw[R,S];rfl) (hq rfl)
   rw[ag]at F
   simp only[Ig,if_false]at F
   subst F
   refine⟨gd,jQ il,fun j l _=>k6 (fun e=>l e.symm),?_,fun _ j l=>k6 (fun e=>l e.symm)⟩
   intro C v E c' e
   cases e
  | cons f c' =>
   obtain⟨C, v, E⟩:=f
   obtain⟨⟨g0,gl⟩,⟨gk,go,gu⟩,gv,gs,gc⟩:=aa
   simp only[kB,pW,ze,zj,not_or]at ab H
   have a7:p≠v := H.2.1
   have ag:jV xs p=(sd C, true):=Ml (p:=v) (by rw[R,S];rfl) g0 gk (by
    rw[go]
    intro e
    have hr:E.root≠0:=by rw[e];exact U
    exact H.2.2.1 (e▸gs.nS hr))
   rw[ag]at F
   simp only[if_true]at F
   have aD:g=v := S
   subst aD
   have al:i≠g:=ab.1
   subst F
   have Q:=Kk (xs:=xs) (d:=C) gl il al
   refine⟨Kl _ _ _ _,by rw[Q,if_neg al,if_pos ⟨rfl,i0⟩],fun j l aF=>?_,fun d2 g2 s2 c2 e=>?_,fun e=>by cases e⟩
   . rw[Q,if_neg (fun e=>aF (by simp[kB,e])),if_neg (fun e=>l e.1)]
   . cases e
     exact⟨fun j n r=>by rw[Q,if_neg r,if_neg (fun e=>n e.1)],by rw[Q,if_pos rfl]⟩
 obtain⟨l1,a1,o1,c1,e1⟩:=aX
 have az:p∉kB c:=H.2
 have aR:cE y1 p=cE xs p:=o1 p (fun e=>J e.symm) az
 have aG:(if sd d=0 then(cE y1 i).k1 else(cE y1 i).k0)=m.root:=by
  rw[a1]
  cases d
  . simp only[sd,cond_false,EI,if_false];simpa[jD]using aq
  . simp only[sd,cond_true,if_true];simpa[jD]using aq
 -- the second step
 obtain⟨y2,Y⟩:∃ y,y=jj y1 p (sd d) m.root:=⟨_,rfl⟩
 have oO:=Kk (xs:=y1) (i:=p) (k:=m.root) (d:=d) o_ o_ ae
 rw[<-Y]at oO
 have l2:y2.length=xs.length:=by rw[Y,Kl,l1]
 -- the third step
 obtain⟨u,Z⟩:∃ y,y=jj y2 i (sd (!d)) p:=⟨_,rfl⟩
 have oP:=Kk (xs:=y2) (i:=i) (k:=p) (d := !d) o_ o_ (fun e=>J e.symm)
 rw[<-Z]at oP
 have l3:u.length=xs.length:=by rw[Z,Kl,l2]
 have ar:iR xs i=iU (iU u p) i:=by
  have aU:1-sd d=sd (!d):=by cases d<;>rfl
  unfold iR
  simp only[aV,iu,R,<-F,aG,<-Y,aU,<-Z]
 -- the nodes before the refreshes
 have aZ:cE y2 i={ cE xs i with up:=g }:=by rw[oO,if_neg J,if_neg (fun e=>ac e.1.symm),a1]
 have a0:cE y2 p=r8 d m.root (cE xs p):=by rw[oO,if_pos rfl,aR]
 have a2:cE u i=r8 (!d) p { cE xs i with up:=g }:=by rw[oP,if_pos rfl,aZ]
 have X:cE u p={ r8 d m.root (cE xs p)with up:=i }:=by rw[oP,if_neg (fun e=>J e.symm),if_pos ⟨rfl,U⟩,a0]
 have aA:m.root≠0->cE u m.root={ cE xs m.root with up:=p }:=fun h=>by
  rw[oP,if_neg ac,if_neg (fun e=>ae e.1),oO,if_neg ae,if_pos ⟨rfl,h⟩,o1 _ ac (B _ (.inl (G.nS h))).2.2]
 have W:∀ j,j≠i->j≠p->(j≠m.root\/m.root=0)->cE u j=cE y1 j:=fun j n r w=>by
  rw[oP,if_neg n,if_neg (fun e=>r e.1),oO,if_neg r,if_neg (fun e=>by rcases w with w|w;exact w e.1;exact e.2 w)]
 have V:∀ j,j≠i->j≠p->(j≠m.root\/m.root=0)->j∉kB c->cE u j=cE xs j:=fun j n r w h4=>by rw[W j n r w,o1 j n h4]
 have M:∀ j,j∉m.mem->j≠m.root\/m.root=0:=fun j l=>by
  by_cases h:m.root=0
  . exact .inr h
  . exact .inl (fun e=>l (e▸G.nS h))
 have ah:∀ j,(cE u j).key=(cE xs j).key/\(cE u j).i7=(cE xs j).i7/\(cE u j).flip=(cE xs j).flip:=by
  have a3:∀ j,(cE y1 j).key=(cE xs j).key/\(cE y1 j).i7=(cE xs j).i7/\(cE y1 j).flip=(cE xs j).flip:=by
   intro j
   by_cases n:j=i
   . subst n;rw[a1];exact⟨rfl,rfl,rfl⟩
   . cases hc:c with
     | nil=>rw[e1 hc j n];exact⟨rfl,rfl,rfl⟩
     | cons f c' =>
      obtain⟨C, v, E⟩:=f
      grind [Mi,Mj,Mh]
  intro j
  by_cases n:j=i
  . grind [Mi,Mj,Mh]
  . by_cases r:j=p
    . subst r;rw[X];exact⟨Mi _ _ _,Mj _ _ _,Mh _ _ _⟩
    . by_cases w:j=m.root/\m.root≠0
      . obtain⟨rfl,w⟩:=w;rw[aA w];exact⟨rfl,rfl,rfl⟩
      . rw[W j n r (by by_cases h:m.root=0;exact .inr h;exact .inl (fun e=>w ⟨e,h⟩))];exact a3 j
 have O:KL xs u:=⟨l3,fun j=>(ah j).1,fun j=>(ah j).2.1⟩
 -- the trees before the refreshes
 have aJ:gR u m p:=by
  cases m with
  | nil=>trivial
  | nd ml mi mr =>
   refine G.up O (fun j l hr=>?_) (aA G.1.1) ad
   obtain⟨n,r,w⟩:=B j (.inl l)
   exact V j (fun e=>am (e▸l)) n (.inl hr) w
 have af:∀ j∈s.mem,j∉m.mem:=fun j l hm=>(B j (.inl hm)).2.1 l
 have aT:gR u s p:=hs.to O fun j l=>V j (fun e=>an (e▸l)) (fun e=>H.1 (e▸l)) (M j (af j l)) (fun h9=>aY j l j h9 rfl)
 have aO:gR u o i:=aN.to O fun j l=>V j (fun e=>aE (e▸l)) (B j (.inr l)).1 (M j (fun h=>aL j h l)) (B j (.inr l)).2.2
 have I:∀ j∈kB c,j≠i/\j≠p/\j∉m.mem:=fun j l=>⟨fun e=>ab (e▸l),fun e=>az (e▸l),fun h=>(B j (.inl h)).2.2 l⟩
 have aC:nq u c i (kH d (a.mem++i :: b.mem) p s) q:=by
  refine aa.lD O fun C v E c' e=>?_
  obtain⟨k1,k2⟩:=c1 C v E c' e
  subst e
  simp only[kB,pW,zu,zj,not_or]at nc I
  refine⟨fun j l=>?_,?_⟩
  . have K : j∈E.mem\/j∈kB c' := by simpa using l
    have h:=I j (by simp only[ze,zj];exact .inr K)
    rw[W j h.1 h.2.1 (M j h.2.2),k1 j h.1]
    rintro rfl
    rcases K with h' | h'
    . exact nc.1.1 h'
    . exact nc.1.2 h'
  . have h:=I v s_
    rw[W v h.1 h.2.1 (M v h.2.2),k2]
 -- the parent is refreshed
 have aI:(kH d m.mem p s).length<=1000000:=by
  refine kS ?_ aj
  refine kS ?_ (LD c (kH d (a.mem++i :: b.mem) p s))
  cases d<;>(simp only[cond_true,cond_false,Prod.mk.injEq]at hm;obtain⟨rfl,rfl⟩:=hm)<;>simp[kH]<;>omega
 have aH:(kH d (a.mem++i :: b.mem) p s).length<=1000000:=kS (LD c _) aj
 have aM:(kH d m.mem p s).Nodup:=by
  cases d
  . simp only[kH,cond_false,zo,zu]
    exact⟨ns,⟨fun h=>(B p (.inl h)).1 rfl,ad⟩,fun x N y A e=>by
     subst e
     rcases ze.1 A with rfl|A
     . exact H.1 N
     . exact af x N A⟩
  . simp only[kH,cond_true,zo,zu]
    exact⟨ad,⟨H.1,ns⟩,fun x N y A e=>by
     subst e
     rcases ze.1 A with rfl|A
     . exact(B _ (.inl N)).1 rfl
     . exact af x A N⟩
 obtain⟨D,hz⟩:=To (xs:=u) (d:=d) (i:=p) (t:=m) (s:=s) ⟨U,o_⟩ aJ aT (by rw[jD,X];cases d<;>rfl) (by rw[jD,X,<-po];cases d<;>rfl) aM aI
 rw[show (cE u p).up=i by rw[X]]at hz
 obtain⟨z,ez⟩:∃ z,z=iU u p:=⟨_,rfl⟩
 rw[<-ez]at D hz ar
 have lz:z.length=xs.length:=by rw[D.len,l3]
 have zi:cE z i=r8 (!d) p { cE xs i with up:=g }:=by rw[D.other i J,a2]
 have aQ:gR z o i:=aO.to D.kl fun j l=>D.other j (B j (.inr l)).1
 have aS:(nw d m p s).root=p:=Tw _ _ _ _
 have au:nw (!d) (nw d m p s) i o=r6 d a i b p s:=by
  cases d<;>(simp only[cond_true,cond_false,Prod.mk.injEq]at hm;obtain⟨rfl,rfl⟩:=hm)<;>rfl
 have ap:kH (!d) (nw d m p s).mem i o=kH d (a.mem++i :: b.mem) p s:=by rw[<-K6,au,LW]
 have aB:(kH d (a.mem++i :: b.mem) p s).Nodup:=(DP (c:=c) hn).1
 obtain⟨T,A⟩:=To (xs:=z) (d := !d) (i:=i) (t:=nw d m p s) (s:=o) ⟨i0,o_⟩ hz aQ (by rw[jD,zi,aS];cases d<;>rfl) (by rw[jD,zi,<-aP];cases d<;>rfl) (by rw[ap];exact aB) (by rw[ap];exact aH)
 rw[<-ar]at T A
 rw[au,show (cE z i).up=g by rw[zi,afb]]at A
 have o2:∀ j,j≠i->j≠p->cE (iR xs i) j=cE u j:=fun j n r=>by rw[T.other j n,D.other j r]
 have ax : KL u (iR xs i):=D.kl.trans T.kl
 refine⟨(Ac _ _ _).2 ⟨by rw[<-S];exact A,?_⟩,O.trans ax, fun j l=>?_,fun j=>?_⟩
 . rw[aeC,LW]
   exact aC.to ax fun j l=>o2 j (I j l).1 (I j l).2.1
 . have K : j∉kH d (a.mem++i :: b.mem) p s/\j∉kB c:=by
    have:=mt (DM (c:=c)).2 l
    simpa[not_or]using this
   have L:j≠i/\j≠p/\j∉m.mem:=by
    have n:=K.1
    have r:¬ (j∈a.mem\/j∈b.mem)/\j≠i/\j≠p:=by
     cases d<;>simp only[kH,cond_true,cond_false,zj,ze,not_or]at n<;>exact⟨by simp[n],by simp[n],by simp[n]⟩
    exact⟨r.2.1,r.2.2,fun h=>r.1 ((ao j).1 (.inl h))⟩
   rw[o2 j L.1 L.2.1,V j L.1 L.2.1 (M j L.2.2) K.2]
 . rw[T.flip,D.flip,(ah j).2.2]
def gp(xs:List Nd):Bool->Tr->List Nat
 | _,.nil=>[]
 | φ,.nd l i r=>bif (xor φ (cE xs i).flip)then gp xs (xor φ (cE xs i).flip) r++i :: gp xs (xor φ (cE xs i).flip) l else gp xs (xor φ (cE xs i).flip) l++i :: gp xs (xor φ (cE xs i).flip) r
theorem v7{xs ys:List Nd}:∀ {t:Tr} {φ:Bool},(∀ j∈t.mem,(cE ys j).flip=(cE xs j).flip)->gp ys φ t=gp xs φ t
 | .nil,_,_=>rfl
 | .nd l i r,φ,h=>by
  simp only[gp,h i (by simp[Tr.mem])]
  rw[v7 (t:=l) fun j a=>h j (by simp[Tr.mem,a]),v7 (t:=r) fun j a=>h j (by simp[Tr.mem,a])]
theorem TV{l r:Tr}(hi:(cE ys i).flip = !(cE xs i).flip)(h:∀ j∈l.mem++r.mem,(cE ys j).flip=(cE xs j).flip):gp ys d (.nd l i r)=gp xs (!d) (.nd l i r):=by
 grind [cE,gp,v7]
theorem pV(xs:List Nd):∀ (φ:Bool) (t:Tr),(gp xs φ t).Perm t.mem
 | _,.nil=>.nil
 | φ,.nd l i r=>by
  have a:=pV xs (xor φ (cE xs i).flip) l
  have b:=pV xs (xor φ (cE xs i).flip) r
  simp only[gp,Tr.mem]
  generalize xor φ (cE xs i).flip=ψ at a b ⊢
  cases ψ with
  | false =>
   simp only[cond_false]
   exact(a.append_right _).trans (List.Perm.append_left _ (b.cons i)) |>.trans (.refl _)
  | true =>
   simp only[cond_true]
   exact((b.append_right _).trans (List.Perm.append_left _ (a.cons i))).trans (qx.trans (by simp only[pW];exact sA.symm))
theorem afG{t t':Tr}{g:Nat}(ht:∀ ψ,gp ys ψ t' = gp xs ψ t)(h:∀ j∈g :: s.mem,(cE ys j).flip=(cE xs j).flip)(φ:Bool):gp ys φ (nw d t' g s)=gp xs φ (nw d t g s):=by
 grind [gp,v7,nw]
theorem Mn{xs ys:List Nd}:∀ {c:Cx} {t t' : Tr},(∀ ψ,gp ys ψ t' = gp xs ψ t)->(∀ j∈kB c,(cE ys j).flip=(cE xs j).flip)->∀ φ,gp ys φ (kK c t')=gp xs φ (kK c t)
 | [],_,_,h,_,φ=>h φ
 | (d,g,s) :: c,t,t', h,hc,φ=>by
  simp only[kK]
  exact Mn (c:=c) (fun ψ=>afG h (fun j a=>hc j (by simp only[kB,zj];exact .inl a)) ψ) (fun j a=>hc j (by simp only[kB,zj];exact .inr a)) φ
theorem afH{a:Tr}(hi:(cE xs i).flip=false)(hp:(cE xs p).flip=false)(φ:Bool):gp xs φ (r6 d a i b p s)=gp xs φ (nw d (.nd a i b) p s):=by
 grind [r6,nw,gp]
theorem gR.HF(w:ys.length=xs.length):∀ {t:Tr} {p:Nat},gR xs t p->(∀ j∈t.mem,∃ f,cE ys j={ cE xs j with flip:=f })->gR ys t p:=by
 have key:∀ {t:Tr} {p:Nat} (L:List Nat),gR xs t p->(∀ j∈t.mem,∃ f,cE ys j={ cE xs j with flip:=f })->gR ys t p:=by
  intro t
  induction t with
  | nil=>intro p L _ _;trivial
  | nd l i r q s =>
   intro p L h hs
   obtain⟨⟨d,v⟩,⟨g,k,m⟩,b,n,o⟩:=h
   obtain⟨f,hi⟩:=hs i (by simp[Tr.mem])
   have c:∀ j∈l.mem++i :: r.mem,(cE ys j).key=(cE xs j).key/\(cE ys j).i7=(cE xs j).i7:=fun j a=>by
    obtain⟨u, e⟩:=hs j a
    rw[e];exact⟨rfl,rfl⟩
   refine⟨⟨d,o_⟩,⟨by rw[hi];exact g,by rw[hi];exact k,by rw[hi];exact m⟩,⟨by rw[hi];exact b.size,?_,?_⟩,q L n fun j a=>hs j (by simp[Tr.mem,a]),s L o fun j a=>hs j (by simp[Tr.mem,a])⟩
   . rw[hi,show o8 ys (l.mem++i :: r.mem)=o8 xs (l.mem++i :: r.mem) from congrArg List.sum (wB fun j a=>by rw[(c j a).2])]
     exact b.total
   . rw[hi]
     refine⟨b.first.1,fun j a=>?_⟩
     rcases b.first.2 j a with e|e
     . exact .inl e
     . refine .inr ?_
       rw[<-e]
       simp only[mj,(c j a).1,(c _ b.first.1).1]
 intro t p h hs
 exact key [] h hs
theorem LG{l r:Tr}(h:gR xs (.nd l i r) p)(D:(Tr.nd l i r).mem.Nodup) :
 ∃ l' u, ((l' = l/\u = r)\/(l' = r/\u = l))/\gR (kL xs i) (.nd l' i u) p/\(cE (kL xs i) i).flip=false/\KL xs (kL xs i)/\(∀ j,j∉(Tr.nd l i r).mem->cE (kL xs i) j=cE xs j)/\∀ φ,gp (kL xs i) φ (.nd l' i u)=gp xs φ (.nd l i r):=by
 cases hf:(cE xs i).flip with
 | false =>
  have e:kL xs i=xs:=by unfold kL;rw[hf];rfl
  rw[e]
  exact⟨l,r,.inl ⟨rfl,rfl⟩,h,hf,KL.refl _,fun _ _=>rfl,fun _=>rfl⟩
 | true =>
  obtain⟨⟨i0,il⟩,⟨k0,k1,up⟩,v,m,n⟩:=h
  simp only[Tr.mem]at D
  rw[zo,zu]at D
  obtain⟨n1,⟨F,T⟩,J⟩:=D
  have G:i∉l.mem:=fun h=>J i h i s_ rfl
  have C:∀ j∈l.mem,j∉r.mem:=fun j q L=>J j q j (by simp[L]) rfl
  have W:l.root≠i:=fun e=>G (e▸m.nS o_)
  have Z:r.root≠i:=fun e=>F (e▸n.nS o_)
  have X:=m.Cd (show 0<xs.length by omega)
  have aa:=n.Cd (show 0<xs.length by omega)
  have Y:l.root≠0->l.root≠r.root:=fun d e=>C _ (m.nS d) (e▸n.nS (e▸d))
  obtain⟨ys,H⟩:∃ ys,ys=kL xs i:=⟨_,rfl⟩
  have B:ys.length=xs.length:=by
   rw[H];unfold kL;rw[if_pos hf];simp only;split<;>split<;>simp[gd]
  have N:cE ys i={ cE xs i with flip:=false,k0:=r.root,k1:=l.root }/\(∀ j,j≠i->cE ys j=if (j=l.root\/j=r.root)/\j≠0 then { cE xs j with flip := !(cE xs j).flip } else cE xs j):=by
   obtain⟨y0,V⟩:∃ y,y=cO xs i (fun x=>{ x with flip:=false }):=⟨_,rfl⟩
   grind [cO,cE,gd,jQ,k6,kL,jH]
  obtain⟨g,o⟩:=N
  have s:∀ j,j≠i->∃ f,cE ys j={ cE xs j with flip:=f }:=fun j c=>by
   rw[o j c];split
   . exact⟨_,rfl⟩
   . exact⟨(cE xs j).flip,rfl⟩
  have kl:KL xs ys:=by
   refine⟨B,fun j=>?_,fun j=>?_⟩<;>(by_cases c:j=i)
   . subst c;rw[g]
   . obtain⟨f,e⟩:=s j c;rw[e]
   . subst c;rw[g]
   . obtain⟨f,e⟩:=s j c;rw[e]
  have Q : gR ys l i:=m.HF B fun j c=>s j (fun e=>G (e▸c))
  have E : gR ys r i:=n.HF B fun j c=>s j (fun e=>F (e▸c))
  rw[<-H]
  have K:∀ (t:Tr),(t=l\/t=r)->gR xs t i->t.mem.Nodup->(∀ j∈t.mem,j≠i)->(∀ j∈t.mem,j≠t.root->j≠l.root/\j≠r.root)->∀ φ,gp ys φ t=gp xs (!φ) t:=by
   intro t ht M z w I φ
   cases t with
   | nil=>rfl
   | nd a k b =>
    simp only[Tr.mem]at z w I
    rw[zo,zu]at z
    obtain⟨m1,⟨R,m3⟩,S⟩:=z
    refine TV ?_ fun j c=>?_
    . rw[o k (w k s_),if_pos ⟨by rcases ht with e|e<;>rw[<-e]<;>simp[Tr.root],M.1.1⟩]
    . have A : j∈a.mem\/j∈b.mem:=by simpa using c
      have P:j≠k:=by rintro rfl;rcases A with h|h;exact S j h j s_ rfl;exact R h
      have q:=I j (by simp only[zj,ze];rcases A with h|h<;>simp[h]) P
      rw[o j (w j (by simp only[zj,ze];rcases A with h|h<;>simp[h])),if_neg (by rintro⟨e|e,_⟩;exact q.1 e;exact q.2 e)]
  have sl:=K l (.inl rfl) m n1 (fun j c e=>G (e▸c)) (fun j c O=>⟨O,fun e=>by
   by_cases d:r.root=0
   . exact(m.rm j c).1 (e.trans d)
   . exact C j c (e▸n.nS d)⟩)
  have U:=K r (.inr rfl) n T (fun j c e=>F (e▸c)) (fun j c E => ⟨fun e=>by
   by_cases d:l.root=0
   . exact(n.rm j c).1 (e.trans d)
   . exact C j (e▸m.nS d) c,E⟩)
  refine⟨r,l,.inr ⟨rfl,rfl⟩,⟨⟨i0,o_⟩,⟨by rw[g],by rw[g],by rw[g];exact up⟩,?_,E, Q⟩,by rw[g],kl,fun j c=>?_,fun φ=>?_⟩
  . have v' : qF ys i (l.mem++i :: r.mem):=v.to kl (by rw[g]) (by rw[g]) (by rw[g])
    exact v'.perm (qx.trans (by simp only[pW];exact sA.symm))
  . simp only[Tr.mem,zj,ze,not_or]at c
    rw[o j c.2.1,if_neg]
    rintro⟨e|e,d⟩
    . exact c.1 (e▸m.nS (e▸d))
    . exact c.2.2 (e▸n.nS (e▸d))
  . simp only[gp,hf,g,sl,U]
    cases φ<;>simp
theorem nq.perm{xs:List Nd}:∀ {c:Cx} {r q:Nat} {L M:List Nat},nq xs c r L q->L.Perm M->nq xs c r M q
 | [],_,_,_,_,_,_=>trivial
 | (d,g,s) :: c,r,q,L,M,h,hp=>by
  obtain⟨b,e,f,i,j⟩:=h
  have a:(kH d L g s).Perm (kH d M g s):=by
   cases d
   . exact List.Perm.append_left _ (hp.cons g)
   . exact hp.append_right _
  exact⟨b,e,f.perm a,i,nq.perm j a⟩
theorem S5:∀ {c:Cx} {L M:List Nat},L.Perm M->(mw c L).Perm (mw c M)
 | [],_,_,h=>h
 | (d,g,s) :: c,L,M,h=>by
  refine S5 (c:=c) ?_
  cases d
  . exact List.Perm.append_left _ (h.cons g)
  . exact h.append_right _
theorem K7:∀ {c:Cx} {f:Bool×Nat×Tr},f∈c->f.2.1∈kB c
 | [],_,h=>by simp at h
 | (d,g,s) :: c,f,h=>by
  simp only[kB,zj,ze]
  rcases ze.1 h with rfl|h
  . exact .inl (.inl rfl)
  . exact .inr (K7 h)
theorem LF:∀ (c c' : Cx) (t:Tr),kK (c++c') t=kK c' (kK c t)
 | [],_,_=>rfl
 | (d,g,s) :: c,c', t=>by simp only[pW,kK];exact LF c c' _
theorem GI{i:Nat}:∀ {t:Tr},i∈t.mem->∃ c a b,t=kK c (.nd a i b)
 | .nil,h=>by simp[Tr.mem]at h
 | .nd l j r,h=>by
  simp only[Tr.mem,zj,ze]at h
  rcases h with h|rfl|h
  . obtain⟨c,a,b,e⟩:=GI h
    exact⟨c++[(true,j,r)],a,b,by rw[LF,<-e];rfl⟩
  . exact⟨[],l,r,rfl⟩
  . obtain⟨c,a,b,e⟩:=GI h
    exact⟨c++[(false,j,l)],a,b,by rw[LF,<-e];rfl⟩
def jE(c:Cx)(i:Nat):List Nat:=i :: c.map (fun f=>f.2.1)
def Way(i:Nat):Tr->List Nat->Prop
 | .nil,_=>False
 | .nd l j r,w=>(j=i/\w=[i])\/∃ w', w=j :: w' /\ (Way i l w' \/ Way i r w')
theorem U6{i:Nat}:∀ {c:Cx} {t:Tr} {w:List Nat},Way i t w->Way i (kK c t) ((c.map (fun f=>f.2.1)).reverse++w)
 | [],_,_,h=>h
 | (d,g,s) :: c,t,w,h=>by
  have:Way i (nw d t g s) (g :: w):=by cases d<;>simp only[nw,cond_true,cond_false,Way];exact .inr ⟨w,rfl,.inr h⟩;exact .inr ⟨w,rfl,.inl h⟩
  have:=U6 (c:=c) this
  simpa[kK]using this
theorem ahw(c:Cx)(a:Tr)(i:Nat)(b:Tr):Way i (kK c (.nd a i b)) (jE c i).reverse:=by
 have:=U6 (c:=c) (t:=.nd a i b) (w:=[i]) (.inl ⟨rfl,rfl⟩)
 simpa[jE]using this
structure At (xs:List Nd) (c:Cx) (j:Nat) (L:List Nat) (q:Nat):Prop where
 rep:nq xs c j L q
 up:(cE xs j).up=xD c q
 mem:j∈L
 nodup:(mw c L).Nodup
 ne:j≠0
 lt:j<xs.length
def Out(xs:List Nd)(q:Nat)(L:List Nat):Prop:=q=0\/jD xs true q∉L/\jD xs false q∉L/\q∉L
theorem At.start{c:Cx}{a:Tr}(h:gR xs (kK c (.nd a i b)) q)(f:(kK c (.nd a i b)).mem.Nodup):At xs c i (Tr.nd a i b).mem q:=by
 obtain⟨d,e⟩:=(Ac _ _ _).1 h
 exact⟨e,d.2.1.2.2,by simp[Tr.mem],by rw[<-qM];exact f,d.1.1,d.1.2⟩
theorem At.step{g:Nat}{s:Tr}{c:Cx}{j q:Nat}{L:List Nat}(h:At xs ((d,g,s) :: c) j L q):jV xs j=(sd d,true)/\(cE xs j).up=g/\At xs c g (kH d L g s) q:=by
 obtain⟨⟨a,k⟩,⟨i,go,m⟩,t,l,f⟩:=h.rep
 have b:=h.nodup
 obtain⟨n1,u,r⟩:=DP b
 have o:s.root≠j:=fun e=>by
  have n:s.root≠0:=by rw[e];exact h.ne
  exact r j h.mem (by simp only[kB,zj,ze];exact .inl (.inr (e▸l.nS n)))
 refine⟨Ml (p:=g) h.up a i (by rw[go];exact o),h.up,f,m,by cases d<;>simp[kH],b,a,k⟩
theorem At.stop(h:At xs [] j L q)(c:Out xs q L):jV xs j=(0,false) :=
 TO h.up (by
  rcases c with e|⟨a,b,_⟩
  . exact .inl e
  . exact .inr ⟨fun e=>a (e▸h.mem),fun e=>b (e▸h.mem)⟩)
structure jY (xs0 xs:List Nd) (T0:Tr) (O:Cx) (U:Tr) (q:Nat):Prop where
 rep:gR xs (kK O U) q
 perm:(kK O U).mem.Perm T0.mem
 ord:∀ φ,gp xs φ (kK O U)=gp xs0 φ T0
 kl:KL xs0 xs
 other:∀ j,j∉T0.mem->cE xs j=cE xs0 j
 flip:∀ f∈O,(cE xs f.2.1).flip=false
theorem jY.start(h:gR xs T q):jY xs xs T [] T q:=⟨h,.refl _,fun _=>rfl,KL.refl _,fun _ _=>rfl,s_⟩
theorem jY.nodup{c:List Nd}{a:Tr}(h:jY c xs a O U q)(b:a.mem.Nodup):(mw O U.mem).Nodup:=by rw[<-qM];exact(h.perm.nodup_iff).2 b
theorem jY.push{o:List Nd}{c l r:Tr}(h:jY o xs c O (.nd l j r) q)(v:c.mem.Nodup) :
 ∃ l' a, ((l' = l/\a = r)\/(l' = r/\a = l))/\jY o (kL xs j) c O (.nd l' j a) q/\(cE (kL xs j) j).flip=false:=by
 have w:=h.nodup v
 obtain⟨x,z,y⟩:=DP w
 obtain⟨t,p⟩:=(Ac _ _ _).1 h.rep
 obtain⟨l', a, g,s,u,e,m,hs⟩:=LG t x
 have i:(Tr.nd l' j a).mem.Perm (Tr.nd l j r).mem:=by
  rcases g with ⟨rfl,rfl⟩|⟨rfl,rfl⟩
  . exact .refl _
  . simp only[Tr.mem]
    grind
 have n:∀ k∈kB O,cE (kL xs j) k=cE xs k:=fun k b => m k fun hm=>y k hm b
 refine⟨l', a, g,⟨(Ac _ _ _).2 ⟨s,?_⟩,?_,fun φ=>?_,h.kl.trans e,fun k b => ?_,fun f d => ?_⟩,u⟩
 . exact(p.to e n).perm i.symm
 . refine List.Perm.trans ?_ h.perm
   rw[qM,qM]
   exact S5 i
 . rw[<-h.ord φ]
   grind [Mn]
 . rw[m k ?_,h.other k b]
   intro hm
   exact b (h.perm.mem_iff.1 (by rw[qM];exact DM.2 (.inl hm)))
 . rw[n f.2.1 (K7 d)]
   exact h.flip f d
theorem jY.rotate{m:List Nd}{g a:Tr}{c:Cx}(h:jY m xs g ((d,p,s) :: c) (.nd a i b) q)(y:g.mem.Nodup)(w:xs.length<=1000001)(D:g.mem.length<=1000000)(C:Out m q g.mem)(hi:(cE xs i).flip=false):jY m (iR xs i) g c (r6 d a i b p s) q/\∀ j,(cE (iR xs i) j).flip=(cE xs j).flip:=by
 have z:=h.nodup y
 have B:p∈g.mem:=h.perm.mem_iff.1 (by rw[qM];exact DM.2 (.inr (by simp[kB])))
 have E:(mw ((d,p,s) :: c) (a.mem++i :: b.mem)).length=g.mem.length:=by
  have:=h.perm.length_eq
  rw[qM]at this
  exact this
 obtain⟨u,l⟩:=Ad h.rep z w o_ (fun _=>by
  rcases C with e|⟨o,r,t⟩
  . exact .inl e
  . have e:cE xs q=cE m q:=h.other q t
    refine .inr ⟨fun e' => o ?_,fun e' => r ?_⟩
    . grind [jD]
    . rw[jD,e]at e'; rw[jD,e'];exact B)
 have A:=h.flip (d,p,s) s_
 have x:(kK c (r6 d a i b p s)).mem=(kK ((d,p,s) :: c) (.nd a i b)).mem:=by
  rw[qM,qM,LW];rfl
 refine⟨⟨u,by rw[x];exact h.perm,fun φ=>?_,h.kl.trans l.kl,fun k n=>?_,fun f v=>?_⟩,l.flip⟩
 . rw[<-h.ord φ]
   have e1:gp (iR xs i) φ (kK c (r6 d a i b p s))=gp xs φ (kK c (r6 d a i b p s)):=v7 fun j _=>l.flip j
   rw[e1]
   exact Mn (c:=c) (fun ψ=>afH hi A ψ) (fun _ _=>rfl) φ
 . rw[l.other k ?_,h.other k n]
   intro hm
   refine n (h.perm.mem_iff.1 ?_)
   rw[qM]
   exact hm
 . rw[l.flip]
   exact h.flip f (by simp[v])
theorem ah5(d:Bool)(a:Tr)(i:Nat)(b:Tr)(p:Nat)(s:Tr)(g:Nat)(s':Tr) :
 r6 d (bif d then .nd a i b else s) p (bif d then s else .nd a i b) g s' = nw d (.nd a i b) p (bif d then .nd s g s' else .nd s' g s):=by
 cases d<;>rfl
theorem acL(d:Bool)(t:Tr)(p:Nat)(s:Tr):nw d t p s = .nd (bif d then t else s) p (bif d then s else t):=by cases d<;>rfl
theorem G5(d:Bool)(a:Tr)(i:Nat)(b:Tr)(p:Nat)(s:Tr):r6 d a i b p s = .nd (bif d then a else .nd s p a) i (bif d then .nd b p s else b):=by cases d<;>rfl
theorem jY.ah4{l:List Nd}{j a s':Tr}{c:Cx}{g:Nat}(h:jY l xs j ((d,p,s) :: (d,g,s') :: c) (.nd a i b) q)(r:j.mem.Nodup)(o:xs.length<=1000001)(n:j.mem.length<=1000000)(t:Out l q j.mem)(hi:(cE xs i).flip=false):∃ a' u, jY l (iR (iR xs p) i) j c (.nd a' i u) q/\(cE (iR (iR xs p) i) i).flip=false:=by
 have v:jY l xs j ((d,g,s') :: c) (.nd (bif d then .nd a i b else s) p (bif d then s else .nd a i b)) q:=by
  rw[<-acL]
  exact⟨h.rep,h.perm,h.ord,h.kl,h.other,fun f k=>h.flip f (zx _ k)⟩
 obtain⟨e,m⟩:=v.rotate r o n t (h.flip (d,p,s) s_)
 rw[ah5]at e
 have w:jY l (iR xs p) j ((d,p,(bif d then .nd s g s' else .nd s' g s)) :: c) (.nd a i b) q :=
  ⟨e.rep,e.perm,e.ord,e.kl,e.other,fun f k=>by
   rcases ze.1 k with rfl|k
   . rw[m];exact h.flip (d,p,s) s_
   . exact e.flip f k⟩
 obtain⟨y,x⟩:=w.rotate r (by rw[e.kl.len,<-h.kl.len];exact o) n t (by rw[m];exact hi)
 grind [G5]
theorem jY.ah3{j:List Nd}{e a s':Tr}{r:Bool}{c:Cx}{g:Nat}(h:jY j xs e ((d,p,s) :: (r, g,s') :: c) (.nd a i b) q)(m:e.mem.Nodup)(l:xs.length<=1000001)(k:e.mem.length<=1000000)(n:Out j q e.mem)(hi:(cE xs i).flip=false):∃ a' o, jY j (iR (iR xs i) i) e c (.nd a' i o) q/\(cE (iR (iR xs i) i) i).flip=false:=by
 obtain⟨f,t⟩:=h.rotate m l k n hi
 rw[G5]at f
 obtain⟨v,u⟩:=f.rotate m (by rw[f.kl.len,<-h.kl.len];exact l) k n (by rw[t];exact hi)
 grind [G5]
theorem jY.zig{e:List Nd}{c a:Tr}(h:jY e xs c [(d,p,s)] (.nd a i b) q)(k:c.mem.Nodup)(j:xs.length<=1000001)(g:c.mem.length<=1000000)(l:Out e q c.mem)(hi:(cE xs i).flip=false):∃ a' f, jY e (iR xs i) c [] (.nd a' i f) q/\(cE (iR xs i) i).flip=false:=by
 obtain⟨n,m⟩:=h.rotate k j g l hi
 grind [G5]
def oE(s:List Nat)(q v u:Nat):Prop:=∃ s1 s2,s=s1++v :: s2/\u=s1.getLast?.getD q
theorem Ly{v u:Nat}:¬ oE [] q v u:=by
 rintro⟨s1,s2,h,_⟩;simp at h
theorem uY{x:Nat}{s:List Nat}{v u:Nat}:oE (x :: s) q v u↔(v=x/\u=q)\/oE s x v u:=by
 constructor
 . rintro⟨s1,s2,h,rfl⟩
   cases s1 with
   | nil=>simp at h;exact .inl ⟨h.1.symm,rfl⟩
   | cons y s1 =>
    simp only[pW,List.cons.injEq]at h
    obtain⟨rfl,rfl⟩:=h
    refine .inr ⟨s1,s2,rfl,?_⟩
    rw[Ii];simp
 . rintro(⟨rfl,rfl⟩|⟨s1,s2,rfl,rfl⟩)
   . exact⟨[],s,rfl,rfl⟩
   . refine⟨x :: s1,s2,rfl,?_⟩
     rw[Ii];simp
theorem SF{s t:List Nat}{v u:Nat}:oE (s++t) q v u↔oE s q v u\/oE t (s.getLast?.getD q) v u:=by
 induction s generalizing q with
 | nil=>simp[Ly]
 | cons x s a =>
  grind [uY]
theorem xE{s:List Nat}{v u:Nat}(h:oE s q v u):v∈s:=by
 obtain⟨s1,s2,rfl,_⟩:=h;simp
theorem ac6{s:List Nat}{v u c:Nat}(b:s.Nodup)(h:oE s q v u)(d:oE s q v c):u=c := by
 induction s generalizing q with
 | nil=>exact absurd h Ly
 | cons x s g =>
  rw[zu]at b
  rcases uY.1 h with ⟨rfl,rfl⟩|e<;>rcases uY.1 d with ⟨a,f⟩|a
  . exact f.symm
  . exact absurd (xE a) b.1
  . grind [xE]
  . exact g b.2 e a
abbrev wJ:=List (List Nat×Nat)
def gZ(S:wJ)(v u:Nat):Prop:=∃ e∈S,oE e.1 e.2 v u
def zU(S:wJ):List Nat:=S.flatMap (·.1)
variable{S:wJ}
theorem gZ.perm{c:wJ}(h:S.Perm c){v u:Nat}:gZ S v u↔gZ c v u :=
 ⟨fun⟨e,b,a⟩=>⟨e,h.mem_iff.1 b,a⟩,fun⟨e,b,a⟩=>⟨e,h.mem_iff.2 b,a⟩⟩
theorem gZ.cons{e:List Nat×Nat}{v u:Nat}:gZ (e :: S) v u↔oE e.1 e.2 v u\/gZ S v u:=by
 grind [gZ]
theorem um(c:(zU S).Nodup){v u d:Nat}(h:gZ S v u)(g:gZ S v d):u=d := by
 induction S with
 | nil=>obtain⟨e,i,_⟩:=h;simp at i
 | cons e S k =>
  simp only[zU,zz,zo]at c
  obtain⟨n1,l,n⟩:=c
  have m:∀ {w},gZ S v w->v∈S.flatMap (·.1):=fun⟨f,j,hp⟩=>qw.2 ⟨f,j,xE hp⟩
  rcases gZ.cons.1 h with a|a<;>rcases gZ.cons.1 g with b|b
  . exact ac6 n1 a b
  . grind [xE]
  . grind [xE]
  . exact k l a b
inductive PR (P:Nat->Nat->Prop):Nat->Nat->Prop where
 | top {v:Nat} (h:P v 0):PR P v v
 | step {v u r:Nat} (h:P v u) (h0:u≠0) (k:PR P u r):PR P v r
theorem PR.mono{Q:Nat->Nat->Prop}(h:∀ v u,P v u->Q v u){v r:Nat}(k:PR P v r):PR Q v r:=by
 induction k with
 | top hp=>exact .top (h _ _ hp)
 | step hp a _ b=>exact .step (h _ _ hp) a b
theorem PR.unique(c:∀ v u f, P v u->P v f -> u=f){v r e:Nat}(k:PR P v r)(k':PR P v e):r=e := by
 induction k with
 | top hp =>
  cases k' with
  | top _=>rfl
  | step a b _=>exact absurd (c _ _ _ a hp) b
 | step hp b _ g =>
  cases k' with
  | top a => exact absurd (c _ _ _ hp a) b
  | step a _ d=>rw[c _ _ _ a hp]at d;exact g d
theorem PR.root{v r:Nat}(k:PR P v r):P r 0:=by
 induction k with
 | top h=>exact h
 | step _ _ _ a=>exact a
theorem PR.Gg{s:List Nat}:∀ {q v h:Nat},s.head? = some h->(∀ x∈s,x≠0)->(∀ v u,oE s q v u->P v u)->v∈s->(q=0->PR P v h)/\(∀ r,q≠0->PR P q r->PR P v r):=by
 induction s with
 | nil=>intro q v h a;simp at a
 | cons x s i =>
  intro q v h a c f hv
  simp only[List.head?_cons,Option.some.injEq]at a
  subst a
  have b:P x q:=f _ _ (uY.2 (.inl ⟨rfl,rfl⟩))
  rcases ze.1 hv with rfl|hv
  . exact⟨fun e=>.top (e▸b),fun r d k=>.step b d k⟩
  . cases s with
    | nil=>simp at hv
    | cons y s =>
     have:=(i (q:=x) (v:=v) (h:=y) rfl (fun z g=>c z (zx _ g)) (fun v u hp=>f _ _ (uY.2 (.inr hp))) hv).2
     exact⟨fun e=>this x (c x s_) (.top (e▸b)),fun r d k=>this r (c x s_) (.step b d k)⟩
abbrev FT:=List (Tr×Nat)
def kj(F:FT):List Nat:=F.flatMap fun e=>e.1.mem
def gY(xs:List Nd)(F:FT):wJ:=F.map fun e=>(gp xs false e.1,e.2)
structure Fo (xs:List Nd) (F:FT):Prop where
 rep:∀ e∈F,gR xs e.1 e.2
 ne:∀ e∈F,e.1.root≠0
 nodup:(kj F).Nodup
 all:∀ j,j≠0->j<xs.length->j∈kj F
 par:∀ e∈F,e.2<xs.length
 uo:∃ ρ:Nat->Nat,(∀ e∈F,∀ i∈e.1.mem,∀ j∈e.1.mem,ρ i=ρ j)/\∀ e∈F,e.2≠0->∀ i∈e.1.mem,ρ i<ρ e.2
 zero:(cE xs 0).k0=0/\(cE xs 0).k1=0/\(cE xs 0).total=0
 pos:0<xs.length
 len:xs.length<=1000001
theorem SJ{α β:Type}{l l':List α}(h:l.Perm l')(f:α->List β):(l.flatMap f).Perm (l'.flatMap f):=by
 induction h with
 | nil=>exact .nil
 | cons x _ a=>simp only[zz];exact a.append_left _
 | swap x y l =>
  simp only[zz,<-z6]
  exact qx.append_right _
 | trans _ _ b c=>exact b.trans c
variable{R F:FT}
theorem Fo.perm{b:FT}(h:Fo xs F)(hp:F.Perm b):Fo xs b := by
 have c:(kj F).Perm (kj b):=SJ hp _
 obtain⟨ρ,f,g⟩:=h.uo
 exact⟨fun e a=>h.rep e (hp.mem_iff.2 a),fun e a=>h.ne e (hp.mem_iff.2 a),c.nodup_iff.1 h.nodup,fun j d i=>c.mem_iff.1 (h.all j d i),fun e a=>h.par e (hp.mem_iff.2 a),
  ⟨ρ,fun e a=>f e (hp.mem_iff.2 a),fun e a=>g e (hp.mem_iff.2 a)⟩,h.zero,h.pos,h.len⟩
theorem pQ{e:Tr×Nat}(a:e∈F)(b:j∈e.1.mem):j∈kj F:=qw.2 ⟨e,a,b⟩
theorem Fo.split(h:Fo xs ((T,q) :: R)):T.mem.Nodup/\(kj R).Nodup/\∀ j∈T.mem,j∉kj R:=by
 have a:=h.nodup
 grind [kj]
theorem nodup_lt_length:∀ (n:Nat) (L:List Nat),L.Nodup->(∀ j∈L,j<n)->L.length<=n
 | 0,L,_,h=>by
  cases L with
  | nil=>simp
  | cons x L=>exact absurd (h x s_) o_
 | n+1,L,hn,h=>by
  have f:=nodup_lt_length n (L.erase n) (hn.erase n) (fun j b=>by
   have c:=h j (List.mem_of_mem_erase b)
   have d:j≠n:=fun e=>by subst e;exact(List.Nodup.not_mem_erase hn) b
   omega)
  have c:=List.length_erase_le (a:=n) (l:=L)
  have d:L.length<=(L.erase n).length+1:=by
   rw[List.length_erase];split<;>omega
  omega
theorem Fo.count(h:Fo xs ((T,q) :: R)):T.mem.length<=1000000:=by
 have c:=nodup_lt_length xs.length (0 :: T.mem) (by
  rw[zu]
  exact⟨fun b=>((h.rep (T,q) s_).rm 0 b).1 rfl,h.split.1⟩) (fun j a=>by
  rcases ze.1 a with rfl|a
  . exact h.pos
  . exact((h.rep (T,q) s_).rm j a).2)
 have:=h.len
 simp only[zb]at c
 omega
theorem gR.KG{xs:List Nd}{d:Bool}:∀ {t:Tr} {p j:Nat},gR xs t p->j∈t.mem->jD xs d j=0\/jD xs d j∈t.mem
 | .nil,_,_,_,a=>by simp[Tr.mem]at a
 | .nd l i r,p,j,h,a=>by
  obtain⟨_,⟨f,g,_⟩,_,b,c⟩:=h
  simp only[Tr.mem,zj,ze]at a ⊢
  rcases a with a|rfl|a
  . rcases gR.KG b a with e|e
    . exact .inl e
    . exact .inr (.inl e)
  . cases d
    . simp only[jD,cond_false,g]
      by_cases e:r.root=0
      . exact .inl e
      . exact .inr (.inr (.inr (c.nS e)))
    . simp only[jD,cond_true,f]
      by_cases e:l.root=0
      . exact .inl e
      . exact .inr (.inl (b.nS e))
  . rcases gR.KG c a with e|e
    . exact .inl e
    . exact .inr (.inr (.inr e))
theorem Fo.out(h:Fo xs ((T,q) :: R)):Out xs q T.mem:=by
 by_cases hq:q=0
 . exact .inl hq
 . obtain⟨ρ,l,j⟩:=h.uo
   have g:q∉T.mem:=fun hm=>by
    have:=j (T,q) s_ hq q hm
    simp at this
   have b:=h.all q hq (h.par (T,q) s_)
   simp only[kj,zz,zj]at b
   rcases b with hm|hm
   . exact absurd hm g
   . obtain⟨e,c,hm⟩:=qw.1 hm
     have k:0∉T.mem:=fun i=>((h.rep (T,q) s_).rm 0 i).1 rfl
     have key:∀ d,jD xs d q∉T.mem:=fun d f=>by
      rcases gR.KG (d:=d) (h.rep e (by simp[c])) hm with a|a
      . exact k (a▸f)
      . exact h.split.2.2 _ f (pQ c a)
     exact .inr ⟨key true,key false,g⟩
theorem gR.tv(b:ys.length=xs.length){t:Tr}(h:gR xs t p)(hs:∀ j∈t.mem,cE ys j=cE xs j):gR ys t p :=
 h.HF b fun j a=>⟨(cE xs j).flip,by rw[hs j a]⟩
theorem Mp{t:Tr}(hs:∀ j∈t.mem,cE ys j=cE xs j):gp ys d t=gp xs d t:=v7 fun j a=>by rw[hs j a]
theorem Md(hs:∀ j∈kj F,cE ys j=cE xs j):gY ys F=gY xs F:=by
 unfold gY
 refine wB fun e a=>?_
 rw[Mp fun j b=>hs j (pQ a b)]
theorem Fo.TS(h:Fo xs ((T,q) :: R))(m:jY xs ys T [] U q):Fo ys ((U,q) :: R)/\gY ys ((U,q) :: R)=gY xs ((T,q) :: R)/\(∀ e∈R,∀ j∈e.1.mem,cE ys j=cE xs j):=by
 obtain⟨n1,v,u⟩:=h.split
 have d:=m.kl.len
 have hp:U.mem.Perm T.mem:=m.perm
 have f:∀ j∈kj R,cE ys j=cE xs j:=fun j b=>m.other j fun ht=>u j ht b
 have s:0∉T.mem:=fun c=>((h.rep (T,q) s_).rm 0 c).1 rfl
 have p:U.root≠0:=by
  intro e
  have g:=gR.LV (t:=U) m.rep e
  rw[g]at hp
  have k:=h.ne (T,q) s_
  exact k (by
   cases T with
   | nil=>rfl
   | nd l i r=>have:=hp.length_eq;simp[Tr.mem]at this)
 refine⟨⟨fun e a=>?_,fun e a=>?_,?_,fun j c b=>?_,fun e a=>?_,?_,?_,by rw[d];exact h.pos,by rw[d];exact h.len⟩,?_,fun e a j b=>f j (pQ a b)⟩
 . rcases ze.1 a with rfl|a
   . exact m.rep
   . exact(h.rep e (by simp[a])).tv d fun j b=>f j (pQ a b)
 . rcases ze.1 a with rfl|a
   . exact p
   . exact h.ne e (by simp[a])
 . grind [kj]
 . have:=h.all j c (by rw[d]at b;exact b)
   grind [kj]
 . rw[d]
   rcases ze.1 a with rfl|a
   . exact h.par (T,q) s_
   . exact h.par e (by simp[a])
 . obtain⟨ρ,n,o⟩:=h.uo
   refine⟨ρ,fun e a=>?_,fun e a=>?_⟩
   . rcases ze.1 a with rfl|a
     . exact fun i hi j b=>n (T,q) s_ i (hp.mem_iff.1 hi) j (hp.mem_iff.1 b)
     . exact n e (by simp[a])
   . rcases ze.1 a with rfl|a
     . exact fun c i hi=>o (T,q) s_ c i (hp.mem_iff.1 hi)
     . exact o e (by simp[a])
 . rw[m.other 0 s];exact h.zero
 . have g:gY ys R=gY xs R:=Md f
   have k:gp ys false U=gp xs false T:=m.ord false
   grind [gY]
def mo(xs:List Nd)(j below:Nat):List Nd :=
 let a:=cO xs j (fun x=>{ x with i7:=IntKind.i64.wrap (x.i7+IntKind.i64.wrap ((cE xs x.k1).total-(cE xs below).total)) })
 let b:=cO a j (fun x=>{ x with k1:=below })
 iU b j
def opt(e:Tr×Nat)(R:FT):FT:=if e.1.root=0 then R else e :: R
theorem qL{e f:Tr×Nat}:f∈opt e R↔(e.1.root≠0/\f=e)\/f∈R:=by
 grind [opt]
theorem gR.B5{t:Tr}(h:gR xs t p)(e:t.root=0):t = .nil:=by
 cases t with
 | nil=>rfl
 | nd l i r=>exact absurd e h.1.1
theorem Lo{e:Tr×Nat}(h:gR xs e.1 p):kj (opt e R)=e.1.mem++kj R:=by
 unfold opt
 split
 . rename_i a;rw[h.B5 a];rfl
 . rfl
theorem SH{e:Tr×Nat}{v u:Nat}(h:gR xs e.1 p):gZ (gY ys (opt e R)) v u↔oE (gp ys false e.1) e.2 v u\/gZ (gY ys R) v u:=by
 unfold opt
 split
 . rename_i a
   rw[h.B5 a]
   simp[gp,Ly]
 . simp only[gY,mh,gZ.cons]
theorem XY{F R':FT}{a B:Tr}(h:Fo xs ((.nd a j b,q) :: R))(Q:(cE xs j).flip=false)(O:R.Perm (opt (B,j) R'))(D:gR xs B j) :
 Fo (mo xs j B.root) ((.nd a j B,q) :: opt (b,j) R')/\(∀ v u,gZ (gY (mo xs j B.root) ((.nd a j B,q) :: opt (b,j) R')) v u↔gZ (gY xs ((.nd a j b,q) :: R)) v u) /\
  gp (mo xs j B.root) false (.nd a j B)=gp xs false a++j :: gp xs false B/\(∀ k,k≠j->cE (mo xs j B.root) k=cE xs k)/\(cE (mo xs j B.root) j).flip=false/\(∀ k,(cE (mo xs j B.root) k).key=(cE xs k).key)/\(mo xs j B.root).length=xs.length:=by
 have hT:=h.rep (.nd a j b,q) s_
 obtain⟨⟨H,jl⟩,⟨k0,k1,up⟩,v,ha,hb⟩:=hT
 obtain⟨n1,n2,n3⟩:=h.split
 simp only[Tr.mem]at n1 n3
 have S:(kj R).Perm (B.mem++kj R'):=by rw[<-Lo (e:=(B,j)) D];exact SJ O _
 have ad := S.nodup_iff.1 n2
 rw[zo]at ad
 obtain⟨nB,av, X⟩:=ad
 rw[zo,zu]at n1
 obtain⟨na,⟨aa,nb⟩,ae⟩:=n1
 have af:j∉a.mem:=fun h=>ae j h j s_ rfl
 have p:∀ k,k∈a.mem\/k=j\/k∈b.mem->k∉B.mem/\k∉kj R' := fun k c=>by
  have:=n3 k (by simpa using c)
  rw[S.mem_iff,zj,not_or]at this
  exact this
 have Y:=(p j (.inr (.inl rfl))).1
 have Z:=(p j (.inr (.inl rfl))).2
 obtain⟨s,L⟩:∃ x,x=cO (cO xs j (fun x=>{ x with i7:=IntKind.i64.wrap (x.i7+IntKind.i64.wrap ((cE xs x.k1).total-(cE xs B.root).total)) })) j (fun x=>{ x with k1:=B.root }):=⟨_,rfl⟩
 have al:mo xs j B.root=iU s j:=by rw[L];rfl
 have W:s.length=xs.length:=by rw[L,gd,gd]
 obtain⟨lm,G⟩:∃ y,cE s j={ cE xs j with i7:=y,k1:=B.root }:=⟨_,by rw[L,jQ (by rw[gd];exact jl),jQ jl]⟩
 have I:∀ k,k≠j->cE s k=cE xs k:=fun k c=>by rw[L,k6 (fun e=>c e.symm),k6 (fun e=>c e.symm)]
 have ai:gR s a j:=ha.tv W fun k c=>I k (fun e=>af (e▸c))
 have ah:gR s B j:=D.tv W fun k c=>I k (fun e=>Y (e▸c))
 have T:(a.mem++j :: B.mem).Nodup:=by
  rw[zo,zu]
  refine⟨na,⟨Y,nB⟩,fun x g y f e=>?_⟩
  subst e
  rcases ze.1 f with rfl|f
  . exact af g
  . exact(p x (.inl g)).1 f
 have ab:∀ k∈a.mem++j :: B.mem,k≠0/\k<xs.length:=fun k c=>by
  simp only[zj,ze]at c
  rcases c with c|rfl|c
  . exact ha.rm k c
  . exact⟨H,jl⟩
  . exact D.rm k c
 have ak:(a.mem++j :: B.mem).length<=1000000:=by
  have t:=nodup_lt_length xs.length (0 :: (a.mem++j :: B.mem)) (zu.2 ⟨fun o=>(ab 0 o).1 rfl,T⟩) (fun k c=>by
   rcases ze.1 c with rfl|c
   . exact h.pos
   . exact(ab k c).2)
  have:=h.len
  simp only[zb]at t
  omega
 obtain⟨K,P⟩:=Cb (xs:=s) (i:=j) (l:=a) (r:=B) ⟨H,o_⟩ ai ah (by rw[G];exact k0) (by rw[G]) T ak
 rw[<-al]at K P
 rw[show (cE s j).up=q by rw[G];exact up]at P
 have z:(mo xs j B.root).length=xs.length:=by rw[K.len,W]
 have J:∀ k,k≠j->cE (mo xs j B.root) k=cE xs k:=fun k c=>by rw[K.other k c,I k c]
 have E:∀ k,(cE (mo xs j B.root) k).flip=(cE xs k).flip:=fun k=>by
  rw[K.flip]
  by_cases e:k=j
  . subst e;rw[G]
  . rw[I k e]
 have ap:∀ k,(cE (mo xs j B.root) k).key=(cE xs k).key:=fun k=>by
  rw[K.kl.key]
  by_cases e:k=j
  . subst e;rw[G]
  . rw[I k e]
 have aq:gp (mo xs j B.root) false B=gp xs false B:=v7 fun k _=>E k
 have ar:gp (mo xs j B.root) false a=gp xs false a:=v7 fun k _=>E k
 have au:gp (mo xs j B.root) false b=gp xs false b:=v7 fun k _=>E k
 have ac:gp (mo xs j B.root) false (.nd a j B)=gp xs false a++j :: gp xs false B:=by
  simp only[gp,E,Q,EJ,cond_false,ar,aq]
 have aj:gR (mo xs j B.root) b j:=hb.tv z fun k c=>J k (fun e=>aa (e▸c))
 obtain⟨ρ,r1,r2⟩:=h.uo
 have rT:∀ k,k∈a.mem\/k=j\/k∈b.mem->ρ k=ρ j:=fun k c=>r1 (.nd a j b,q) s_ k (by simpa[Tr.mem]using c) j (by simp[Tr.mem])
 have A:∀ e,e∈R↔(B.root≠0/\e=(B,j))\/e∈R' := fun e=>by rw[O.mem_iff,qL]
 have rB:∀ k∈B.mem,ρ k<ρ j:=fun k c=>by
  by_cases e0:B.root=0
  . rw[D.B5 e0]at c;simp[Tr.mem]at c
  . exact r2 (B,j) (zx _ ((A _).2 (.inl ⟨e0,rfl⟩))) H k c
 refine⟨⟨fun e d=>?_,fun e d=>?_,?_,fun k o c=>?_,fun e d=>?_,?_,?_,by rw[z];exact h.pos,by rw[z];exact h.len⟩,fun v' m => ?_,ac,J,by rw[E];exact Q,ap,z⟩
 . rcases ze.1 d with rfl|d
   . exact P
   . rcases qL.1 d with ⟨_,rfl⟩|d
     . exact aj
     . exact(h.rep e (zx _ ((A e).2 (.inr d)))).tv z fun k c=>J k (fun e' => Z (e' ▸ pQ d c))
 . rcases ze.1 d with rfl|d
   . exact H
   . rcases qL.1 d with ⟨o,rfl⟩|d
     . exact o
     . exact h.ne e (zx _ ((A e).2 (.inr d)))
 . simp only[kj,zz]
   show ((Tr.nd a j B).mem++kj (opt (b,j) R')).Nodup
   rw[Lo (e:=(b,j)) hb,zo,zo]
   refine⟨T,⟨nb,av, fun x g y f e=>(p x (.inr (.inr g))).2 (e▸f)⟩,fun x g y f e=>?_⟩
   subst e
   simp only[Tr.mem,zj,ze]at g f
   rcases f with f|f
   . rcases g with g|rfl|g
     . exact ae x g x (by simp[f]) rfl
     . exact aa f
     . exact(p x (.inr (.inr f))).1 g
   . rcases g with g|rfl|g
     . exact(p x (.inl g)).2 f
     . exact Z f
     . exact X x g x f rfl
 . rw[z]at c
   have t:=h.all k o c
   have C:k∈(Tr.nd a j b).mem\/k∈kj R:=by simpa[kj,zz]using t
   rw[S.mem_iff]at C
   show k∈(Tr.nd a j B).mem++kj (opt (b,j) R')
   rw[Lo (e:=(b,j)) hb]
   simp only[Tr.mem,zj,ze]at C ⊢
   rcases C with (h|h|h)|h|h<;>simp[h]
 . rw[z]
   rcases ze.1 d with rfl|d
   . exact h.par (.nd a j b,q) s_
   . rcases qL.1 d with ⟨_,rfl⟩|d
     . exact jl
     . exact h.par e (zx _ ((A e).2 (.inr d)))
 . have N:∀ k,k∈b.mem->k∉B.mem:=fun k t=>(p k (.inr (.inr t))).1
   obtain⟨σ,n⟩:∃ σ:Nat->Nat,∀ k,σ k=if k∈B.mem then 2*ρ j+1 else if k∈b.mem then 2*ρ j else 2*ρ k+1:=⟨_,fun _=>rfl⟩
   refine⟨σ,fun e d=>?_,fun e d o=>?_⟩
   . rcases ze.1 d with rfl|d
     . have key:∀ k∈(Tr.nd a j B).mem,σ k=2*ρ j+1:=fun k c=>by
        rw[n]
        simp only[Tr.mem,zj,ze]at c
        by_cases hkB:k∈B.mem
        . rw[if_pos hkB]
        . grind
       intro i hi k c
       rw[key i hi,key k c]
     . rcases qL.1 d with ⟨_,rfl⟩|d
       . intro i hi k c
         simp only at hi c
         rw[n,n,if_neg (N i hi),if_pos hi,if_neg (N k c),if_pos c]
       . intro i hi k c
         have M:∀ y∈e.1.mem,y∉B.mem/\y∉b.mem:=fun y f=>⟨fun w => X y w y (pQ d f) rfl,fun w => (p y (.inr (.inr w))).2 (pQ d f)⟩
         rw[n,n,if_neg (M i hi).1,if_neg (M i hi).2,if_neg (M k c).1,if_neg (M k c).2,r1 e (zx _ ((A e).2 (.inr d))) i hi k c]
   . rcases ze.1 d with rfl|d
     . simp only at o
       have V:=r2 (.nd a j b,q) s_ o
       have q1:q∉B.mem:=fun U=>by have:=rB q U;have:=V j (by simp[Tr.mem]);simp only at this;omega
       have q2:q∉b.mem:=fun U=>by have:=rT q (.inr (.inr U));have:=V j (by simp[Tr.mem]);simp only at this;omega
       intro i hi
       simp only
       rw[n i,n q,if_neg q1,if_neg q2]
       have ao := V j (by simp[Tr.mem])
       simp only at ao
       simp only[Tr.mem,zj,ze]at hi
       by_cases hiB:i∈B.mem
       . rw[if_pos hiB];omega
       . rw[if_neg hiB]
         split
         . omega
         . have:ρ i=ρ j:=rT i (by rcases hi with h|h|h;exact .inl h;exact .inr (.inl h);exact absurd h hiB)
           omega
     . rcases qL.1 d with ⟨_,rfl⟩|d
       . intro i hi
         simp only at hi ⊢
         rw[n,n,if_neg (N i hi),if_pos hi,if_neg Y,if_neg aa];omega
       . intro i hi
         have am:i∉B.mem:=fun w => X i w i (pQ d hi) rfl
         have an:i∉b.mem:=fun w => (p i (.inr (.inr w))).2 (pQ d hi)
         have aw := r2 e (zx _ ((A e).2 (.inr d))) o i hi
         rw[n,n,if_neg am,if_neg an]
         by_cases hqB:e.2∈B.mem
         . have:=rB _ hqB;rw[if_pos hqB];omega
         . rw[if_neg hqB]
           by_cases hqb:e.2∈b.mem
           . have:=rT _ (.inr (.inr hqb));rw[if_pos hqb];omega
           . rw[if_neg hqb];omega
 . rw[J 0 (fun e=>H e.symm)];exact h.zero
 . have hs:gY (mo xs j B.root) R' = gY xs R' := Md fun k c=>J k (fun e=>Z (e▸c))
   have e1:gZ (gY (mo xs j B.root) ((.nd a j B,q) :: opt (b,j) R')) v' m ↔ oE (gp xs false a++j :: gp xs false B) q v' m \/ oE (gp xs false b) j v' m \/ gZ (gY xs R') v' m := by
    have:=SH (ys:=mo xs j B.root) (e:=(b,j)) (R:=R') (v:=v') (u:=m) hb
    simp only[gY,mh]at this ⊢
    rw[gZ.cons,ac,this]
    simp only[gY]at hs
    rw[au,hs]
   have ag : gZ (gY xs ((.nd a j b,q) :: R)) v' m ↔ oE (gp xs false a++j :: gp xs false b) q v' m \/ oE (gp xs false B) j v' m \/ gZ (gY xs R') v' m := by
    have t:gp xs false (.nd a j b)=gp xs false a++j :: gp xs false b:=by simp only[gp,Q,EJ,cond_false]
    have C:gZ (gY xs R) v' m ↔ gZ (gY xs (opt (B,j) R')) v' m := gZ.perm (O.map _)
    have h3:=SH (ys:=xs) (e:=(B,j)) (R:=R') (v:=v') (u:=m) D
    have h4:gZ (gY xs ((.nd a j b,q) :: R)) v' m ↔ oE (gp xs false (.nd a j b)) q v' m \/ gZ (gY xs R) v' m := by simp only[gY,mh,gZ.cons]
    rw[h4,t,C,h3]
   rw[e1,ag, SF,SF,uY,uY]
   constructor
   . rintro((h|h|h)|h|h)<;>simp[h]
   . rintro((h|h|h)|h|h)<;>simp[h]
inductive uE (F:FT):Nat->Nat->Prop where
 | zero:uE F 0 0
 | step {T:Tr} {q j m:Nat} (he:(T,q)∈F) (hj:j∈T.mem) (h0:j≠0) (k:uE F q m):uE F j (m+1)
theorem uE.mono{f:FT}{c:Nat}(l:(∀ e∈F,∀ i∈e.1.mem,∀ j∈e.1.mem,hm i=hm j)/\∀ e∈F,e.2≠0->∀ i∈e.1.mem,hm i<hm e.2)(n:∀ e∈F,(∀ i∈e.1.mem,c<hm i)->e∈f){m:Nat}(h:uE F q m):(q=0\/c<hm q)->uE f q m:=by
 induction h with
 | zero=>intro _;exact .zero
 | @step T q j m b d g k o =>
  intro a
  have a:c<hm j:=by rcases a with e|e;exact absurd e g;exact e
  refine .step (n _ b fun i hi=>?_) d g (o ?_)
  . rw[l.1 _ b i hi j d];exact a
  . by_cases hq:q=0
    . exact .inl hq
    . exact .inr (Nat.lt_trans a (l.2 _ b hq j d))
theorem Qm(ρ:Nat->Nat):∀ n,∃ M,∀ k,k<n->ρ k<=M
 | 0=>⟨0,fun k a=>absurd a o_⟩
 | n+1=>by
  obtain⟨M,b⟩:=Qm ρ n
  refine⟨max M (ρ n),fun k a=>?_⟩
  by_cases e:k=n
  . subst e;omega
  . have:=b k o_;omega
theorem Fo.dep(h:Fo xs F)(b:j<xs.length):∃ m,uE F j m:=by
 obtain⟨ρ,k,d⟩:=h.uo
 obtain⟨M,c⟩:=Qm ρ xs.length
 have key:∀ n j,j<xs.length->M-ρ j<=n->∃ m,uE F j m:=by
  intro n
  induction n with
  | zero =>
   intro j b g
   by_cases h0:j=0
   . subst h0;exact⟨0,.zero⟩
   . obtain⟨e,a,hm⟩:=qw.1 (h.all j h0 b)
     by_cases hq:e.2=0
     . exact⟨1,.step (T:=e.1) (q:=e.2) a hm h0 (by rw[hq];exact .zero)⟩
     . have a1:=d e a hq j hm
       have a2:=c e.2 (h.par e a)
       have a3:=c j b
       omega
  | succ n i =>
   intro j b g
   by_cases h0:j=0
   . subst h0;exact⟨0,.zero⟩
   . obtain⟨e,a,hm⟩:=qw.1 (h.all j h0 b)
     by_cases hq:e.2=0
     . exact⟨1,.step (T:=e.1) (q:=e.2) a hm h0 (by rw[hq];exact .zero)⟩
     . have a1:=d e a hq j hm
       have a2:=c e.2 (h.par e a)
       obtain⟨m,f⟩:=i e.2 (h.par e a) o_
       exact⟨m+1,.step (T:=e.1) (q:=e.2) a hm h0 f⟩
 exact key _ j b (zh _)
theorem Fo.Yt(h:Fo xs F){e f:Tr×Nat}(d:e∈F)(a:f∈F)(h1:j∈e.1.mem)(c:j∈f.1.mem):e=f:=by
 obtain⟨s,t,rfl⟩:=AU d
 have hp:(s++e :: t).Perm (e :: (s++t)):=sA
 have b := h.perm hp
 rcases ze.1 (hp.mem_iff.1 a)with e' | a
 . exact e'.symm
 . exact absurd (pQ a c) (b.split.2.2 j h1)
structure Ex (xs0:List Nd) (F0:FT) (i:Nat) (xs:List Nd) (below j m:Nat) (R:FT) (B:Tr):Prop where
 fo:Fo xs (opt (B,j) R)
 rep:gR xs B j
 root:B.root=below
 start:below=0->j=i
 last:below≠0->(gp xs false B).getLast? = some i
 dep:uE (opt (B,j) R) j m
 par:∀ v u,gZ (gY xs (opt (B,j) R)) v u↔gZ (gY xs0 F0) v u
 key:∀ k,(cE xs k).key=(cE xs0 k).key
 len:xs.length=xs0.length
 lt:j<xs.length
 Ef:∀ T0,(T0,0)∈F0->((T0,0)∈R/\∀ k∈T0.mem,cE xs k=cE xs0 k)\/(j=0/\below≠0/\(gp xs false B).head? = (gp xs0 false T0).head?)
theorem Ex.init{i:Nat}(h:Fo xs F)(hi:i<xs.length):∃ m,Ex xs F i xs 0 i m F .nil:=by
 obtain⟨m,hm⟩:=h.dep hi
 exact⟨m,h,trivial,rfl,fun _=>rfl,fun e=>absurd rfl e,hm,fun _ _=>Iff.rfl,fun _=>rfl,rfl,hi,fun b a=>.inl ⟨a,fun _ _=>rfl⟩⟩
theorem SK{α:Type}{x:α}{l:List α}(h:x∈l):∃ r,l.Perm (x :: r):=by
 obtain⟨s,t,rfl⟩:=AU h
 exact⟨s++t,sA⟩
theorem ac0{e f:Tr×Nat}{R':FT}(h:R.Perm (f :: R')):(opt e R).Perm (f :: opt e R'):=by
 unfold opt
 split
 . exact h
 . exact(h.cons e).trans (List.Perm.swap _ _ _)
theorem Ex.go{G:FT}{below m:Nat}{B:Tr}(h:Ex E G i xs below j m R B)(g:j≠0) :
 ∃ T q,gR xs T q/\j∈T.mem/\T.mem.Nodup/\T.mem.length<=1000000/\Out xs q T.mem/\∀ ys a b,jY xs ys T [] (.nd a j b) q->(cE ys j).flip=false ->
  (cE (mo ys j below) j).up=q/\(∀ k,k≠j->cE (mo ys j below) k=cE ys k)/\∃ w R', m=w + 1/\Ex E G i (mo ys j below) j q w R' (.nd a j B):=by
 cases hd:h.dep with
 | zero=>exact absurd rfl g
 | @step T q _ w t o _ Z =>
  -- the entry lies in R
  have X:(T,q)∈R:=by
   rcases qL.1 t with ⟨d,e⟩|t
   . obtain⟨ρ,_,p⟩:=h.fo.uo
     cases e
     have:=p (B,j) (qL.2 (.inl ⟨d,rfl⟩)) g j o
     simp at this
   . exact t
  obtain⟨R2,hp⟩:=SK X
  have D:(opt (B,j) R).Perm ((T,q) :: opt (B,j) R2):=ac0 hp
  have f:=h.fo.perm D
  refine⟨T,q,f.rep (T,q) s_,o,f.split.1,f.count,f.out,fun ys a b hm L=>?_⟩
  obtain⟨U,s1,o1⟩:=f.TS hm
  have W:gR ys B j:=by
   by_cases d:B.root=0
   . rw[h.rep.B5 d];trivial
   . exact h.rep.tv hm.kl.len fun k l => o1 (B,j) (qL.2 (.inl ⟨d,rfl⟩)) k l
  have c:=XY (F:=[]) U L (List.Perm.refl _) W
  obtain⟨r,H,x,y,P,I,z⟩:=c
  rw[h.root]at r H x y P I z
  have ab:gp ys false B=gp xs false B:=by
   by_cases d:B.root=0
   . rw[h.rep.B5 d];rfl
   . exact Mp fun k l => o1 (B,j) (qL.2 (.inl ⟨d,rfl⟩)) k l
  have aa:q<xs.length:=f.par (T,q) s_
  have ac:(cE (mo ys j below) j).up=q:=(r.rep (.nd a j B,q) s_).2.1.2.2
  have C:opt (Tr.nd a j B,q) (opt (b,j) R2)=(Tr.nd a j B,q) :: opt (b,j) R2:=if_neg g
  refine⟨ac,y,w, opt (b,j) R2,rfl,⟨by rw[C];exact r,r.rep (.nd a j B,q) s_,rfl,fun e=>absurd e g,fun _=>?_,?_,fun v u=>?_,fun k=>?_,by rw[z,hm.kl.len,h.len],by rw[z,hm.kl.len];exact aa,fun O Y=>?_⟩⟩
  . rw[x,ab]
    by_cases hb:below=0
    . have V:B = .nil:=h.rep.B5 (h.root.trans hb)
      rw[V,h.start hb]
      simp[gp]
    . have:=h.last hb
      rw[List.getLast?_append,Ii,this]
      simp
  . rw[C]
    obtain⟨ρ,r1,p⟩:=h.fo.uo
    refine uE.mono (c:=ρ j) ⟨r1,p⟩ (fun e n K=>?_) Z ?_
    . rcases ze.1 (D.mem_iff.1 n)with rfl|n
      . exact absurd (K j o) o_
      . rcases qL.1 n with ⟨d,rfl⟩|n
        . have N:=h.rep.nS d
          have s:=p (B,j) (qL.2 (.inl ⟨d,rfl⟩)) g _ N
          have h4:=K _ N
          simp only at s
          omega
        . exact zx _ (qL.2 (.inr n))
    . by_cases hq:q=0
      . exact .inl hq
      . exact .inr (p (T,q) t hq j o)
  . rw[C,H,s1,<-h.par]
    exact gZ.perm (D.symm.map _)
  . rw[I,hm.kl.key,h.key]
  . rcases h.Ef O Y with ⟨A,J⟩|⟨A,_⟩
    . rcases ze.1 (hp.mem_iff.1 A)with e|s
      . cases e
        refine .inr ⟨rfl,g,?_⟩
        have e1:gp ys false (.nd a j b)=gp xs false T:=hm.ord false
        have Q:gp ys false (.nd a j b)=gp ys false a++j :: gp ys false b:=by simp only[gp,L,EJ,cond_false]
        have S:gp xs false T=gp E false T:=Mp J
        rw[x,<-S,<-e1,Q]
        cases gp ys false a<;>simp
      . refine .inl ⟨qL.2 (.inr s),fun k l => ?_⟩
        have M:k∉T.mem:=fun ht=>by
         have hn:=f.split.2.2 k ht
         exact hn (pQ (qL.2 (.inr s)) l)
        rw[y k (fun e=>M (e▸o)),hm.other k M,J k l]
    . exact absurd A g
theorem Ex.fin{d:List Nd}{j:FT}{below m:Nat}{B:Tr}(h:Ex d j i xs below 0 m R B)(hi:i≠0) :
 gR xs B 0/\i∈B.mem/\B.mem.Nodup/\B.mem.length<=1000000/\Out xs 0 B.mem/\∀ ys a b,jY xs ys B [] (.nd a i b) 0->(cE ys i).flip=false ->
  b = .nil/\Fo ys ((.nd a i .nil,0) :: R)/\(∀ v u,gZ (gY ys ((.nd a i .nil,0) :: R)) v u↔gZ (gY d j) v u)/\(∀ k,(cE ys k).key=(cE d k).key)/\ys.length=d.length /\
   (∀ c,(c,0)∈j->((c,0)∈R/\∀ k∈c.mem,cE ys k=cE d k)\/(gp ys false (.nd a i .nil)).head? = (gp d false c).head?):=by
 have hb:below≠0:=fun e=>hi (h.start e).symm
 have w:B.root≠0:=by rw[h.root];exact hb
 have q:opt (B,0) R=(B,0) :: R:=if_neg w
 have g:=h.fo
 rw[q]at g
 have f:=h.last hb
 have D:i∈B.mem:=(pV xs false B).mem_iff.1 (H7 f)
 refine⟨h.rep,D,g.split.1,g.count,.inl rfl,fun ys a b hm C=>?_⟩
 obtain⟨l,s1,o1⟩:=g.TS hm
 have e1:gp ys false (.nd a i b)=gp xs false B:=hm.ord false
 have r:gp ys false (.nd a i b)=gp ys false a++i :: gp ys false b:=by simp only[gp,C,EJ,cond_false]
 have z:b = .nil:=by
  rw[<-e1,r,List.getLast?_append,Ii]at f
  have A:gp ys false b=[]:=by
   cases hl:(gp ys false b).getLast? with
   | none=>exact Nl.1 hl
   | some x =>
    rw[hl]at f
    simp at f
    subst f
    have E:x∈b.mem:=(pV ys false b).mem_iff.1 (H7 hl)
    have p:=l.split.1
    simp only[Tr.mem,zo,zu]at p
    exact absurd E p.2.1.1
  have:=(pV ys false b).length_eq
  rw[A]at this
  cases b with
  | nil=>rfl
  | nd _ _ _=>simp[Tr.mem]at this
 subst z
 refine⟨rfl,l,fun v u=>?_,fun k=>?_,by rw[hm.kl.len,h.len],fun c y=>?_⟩
 . rw[s1,<-h.par,q]
 . rw[hm.kl.key,h.key]
 . rcases h.Ef c y with ⟨n,s⟩|⟨_,_,t⟩
   . exact .inl ⟨n,fun k o=>by rw[o1 (c,0) n k o,s k o]⟩
   . exact .inr (by rw[e1];exact t)
theorem Mo(xs:List Nd):∀ (t:Tr) (φ:Bool),gp xs (!φ) t=(gp xs φ t).reverse
 | .nil,_=>rfl
 | .nd l i r,φ=>by
  have e:xor (!φ) (cE xs i).flip = !(xor φ (cE xs i).flip):=by cases φ<;>cases (cE xs i).flip<;>rfl
  simp only[gp,e,Mo xs l,Mo xs r]
  cases xor φ (cE xs i).flip<;>simp
theorem Mc(h:(kj F).Nodup):(zU (gY xs F)).Nodup:=by
 have hp:(zU (gY xs F)).Perm (kj F):=by
  unfold zU gY kj
  rw[List.flatMap_map]
  clear h
  induction F with
  | nil=>exact .nil
  | cons e F a=>simp only[zz];exact((pV xs false e.1).append_right _).trans (a.append_left _)
 exact hp.nodup_iff.2 h
theorem Fo.um(h:Fo xs F){v u a:Nat}(h1:gZ (gY xs F) v u)(b:gZ (gY xs F) v a):u=a := Go.Sx.um (Mc h.nodup) h1 b
theorem Fo.Ah(h:Fo xs F)(a:(T,q)∈F):∀ x∈gp xs false T,x≠0:=fun x b=>((h.rep (T,q) a).rm x ((pV xs false T).mem_iff.1 b)).1
theorem Fo.below(h:Fo xs F)(a:(T,0)∈F){v r:Nat}(hv:v∈T.mem)(b:(gp xs false T).head? = some r):PR (gZ (gY xs F)) v r :=
 (PR.Gg (q:=0) b (h.Ah a) (fun v u hp=>⟨(gp xs false T,0),zq.2 ⟨(T,0),a,rfl⟩,hp⟩) ((pV xs false T).mem_iff.2 hv)).1 rfl
structure lK (xs0:List Nd) (F0:FT) (ys:List Nd) (i:Nat) (a:Tr) (R:FT):Prop where
 fo:Fo ys ((.nd a i .nil,0) :: R)
 flip:(cE ys i).flip=false
 par:∀ v u,gZ (gY ys ((.nd a i .nil,0) :: R)) v u↔gZ (gY xs0 F0) v u
 key:∀ k,(cE ys k).key=(cE xs0 k).key
 len:ys.length=xs0.length
 Ef:∀ T0,(T0,0)∈F0->((T0,0)∈R/\∀ k∈T0.mem,cE ys k=cE xs0 k)\/(gp ys false (.nd a i .nil)).head? = (gp xs0 false T0).head?
theorem lK.seq{c:List Nd}{b:FT}{a:Tr}(h:lK c b ys i a R):gp ys false (.nd a i .nil)=gp ys false a++[i]:=by
 simp only[gp,h.flip,EJ,cond_false]
theorem lK.head{c:List Nd}{b:FT}{a:Tr}(h:lK c b ys i a R):∃ r,(gp ys false (.nd a i .nil)).head? = some r/\r∈(Tr.nd a i .nil).mem:=by
 have hm:i∈gp ys false (.nd a i .nil):=by rw[h.seq];simp
 cases hs:gp ys false (.nd a i .nil)with
 | nil=>rw[hs]at hm;simp at hm
 | cons r l=>exact⟨r,rfl,(pV ys false (.nd a i .nil)).mem_iff.1 (by rw[hs];simp)⟩
theorem lK.top{c:List Nd}{b:FT}{a:Tr}(h:lK c b ys i a R){r:Nat}(d:(gp ys false (.nd a i .nil)).head? = some r){v:Nat}(hv:v∈(Tr.nd a i .nil).mem):PR (gZ (gY c b)) v r :=
 (h.fo.below (T:=.nd a i .nil) s_ hv d).mono fun v u hp=>(h.par v u).1 hp
def kV(ys:List Nd)(i:Nat):List Nd:=cO ys i (fun x=>{ x with flip:=true })
theorem Gu{u:List Nd}{m:FT}{a:Tr}(h:lK u m ys i a R) :
 Fo (kV ys i) ((.nd a i .nil,0) :: R)/\gp (kV ys i) false (.nd a i .nil)=(gp ys false (.nd a i .nil)).reverse/\gY (kV ys i) R=gY ys R/\(kV ys i).length=ys.length/\(∀ k,k≠i->cE (kV ys i) k=cE ys k)/\∀ k,(cE (kV ys i) k).key=(cE ys k).key:=by
 obtain⟨n1,v,r⟩:=h.fo.split
 have g:=h.fo.rep (.nd a i .nil,0) s_
 have il:=g.1.2
 have i0:=g.1.1
 have ll:(kV ys i).length=ys.length:=gd
 have l:cE (kV ys i) i={ cE ys i with flip:=true }:=jQ il
 have c:∀ k,k≠i->cE (kV ys i) k=cE ys k:=fun k b=>k6 (fun e=>b e.symm)
 have j:∀ k,∃ f,cE (kV ys i) k={ cE ys k with flip:=f }:=fun k=>by
  by_cases e:k=i
  . subst e;exact⟨true,l⟩
  . exact⟨(cE ys k).flip,by rw[c k e]⟩
 have p:i∈(Tr.nd a i .nil).mem:=by simp[Tr.mem]
 have o:∀ k∈kj R,cE (kV ys i) k=cE ys k:=fun k b=>c k (fun e=>r i p (e▸b))
 obtain⟨ρ,s,t⟩:=h.fo.uo
 refine⟨⟨fun e d=>(h.fo.rep e d).HF ll fun k _=>j k,h.fo.ne,h.fo.nodup,fun k n b=>h.fo.all k n (by rw[ll]at b;exact b),fun e d=>by rw[ll];exact h.fo.par e d,⟨ρ,s,t⟩,by rw[c 0 (fun e=>i0 e.symm)];exact h.fo.zero,by rw[ll];exact h.fo.pos,by rw[ll];exact h.fo.len⟩,?_,Md o,ll,c,fun k=>?_⟩
 . rw[<-Mo]
   refine TV ?_ fun k b=>?_
   . rw[l,h.flip];rfl
   . have:k≠i:=fun e=>by
      subst e
      simp only[Tr.mem,zo,zu]at n1
      have q : k∈a.mem:=by simpa[Tr.mem]using b
      exact n1.2.2 k q k s_ rfl
     rw[c k this]
 . obtain⟨f,e⟩:=j k
   rw[e]
theorem PR.aee{s s':List Nat}(j:(zU ((s,0) :: S)).Nodup)(d:∀ x∈s', x≠0)(hp:s'.Perm s){a r:Nat}(f:s'.head? = some a)(c:r∈s){v:Nat}(k:PR (gZ ((s,0) :: S)) v r):PR (gZ ((s', 0) :: S)) v a:=by
 have key:∀ v∈s,PR (gZ ((s', 0) :: S)) v a:=fun v hv=>(PR.Gg (q:=0) f d (fun v u g => gZ.cons.2 (.inl g)) (hp.mem_iff.2 hv)).1 rfl
 induction k with
 | top h=>exact key _ c
 | @step v u r h e _ i =>
  by_cases hv:v∈s
  . exact key v hv
  . rcases gZ.cons.1 h with b|b
    . exact absurd (xE b) hv
    . exact .step (gZ.cons.2 (.inr b)) e (i c)
theorem PR.apart{s s':List Nat}(m:(zU ((s,0) :: S)).Nodup)(f:∀ x∈s,x≠0){r:Nat}(b:r∉s){v:Nat}(k:PR (gZ ((s,0) :: S)) v r):v∉s/\PR (gZ ((s', 0) :: S)) v r:=by
 have j:∀ v∈s,∃ h,h∈s/\PR (gZ ((s,0) :: S)) v h:=fun v hv=>by
  cases s with
  | nil=>simp at hv
  | cons x l=>exact⟨x,s_,(PR.Gg (q:=0) rfl f (fun v u n => gZ.cons.2 (.inl n)) hv).1 rfl⟩
 have o:∀ v u d, gZ ((s,0) :: S) v u->gZ ((s,0) :: S) v d -> u=d := fun v u d a g=>Go.Sx.um m a g
 have c:∀ {v},PR (gZ ((s,0) :: S)) v r->v∉s:=fun {v} k hv=>by
  obtain⟨h,i,k'⟩:=j v hv
  exact b ((PR.unique o k k')▸i)
 refine⟨c k,?_⟩
 induction k with
 | top h =>
  rcases gZ.cons.1 h with a|a
  . exact absurd (xE a) b
  . exact .top (gZ.cons.2 (.inr a))
 | step h e k p =>
  rcases gZ.cons.1 h with a|a
  . exact absurd (xE a) (c (.step h e k))
  . exact .step (gZ.cons.2 (.inr a)) e (p b c)
structure NC (ys:List Nd) (i:Nat) (a:Tr) (R:FT):Prop where
 fo:Fo ys ((.nd a i .nil,0) :: R)
 head:(gp ys false (.nd a i .nil)).head? = some i
theorem lK.DI{e:List Nd}{b:FT}{a:Tr}(h:lK e b ys i a R):NC (kV ys i) i a R:=by
 obtain⟨c,d,_⟩:=Gu h
 refine⟨c,?_⟩
 rw[d,h.seq]
 simp
theorem lK.abb{c:List Nd}{b:FT}{a:Tr}(h:lK c b ys i a R){v r:Nat}(hv:PR (gZ (gY c b)) v r)(hi:PR (gZ (gY c b)) i r)(k:∀ v u f, gZ (gY c b) v u->gZ (gY c b) v f -> u=f) :
 PR (gZ (gY (kV ys i) ((.nd a i .nil,0) :: R))) v i:=by
 obtain⟨n,o,p,_⟩:=Gu h
 obtain⟨m, j, hm⟩:=h.head
 have e:m = r:=PR.unique k (h.top j (by simp[Tr.mem])) hi
 subst e
 have g:gY (kV ys i) ((.nd a i .nil,0) :: R)=((gp ys false (.nd a i .nil)).reverse,0) :: gY ys R:=by
  grind [gY]
 have d:gY ys ((.nd a i .nil,0) :: R)=(gp ys false (.nd a i .nil),0) :: gY ys R:=rfl
 rw[g]
 refine PR.aee (s:=gp ys false (.nd a i .nil)) (by rw[<-d];exact Mc h.fo.nodup) (fun x l=>?_) (Ik _) (by rw[h.seq];simp) ((pV ys false (.nd a i .nil)).mem_iff.2 hm) (by rw[<-d];exact hv.mono fun v u hp=>(h.par v u).2 hp)
 exact h.fo.Ah (T:=.nd a i .nil) (q:=0) s_ x (List.mem_reverse.1 l)
theorem lK.abc{c:List Nd}{b:FT}{a:Tr}(h:lK c b ys i a R){v r d:Nat}(hv:PR (gZ (gY c b)) v r)(hi:PR (gZ (gY c b)) i d)(o:r≠d)(j:∀ v u l, gZ (gY c b) v u->gZ (gY c b) v l -> u=l) :
 PR (gZ (gY (kV ys i) ((.nd a i .nil,0) :: R))) v r/\r∉(Tr.nd a i .nil).mem:=by
 obtain⟨p,t,w,_⟩:=Gu h
 have g:r∉(Tr.nd a i .nil).mem:=fun hm=>by
  obtain⟨k,f,_⟩:=h.head
  have e1:k=d := PR.unique j (h.top f (by simp[Tr.mem])) hi
  have m:k=r:=PR.unique j (h.top f hm) (.top hv.root)
  exact o (m.symm.trans e1)
 have n:gY (kV ys i) ((.nd a i .nil,0) :: R)=((gp ys false (.nd a i .nil)).reverse,0) :: gY ys R:=by
  grind [gY]
 have e:gY ys ((.nd a i .nil,0) :: R)=(gp ys false (.nd a i .nil),0) :: gY ys R:=rfl
 rw[n]
 exact⟨(PR.apart (s:=gp ys false (.nd a i .nil)) (s' := (gp ys false (.nd a i .nil)).reverse) (by rw[<-e];exact Mc h.fo.nodup) (h.fo.Ah (T:=.nd a i .nil) (q:=0) s_) (fun hm=>g ((pV ys false (.nd a i .nil)).mem_iff.1 hm)) (by rw[<-e];exact hv.mono fun v u hp=>(h.par v u).2 hp)).2,g⟩
def Joined(xs:List Nd)(F:FT)(a b:Nat):Prop:=∃ r,PR (gZ (gY xs F)) a r/\PR (gZ (gY xs F)) b r
theorem lK.joined{e:List Nd}{d:FT}{a:Tr}(h:lK e d ys i a R)(u v:Nat):Joined ys ((.nd a i .nil,0) :: R) u v↔Joined e d u v :=
 ⟨fun⟨r,b,c⟩=>⟨r,b.mono fun v u=>(h.par v u).1,c.mono fun v u=>(h.par v u).1⟩,fun⟨r,b,c⟩=>⟨r,b.mono fun v u=>(h.par v u).2,c.mono fun v u=>(h.par v u).2⟩⟩
theorem Ra{o:List Nd}{n R':FT}{a:Tr}(h:lK o n xs i a R)(k:lK xs ((.nd a i .nil,0) :: R) ys j b R')(V:i≠j):(cE ys i).up≠0↔Joined o n i j:=by
 have F:=h.fo
 obtain⟨r,I,aa⟩:=h.head
 obtain⟨t, J, W⟩:=k.head
 have E:PR (gZ (gY o n)) i r:=h.top I (by simp[Tr.mem])
 have L:PR (gZ (gY o n)) j t := (k.top J (by simp[Tr.mem])).mono fun v u=>(h.par v u).1
 have C:∀ v u w, gZ (gY o n) v u->gZ (gY o n) v w -> u=w := fun v u w m p=>h.fo.um ((h.par v u).2 m) ((h.par v w).2 p)
 constructor
 . intro D
   rcases k.Ef (.nd a i .nil) s_ with ⟨m,p⟩|m
   . have P:=k.fo.rep (.nd a i .nil,0) (zx _ m)
     exact absurd P.2.1.2.2 D
   . rw[I,J]at m
     simp only[Option.some.injEq]at m
     subst m
     exact⟨t, E,L⟩
 . rintro⟨M,m,p⟩ D
   have e1:r=M:=PR.unique C E m
   have N:t = M:=PR.unique C L p
   have Z:i<ys.length:=by rw[k.len];exact(F.rep (.nd a i .nil,0) s_).1.2
   have i0:i≠0:=(F.rep (.nd a i .nil,0) s_).1.1
   obtain⟨e,B,hm⟩:=qw.1 (k.fo.all i i0 Z)
   -- i is the root of dQ tree,which hangs from nothing
   have K:=k.fo.rep e B
   obtain⟨c,x,y,A⟩:=GI hm
   rw[A]at K
   obtain⟨S,Q⟩:=(Ac _ _ _).1 K
   have G:xD c e.2=0:=by rw[<-S.2.1.2.2];exact D
   have U:c=[]:=by
    cases c with
    | nil=>rfl
    | cons f c' => obtain⟨d,g,s⟩:=f;exact absurd G Q.1.1
   subst U
   have H:e.2=0:=G
   obtain⟨T,q⟩:=e
   simp only[kK]at A H hm
   subst H
   subst A
   have hd:∃ z,(gp ys false (.nd x i y)).head? = some z/\z∈(Tr.nd x i y).mem:=by
    have:(gp ys false (.nd x i y)).length=(Tr.nd x i y).mem.length:=(pV ys false _).length_eq
    cases hs:gp ys false (.nd x i y)with
    | nil=>rw[hs]at this;simp[Tr.mem]at this
    | cons z l=>exact⟨z,rfl,(pV ys false (.nd x i y)).mem_iff.1 (by rw[hs];simp)⟩
   obtain⟨z,X,Y⟩:=hd
   have pz:PR (gZ (gY o n)) i z:=(k.fo.below B hm X).mono fun v u hp=>(h.par v u).1 ((k.par v u).1 hp)
   have O:z=t := (PR.unique C pz E).trans (e1.trans N.symm)
   have:=k.fo.Yt B (za (a:=(Tr.nd b j .nil,0))) Y (by rw[O];exact W)
   simp only[Prod.mk.injEq,Tr.nd.injEq]at this
   exact V this.1.2.1
theorem ac7{R':FT}{a:Tr}(h:NC xs i a R)(k:lK xs ((.nd a i .nil,0) :: R) ys j b R')(f:PR (gZ (gY xs ((.nd a i .nil,0) :: R))) j i):(gp ys false (.nd b j .nil)).head? = some i:=by
 obtain⟨r,c,_⟩:=k.head
 have:=PR.unique (P:=gZ (gY xs ((.nd a i .nil,0) :: R))) (fun v u g d e=>h.fo.um d e) (k.top c (v:=j) (by simp[Tr.mem])) f
 rw[c,this]
theorem gR.one{t:Tr}(h:gR xs t p)(hs:t.mem=[i]):t = .nd .nil i .nil:=by
 cases t with
 | nil=>simp[Tr.mem]at hs
 | nd l j r =>
  cases l with
  | nil =>
   cases r with
   | nil=>simp[Tr.mem]at hs;rw[hs]
   | nd _ _ _=>simp[Tr.mem]at hs
  | nd _ _ _ =>
   have:=congrArg List.length hs
   simp[Tr.mem]at this
   omega
theorem abZ{t:Tr}(h:gp xs false t=[i]):t.mem=[i]:=by
 have:=pV xs false t
 rw[h]at this
 exact List.perm_singleton.1 this.symm
theorem ada{zs a:List Nd}{a2 b2:Tr}{d:FT}(o:Fo ys ((.nd b j .nil,0) :: R))(hs:gp ys false (.nd b j .nil)=[i,j])(h1:lK ys ((.nd b j .nil,0) :: R) zs i a2 F)(c:lK (kV zs i) ((.nd a2 i .nil,0) :: F) a j b2 d):b2 = .nd .nil i .nil/\a2 = .nil:=by
 have r:∀ x∈[i,j],x≠0:=fun x w=>o.Ah (T:=.nd b j .nil) (q:=0) s_ x (by rw[hs];exact w)
 have i0:=r i s_
 have n:gZ (gY ys ((.nd b j .nil,0) :: R)) i 0:=⟨(gp ys false (.nd b j .nil),0),by simp[gY],by rw[hs];exact uY.2 (.inl ⟨rfl,rfl⟩)⟩
 have p2:gZ (gY ys ((.nd b j .nil,0) :: R)) j i:=⟨(gp ys false (.nd b j .nil),0),by simp[gY],by rw[hs];exact uY.2 (.inr (uY.2 (.inl ⟨rfl,rfl⟩)))⟩
 -- the first exposing
 have y:gZ (gY zs ((.nd a2 i .nil,0) :: F)) i ((gp zs false a2).getLast?.getD 0):=⟨(gp zs false (.nd a2 i .nil),0),by simp[gY],gp zs false a2,[],h1.seq,rfl⟩
 have e1:=h1.fo.um y ((h1.par i 0).2 n)
 have k:gp zs false a2=[]:=by
  cases f:(gp zs false a2).getLast? with
  | none=>exact Nl.1 f
  | some x =>
   rw[f]at e1
   simp only[Option.getD_some]at e1
   exact absurd e1 (h1.fo.Ah (T:=.nd a2 i .nil) (q:=0) s_ x (by rw[h1.seq];exact sj _ (H7 f)))
 have p : a2 = .nil:=by
  have:=(pV zs false a2).length_eq
  rw[k]at this
  cases a2 with
  | nil=>rfl
  | nd _ _ _=>simp[Tr.mem]at this
 obtain⟨l1,z,m,_⟩:=Gu h1
 have l:gY (kV zs i) ((.nd a2 i .nil,0) :: F)=gY zs ((.nd a2 i .nil,0) :: F):=by
  simp only[gY,mh]at m ⊢
  rw[z,m,h1.seq,k]
  rfl
 have A:gZ (gY a ((.nd b2 j .nil,0) :: d)) i 0:=(c.par i 0).2 (by rw[l];exact(h1.par i 0).2 n)
 have B:gZ (gY a ((.nd b2 j .nil,0) :: d)) j i:=(c.par j i).2 (by rw[l];exact(h1.par j i).2 p2)
 have v:gZ (gY a ((.nd b2 j .nil,0) :: d)) j ((gp a false b2).getLast?.getD 0):=⟨(gp a false (.nd b2 j .nil),0),by simp[gY],gp a false b2,[],c.seq,rfl⟩
 have C:=c.fo.um v B
 have f:(gp a false b2).getLast? = some i:=by
  grind
 obtain⟨s,g⟩:∃ s,gp a false b2=s++[i]:=by
  obtain⟨s,e⟩:=List.getLast?_eq_some_iff.1 f
  exact⟨s,e⟩
 have hv:gZ (gY a ((.nd b2 j .nil,0) :: d)) i (s.getLast?.getD 0):=⟨(gp a false (.nd b2 j .nil),0),by simp[gY],s,[j],by rw[c.seq,g];simp,rfl⟩
 have h:=c.fo.um hv A
 have u:s=[]:=by
  cases hl2:s.getLast? with
  | none=>exact Nl.1 hl2
  | some x =>
   rw[hl2]at h
   simp only[Option.getD_some]at h
   exact absurd h (c.fo.Ah (T:=.nd b2 j .nil) (q:=0) s_ x (by rw[c.seq,g];simp[H7 hl2]))
 rw[u,pX]at g
 have t:=c.fo.rep (.nd b2 j .nil,0) s_
 exact⟨gR.one t.2.2.2.1 (abZ g),p⟩
def wg(a:List Nd)(i j:Nat):List Nd:=iU (cO (cO a i (fun x=>{ x with up:=0 })) j (fun x=>{ x with k0:=0 })) j
theorem ag8{b:List Nd}(h:Fo b ((.nd (.nd .nil i .nil) j .nil,0) :: R)):Fo (wg b i j) ((.nd .nil i .nil,0) :: (.nd .nil j .nil,0) :: R)/\(wg b i j).length=b.length/\∀ k,k≠i->k≠j->cE (wg b i j) k=cE b k:=by
 obtain⟨n1,Q,B⟩:=h.split
 obtain⟨⟨u,jl⟩,⟨k0,k1,up⟩,v,hi,_⟩:=h.rep (.nd (.nd .nil i .nil) j .nil,0) s_
 have E := hi
 obtain⟨⟨i0,il⟩,⟨I,J,P⟩,iv,_,_⟩:=E
 have t:i≠j:=by
  simp only[Tr.mem,pX,sC,pW]at n1
  rintro rfl
  simp at n1
 obtain⟨O,e1⟩:∃ x,x=cO b i (fun x=>{ x with up:=0 }):=⟨_,rfl⟩
 obtain⟨f,g⟩:∃ x,x=cO O j (fun x=>{ x with k0:=0 }):=⟨_,rfl⟩
 have D:wg b i j=iU f j:=by rw[g,e1];rfl
 have K:f.length=b.length:=by rw[g,e1,gd,gd]
 have a2:cE f i={ cE b i with up:=0 }:=by rw[g,k6 (fun e=>t e.symm),e1,jQ il]
 have b2:cE f j={ cE b j with k0:=0 }:=by rw[g,jQ (by rw[e1,gd];exact jl),e1,k6 t]
 have L:∀ k,k≠i->k≠j->cE f k=cE b k:=fun k c F => by rw[g,k6 (fun e=>F e.symm),e1,k6 (fun e=>c e.symm)]
 obtain⟨q,s⟩:=Cb (xs:=f) (i:=j) (l:=.nil) (r:=.nil) ⟨u,o_⟩ trivial trivial (by rw[b2];rfl) (by rw[b2];exact k1) (by simp[Tr.mem]) (by simp[Tr.mem])
 rw[<-D]at q s
 rw[show (cE f j).up=0 by rw[b2];exact up]at s
 have d:cE (wg b i j) i={ cE b i with up:=0 }:=by rw[q.other i t,a2]
 have w:∀ k,k≠i->k≠j->cE (wg b i j) k=cE b k:=fun k p z=>by rw[q.other k z,L k p z]
 have ll:(wg b i j).length=b.length:=by rw[q.len,K]
 have C:gR (wg b i j) (.nd .nil i .nil) 0:=by
  refine⟨⟨i0,by rw[ll];exact il⟩,⟨by rw[d];exact I,by rw[d];exact J,by rw[d]⟩,?_,trivial,trivial⟩
  simp only[Tr.mem,pX]at iv ⊢
  refine⟨by rw[d];exact iv.size,?_,?_⟩
  . rw[d,iv.total];simp[o8,d]
  . rw[d];exact⟨iv.first.1,fun k c=>.inl (by have p:=iv.first.1;simp at c p;rw[c,p])⟩
 have G:i∈(Tr.nd (.nd .nil i .nil) j .nil).mem:=by simp[Tr.mem]
 have H:j∈(Tr.nd (.nd .nil i .nil) j .nil).mem:=by simp[Tr.mem]
 have nR:∀ e∈R,∀ k∈e.1.mem,k≠i/\k≠j:=fun e a k c=>⟨fun e' => B i G (e' ▸ pQ a c),fun e' => B j H (e' ▸ pQ a c)⟩
 have A:kj ((.nd .nil i .nil,0) :: (.nd .nil j .nil,0) :: R)=kj ((.nd (.nd .nil i .nil) j .nil,0) :: R):=by simp[kj,Tr.mem]
 obtain⟨ρ,M,N⟩:=h.uo
 refine⟨⟨fun e a=>?_,fun e a=>?_,by rw[A];exact h.nodup,fun k m c=>by rw[A];exact h.all k m (by rw[ll]at c;exact c),fun e a=>?_,⟨ρ,fun e a=>?_,fun e a m=>?_⟩,by rw[w 0 (fun e=>i0 e.symm) (fun e=>u e.symm)];exact h.zero,by rw[ll];exact h.pos,by rw[ll];exact h.len⟩,ll,w⟩
 . rcases ze.1 a with rfl|a
   . exact C
   . rcases ze.1 a with rfl|a
     . exact s
     . exact(h.rep e (by simp[a])).tv ll fun k c=>w k (nR e a k c).1 (nR e a k c).2
 . rcases ze.1 a with rfl|a
   . exact i0
   . rcases ze.1 a with rfl|a
     . exact u
     . exact h.ne e (by simp[a])
 . rw[ll]
   rcases ze.1 a with rfl|a
   . exact h.pos
   . rcases ze.1 a with rfl|a
     . exact h.pos
     . exact h.par e (by simp[a])
 . rcases ze.1 a with rfl|a
   . intro x n y o;simp[Tr.mem]at n o;rw[n,o]
   . rcases ze.1 a with rfl|a
     . intro x n y o;simp[Tr.mem]at n o;rw[n,o]
     . exact M e (by simp[a])
 . rcases ze.1 a with rfl|a
   . exact absurd rfl m
   . rcases ze.1 a with rfl|a
     . exact absurd rfl m
     . exact N e (by simp[a]) m
def rR(zs:List Nd)(a b:Nat):List Nd := 
 let c:=cO zs a (fun x=>{ x with up:=b })
 iU (cO c b (fun x=>{ x with i7:=IntKind.i64.wrap (x.i7+(cE c a).total) })) b
theorem abj{zs:List Nd}{a b:Nat}{x y:Tr}(h:Fo zs ((.nd y b .nil,0) :: (.nd x a .nil,0) :: R)):Fo (rR zs a b) ((.nd y b .nil,0) :: (.nd x a .nil,b) :: R)/\(rR zs a b).length=zs.length/\∀ k,k≠a->k≠b->cE (rR zs a b) k=cE zs k:=by
 obtain⟨n1,G,n3⟩:=h.split
 have V:=h.rep (.nd y b .nil,0) s_
 have B:=h.rep (.nd x a .nil,0) s_
 obtain⟨⟨b0,bl⟩,⟨S,T,U⟩,bv,hy,_⟩:=V
 have a0:=B.1.1
 have al:=B.1.2
 have t:a∈(Tr.nd x a .nil).mem:=by simp[Tr.mem]
 have u:b∈(Tr.nd y b .nil).mem:=by simp[Tr.mem]
 have n:∀ k∈(Tr.nd y b .nil).mem,k∉(Tr.nd x a .nil).mem/\k∉kj R:=fun k c=>by
  have:=n3 k c
  simp only[kj,zz,zj,not_or]at this
  exact this
 have E:a≠b:=fun e=>(n b u).1 (e▸t)
 have nA:(Tr.nd x a .nil).mem.Nodup/\∀ k∈(Tr.nd x a .nil).mem,k∉kj R:=by
  simp only[kj,zz,zo]at G
  exact⟨G.1,fun k m f=>G.2.2 k m k f rfl⟩
 obtain⟨J,e1⟩:∃ z,z=cO zs a (fun x=>{ x with up:=b }):=⟨_,rfl⟩
 obtain⟨g,q⟩:∃ z,z=cO J b (fun x=>{ x with i7:=IntKind.i64.wrap (x.i7+(cE J a).total) }):=⟨_,rfl⟩
 have X:rR zs a b=iU g b:=by rw[q,e1];rfl
 have l1:J.length=zs.length:=by rw[e1,gd]
 have M:g.length=zs.length:=by rw[q,gd,l1]
 have a2:cE g a={ cE zs a with up:=b }:=by rw[q,k6 (fun e=>E e.symm),e1,jQ al]
 obtain⟨N,b2⟩:∃ N,cE g b={ cE zs b with i7:=N }:=⟨_,by rw[q,jQ (by rw[l1];exact bl),e1,k6 E]⟩
 have O:∀ k,k≠a->k≠b->cE g k=cE zs k:=fun k c Y => by rw[q,k6 (fun e=>Y e.symm),e1,k6 (fun e=>c e.symm)]
 have ad:b∉y.mem:=by
  simp only[Tr.mem,zo,zu]at n1
  exact fun h=>n1.2.2 b h b s_ rfl
 have ab:gR g y b:=hy.tv M fun k c=>O k (fun e=>(n k (by simp[Tr.mem,c])).1 (e▸t)) (fun e=>ad (e▸c))
 obtain⟨w,C⟩:=Cb (xs:=g) (i:=b) (l:=y) (r:=.nil) ⟨b0,o_⟩ ab trivial (by rw[b2];exact S) (by rw[b2];exact T) n1 h.count
 rw[<-X]at w C
 rw[show (cE g b).up=0 by rw[b2];exact U]at C
 have v:∀ k,k≠a->k≠b->cE (rR zs a b) k=cE zs k:=fun k m f=>by rw[w.other k f,O k m f]
 have ll:(rR zs a b).length=zs.length:=by rw[w.len,M]
 have j:cE (rR zs a b) a={ cE zs a with up:=b }:=by rw[w.other a E,a2]
 have W:gR (rR zs a b) (.nd x a .nil) b:=by
  obtain⟨⟨_,_⟩,⟨P,Q,_⟩,p,Z,_⟩:=B
  have ac:a∉x.mem:=by
   have:=nA.1
   simp only[Tr.mem,zo,zu]at this
   exact fun h=>this.2.2 a h a s_ rfl
  have L:∀ k∈x.mem,cE (rR zs a b) k=cE zs k:=fun k c=>v k (fun e=>ac (e▸c)) (fun e=>(n b u).1 (e▸by simp[Tr.mem,c]))
  refine⟨⟨a0,by rw[ll];exact al⟩,⟨by rw[j];exact P,by rw[j];exact Q,by rw[j]⟩,?_,Z.tv ll L,trivial⟩
  have D:∀ k∈x.mem++a :: Tr.nil.mem,(cE (rR zs a b) k).key=(cE zs k).key/\(cE (rR zs a b) k).i7=(cE zs k).i7:=fun k c=>by
   simp only[Tr.mem,zj,ze,pn,or_false]at c
   rcases c with c|rfl
   . rw[L k c];exact⟨rfl,rfl⟩
   . rw[j];exact⟨rfl,rfl⟩
  refine⟨by rw[j];exact p.size,?_,?_⟩
  . rw[j,show o8 (rR zs a b) (x.mem++a :: Tr.nil.mem)=o8 zs (x.mem++a :: Tr.nil.mem) from congrArg List.sum (wB fun k c=>by rw[(D k c).2])]
    exact p.total
  . rw[j]
    refine⟨p.first.1,fun k c=>?_⟩
    rcases p.first.2 k c with e|e
    . exact .inl e
    . refine .inr ?_
      rw[<-e]
      simp only[mj,(D k c).1,(D _ p.first.1).1]
 have nR:∀ e∈R,∀ k∈e.1.mem,k≠a/\k≠b:=fun e d k c=>⟨fun e' => nA.2 a t (e' ▸ pQ d c),fun e' => (n b u).2 (e' ▸ pQ d c)⟩
 have K:kj ((.nd y b .nil,0) :: (.nd x a .nil,b) :: R)=kj ((.nd y b .nil,0) :: (.nd x a .nil,0) :: R):=by simp[kj]
 obtain⟨ρ,A,r2⟩:=h.uo
 obtain⟨σ,F⟩:∃ σ:Nat->Nat,∀ k,σ k=if k∈(Tr.nd y b .nil).mem then ρ k+ρ a+1 else ρ k:=⟨_,fun _=>rfl⟩
 have I:∀ k∈(Tr.nd y b .nil).mem,σ k=ρ k+ρ a+1:=fun k c=>by rw[F,if_pos c]
 have o:∀ k,k∉(Tr.nd y b .nil).mem->σ k=ρ k:=fun k c=>by rw[F,if_neg c]
 have ae:∀ k,ρ k<=σ k:=fun k=>by rw[F];split<;>omega
 have H:∀ k∈(Tr.nd x a .nil).mem,k∉(Tr.nd y b .nil).mem:=fun k m f=>(n k f).1 m
 have oR:∀ e∈R,∀ k∈e.1.mem,k∉(Tr.nd y b .nil).mem:=fun e d k m f=>(n k f).2 (pQ d m)
 refine⟨⟨fun e d=>?_,fun e d=>?_,by rw[K];exact h.nodup,fun k s c=>by rw[K];exact h.all k s (by rw[ll]at c;exact c),fun e d=>?_,⟨σ,fun e d=>?_,fun e d s=>?_⟩,by rw[v 0 (fun e=>a0 e.symm) (fun e=>b0 e.symm)];exact h.zero,by rw[ll];exact h.pos,by rw[ll];exact h.len⟩,ll,v⟩
 . rcases ze.1 d with rfl|d
   . exact C
   . rcases ze.1 d with rfl|d
     . exact W
     . exact(h.rep e (by simp[d])).tv ll fun k c=>v k (nR e d k c).1 (nR e d k c).2
 . rcases ze.1 d with rfl|d
   . exact b0
   . rcases ze.1 d with rfl|d
     . exact a0
     . exact h.ne e (by simp[d])
 . rw[ll]
   rcases ze.1 d with rfl|d
   . exact h.pos
   . rcases ze.1 d with rfl|d
     . exact bl
     . exact h.par e (by simp[d])
 . rcases ze.1 d with rfl|d
   . intro i hi k c
     rw[I i hi,I k c,A (.nd y b .nil,0) s_ i hi k c]
   . rcases ze.1 d with rfl|d
     . intro i hi k c
       rw[o i (H i hi),o k (H k c),A (.nd x a .nil,0) s_ i hi k c]
     . intro i hi k c
       rw[o i (oR e d i hi),o k (oR e d k c),A e (by simp[d]) i hi k c]
 . rcases ze.1 d with rfl|d
   . exact absurd rfl s
   . rcases ze.1 d with rfl|d
     . intro i hi
       have:=A (.nd x a .nil,0) s_ i hi a t
       rw[o i (H i hi),I b u]
       omega
     . intro i hi
       have:=r2 e (by simp[d]) s i hi
       have:=ae e.2
       rw[o i (oR e d i hi)]
       omega
def xM(ys:List Nd)(i:Nat)(k:Int):List Nd:=iU (cO ys i (fun x=>{ x with key:=k })) i
theorem afc{a:Tr}{c:Int}(h:Fo ys ((.nd a i .nil,0) :: R)):Fo (xM ys i c) ((.nd a i .nil,0) :: R)/\(xM ys i c).length=ys.length/\(∀ k,k≠i->cE (xM ys i c) k=cE ys k)/\(cE (xM ys i c) i).key=c:=by
 obtain⟨n1,A,w⟩:=h.split
 obtain⟨⟨i0,il⟩,⟨k0,k1,up⟩,v,t,_⟩:=h.rep (.nd a i .nil,0) s_
 obtain⟨f,g⟩:∃ z,z=cO ys i (fun x=>{ x with key:=c }):=⟨_,rfl⟩
 have u:xM ys i c=iU f i:=by rw[g];rfl
 have p:f.length=ys.length:=by rw[g,gd]
 have a2:cE f i={ cE ys i with key:=c }:=by rw[g,jQ il]
 have q:∀ k,k≠i->cE f k=cE ys k:=fun k b=>by rw[g,k6 (fun e=>b e.symm)]
 have y:i∉a.mem:=by
  simp only[Tr.mem,zo,zu]at n1
  exact fun h=>n1.2.2 i h i s_ rfl
 obtain⟨j,m⟩:=Cb (xs:=f) (i:=i) (l:=a) (r:=.nil) ⟨i0,o_⟩ (t.tv p fun k b=>q k (fun e=>y (e▸b))) trivial (by rw[a2];exact k0) (by rw[a2];exact k1) n1 h.count
 rw[<-u]at j m
 rw[show (cE f i).up=0 by rw[a2];exact up]at m
 have n:∀ k,k≠i->cE (xM ys i c) k=cE ys k:=fun k o=>by rw[j.other k o,q k o]
 have ll:(xM ys i c).length=ys.length:=by rw[j.len,p]
 have hm:i∈(Tr.nd a i .nil).mem:=by simp[Tr.mem]
 refine⟨⟨fun e d=>?_,h.ne,h.nodup,fun k s b=>h.all k s (by rw[ll]at b;exact b),fun e d=>by rw[ll];exact h.par e d,h.uo,by rw[n 0 (fun e=>i0 e.symm)];exact h.zero,by rw[ll];exact h.pos,by rw[ll];exact h.len⟩,ll,n,by rw[j.kl.key,a2]⟩
 rcases ze.1 d with rfl|d
 . exact m
 . exact(h.rep e (by simp[d])).tv ll fun k b=>n k (fun e' => w i hm (e' ▸ pQ d b))
def qi:Nd:=⟨0,0,0,false,0,0,0,0,0⟩
def xA(i:Nat):Nd:=⟨0,0,0,false,0,1,i,0,1⟩
def nu(n k:Nat):List Nd:=(List.range (n+1)).map fun i=>if 1<=i/\i<=k then xA i else qi
theorem uk(n k:Nat):(nu n k).length=n+1:=by simp[nu]
theorem B1{n k:Nat}(h:i<n+1):cE (nu n k) i=if 1<=i/\i<=k then xA i else qi:=by
 simp[cE,nu,pg h]
theorem acH(n:Nat):nu n 0=List.replicate (n+1) qi:=by
 apply List.ext_getElem
 . simp[nu]
 . grind [nu]
theorem acF{n k:Nat}(h:k<n):iU (nu n k) (k+1)=nu n (k+1):=by
 have b:k+1<(nu n k).length:=by rw[uk];omega
 have a:cE (nu n k) (k+1)=qi:=by rw[B1 o_,if_neg o_]
 unfold iU
 rw[a]
 simp only[qi,ng,if_true]
 apply mS
 intro i
 by_cases hi:i=k+1
 . grind [fW,gd,jQ,uk,B1,qi,xA,Nf]
 . grind [fW,gd,uk,k6,B1]
def newF(n:Nat):FT:=(List.range n).map fun v=>(.nd .nil (v+1) .nil,0)
theorem acI{n:Nat}(h:n<=1000000):Fo (nu n n) (newF n):=by
 have i:kj (newF n)=(List.range n).map (· + 1):=by
  unfold kj newF
  rw[List.flatMap_map]
  induction List.range n with
  | nil=>rfl
  | cons x l k =>
   rw[zz,k]
   rfl
 refine⟨fun e d=>?_,fun e d=>?_,?_,fun j g f=>?_,fun e d=>?_,⟨fun _=>0,fun _ _ _ _ _ _=>rfl,fun e d g=>?_⟩,?_,by rw[uk];omega,by rw[uk];omega⟩
 . obtain⟨v,hv,rfl⟩:=zq.1 d
   have hv:=lV.1 hv
   have c:cE (nu n n) (v+1)=xA (v+1):=by rw[B1 o_,if_pos o_]
   refine⟨⟨o_,by rw[uk];omega⟩,⟨by rw[c];rfl,by rw[c];rfl,by rw[c];rfl⟩,⟨by rw[c];rfl,?_,?_⟩,trivial,trivial⟩
   . rw[c];simp only[Tr.mem,pX,o8,mh,CS,c];rw[Nf];rfl
   . rw[c];exact⟨by simp[xA,Tr.mem],fun j f=>.inl (by simpa[xA,Tr.mem]using f)⟩
 . obtain⟨v,hv,rfl⟩:=zq.1 d
   exact Nat.succ_ne_zero v
 . rw[i]
   exact List.Pairwise.map _ (fun a b (h:a≠b)=>by show a+1≠b+1;omega) uy
 . rw[i]
   rw[uk]at f
   exact zq.2 ⟨j-1,lV.2 o_,o_⟩
 . obtain⟨v,hv,rfl⟩:=zq.1 d
   rw[uk];show 0<n+1;omega
 . obtain⟨v,hv,rfl⟩:=zq.1 d
   exact absurd rfl g
 . rw[B1 o_,if_neg o_];exact⟨rfl,rfl,rfl⟩
theorem UR{α:Type}[Inhabited α]{xs:List α}{i:Nat}{f g:α->α}(h:i<xs.length):cO (cO xs i f) i g=cO xs i (fun x=>g (f x)):=by
 have e:=jQ (f:=f) h
 unfold cO at e ⊢
 rw[e,List.set_set]
theorem ad8(h:i<xs.length):cO (cO (cO xs i (fun x=>{ x with size:=1 })) i (fun x=>{ x with first:=i })) i (fun x=>{ x with total:=IntKind.i64.wrap (1+(cE xs i).i7) })=cO xs i (fun x=>{ x with size:=1,first:=i,total:=IntKind.i64.wrap (1+x.i7) }):=by
 rw[UR h,UR h];rfl
theorem vW{y:List Nd}(a:y=cO xs i (fun x=>{ x with size:=1,first:=i,total:=IntKind.i64.wrap (1+x.i7) }))(h:i<xs.length):iU xs i=ng (ng y i (cE y i).k0) i (cE y i).k1:=by
 have b:(cE y i).k0=(cE xs i).k0:=by rw[a,jQ h]
 have e1:(cE y i).k1=(cE xs i).k1:=by rw[a,jQ h]
 rw[b,e1,a];rfl
theorem ve{k:Nat}(h:k=0):ng xs i k=xs:=by simp[ng,h]
section
variable{y0 y1 y2:List Nd}{k:Nat}
theorem u9(h:k≠0)(a:y0=cO xs i (fun x=>{ x with size:=IntKind.i64.wrap ((cE xs i).size+(cE xs k).size) }))(e1:y1=cO y0 i (fun x=>{ x with total:=IntKind.i64.wrap ((cE y0 i).total+(cE y0 k).total) }))
 (c:mj y1 (cE y1 k).first (cE y1 i).first=true) (b:y2=cO y1 i (fun x=>{ x with first:=(cE y1 k).first })):ng xs i k=y2:=by
 subst a e1 b
 simp only[ng,if_neg h]
 exact if_pos c
theorem u7(h:k≠0)(a:y0=cO xs i (fun x=>{ x with size:=IntKind.i64.wrap ((cE xs i).size+(cE xs k).size) }))(e1:y1=cO y0 i (fun x=>{ x with total:=IntKind.i64.wrap ((cE y0 i).total+(cE y0 k).total) }))
 (b:mj y1 (cE y1 k).first (cE y1 i).first=false):ng xs i k=y1:=by
 have c : ¬ mj y1 (cE y1 k).first (cE y1 i).first=true:=by rw[b];simp
 subst a e1
 simp only[ng,if_neg h]
 exact if_neg c
end
theorem D2(xs:List Nd)(i:Nat):jV xs i=(0,false)\/jV xs i=(0,true)\/jV xs i=(1,true):=by
 unfold jV
 (repeat' split)<;>simp
theorem fT.lD(h:fT xs){s k:Nat}(hi:i<xs.length)(hk:k<xs.length):fT (jj xs i s k):=by
 have f:fT (if s=0 then cO xs i (fun x=>{ x with k0:=k })else cO xs i (fun x=>{ x with k1:=k })):=by
  split
  . exact h.iV hi fun x a b c d e=>⟨hk,b,c,d,e⟩
  . exact h.iV hi fun x a b c d e=>⟨a,hk,c,d,e⟩
 have g:(if s=0 then cO xs i (fun x=>{ x with k0:=k })else cO xs i (fun x=>{ x with k1:=k })).length=xs.length:=by split<;>exact gd
 by_cases hk0:k=0
 . simp only[jj,if_pos hk0]
   exact f
 . simp only[jj,if_neg hk0]
   exact f.iV (by rw[g];exact hk) fun x a b c d e=>⟨a,b,by rw[g];exact hi,d,e⟩
theorem Gc(xs:List Nd)(i s k:Nat):(jj xs i s k).length=xs.length:=by
 unfold jj
 simp only
 (repeat' split)<;>simp only[gd]
theorem LM(xs:List Nd)(i k:Nat):(ng xs i k).length=xs.length:=by
 unfold ng
 simp only
 (repeat' split)<;>simp only[gd]
theorem G4(xs:List Nd)(i:Nat):(iU xs i).length=xs.length:=by
 simp only[iU,LM,gd]
theorem fT.ng(h:fT xs){k:Nat}(hi:i<xs.length)(hk:k<xs.length):fT (ng xs i k):=by
 have g:fT (cO xs i (fun x=>{ x with size:=IntKind.i64.wrap (x.size+(cE xs k).size) })):=h.iV hi fun x a b c d e=>⟨a,b,c,d,e⟩
 have j:(cO xs i (fun x=>{ x with size:=IntKind.i64.wrap (x.size+(cE xs k).size) })).length=xs.length:=gd
 unfold Go.Sx.ng
 simp only
 generalize cO xs i (fun x=>{ x with size:=IntKind.i64.wrap (x.size+(cE xs k).size) })=y0 at g j ⊢
 have f:fT (cO y0 i (fun x=>{ x with total:=IntKind.i64.wrap (x.total+(cE y0 k).total) })):=g.iV o_ fun x a b c d e=>⟨a,b,c,d,e⟩
 have l1:(cO y0 i (fun x=>{ x with total:=IntKind.i64.wrap (x.total+(cE y0 k).total) })).length=y0.length:=gd
 generalize cO y0 i (fun x=>{ x with total:=IntKind.i64.wrap (x.total+(cE y0 k).total) })=y1 at f l1 ⊢
 split
 . exact h
 split
 . exact f.iV o_ fun x a b c d e=>⟨a,b,c,f.first k o_,e⟩
 . exact f
theorem fT.mJ(h:fT xs)(hi:i<xs.length):fT (iU xs i):=by
 have f:fT (cO xs i (fun x=>{ x with size:=1,first:=i,total:=IntKind.i64.wrap (1+x.i7) })):=h.iV hi fun x a b c d e=>⟨a,b,c,hi,e⟩
 have g:(cO xs i (fun x=>{ x with size:=1,first:=i,total:=IntKind.i64.wrap (1+x.i7) })).length=xs.length:=gd
 have a:=h.k0 i hi
 have b:=h.k1 i hi
 unfold iU
 exact(f.ng o_ o_).ng (by rw[LM];omega) (by rw[LM];omega)
def zG(P:Program)(f:FuncId):Bool:=match P.funcs[f]? with
 | some fn => fn.body.isSome && !(fn.name == "runtime.NumGoroutine")
 | none=>false
theorem eN{P:Program}{f:FuncId}(h:zG P f=true:=by kernel_rfl):wG P f:=fun args w=>by
 unfold zG at h
 split at h
 . rename_i fn c
   rw[nZ]at h
   have a : ¬ fn.name = "runtime.NumGoroutine" := by simpa using h.2
   have b:¬ fn.body=none:=fun hb=>by rw[hb]at h;simp at h
   simp only[callFunc,zt]
   simp[program,Sem.run,c,a,b]
 . cases h
theorem om{p:Prop}(h:p:=by first|omega|(simp only[gd];omega)):p:=h
theorem oa{p:Prop}(h:p:=by first|assumption|omega|(simp only[gd];omega)):p:=h
theorem o9{p q:Prop}(a:q)(h:q->p:=by intro a;first|omega|(simp only[gd]at a ⊢;omega)|(simp only[gd]at a;omega)|(simp only[gd];omega)):p:=h a
theorem iO{bs:List (World×List Nat)}{A:fJ}{t m:Nat}{w:World}(a:fT xs)(hs:St bs [A,blk i t (xs.flatMap Nd.cells)] w)(b:xs.length=m:=by first|omega|(simp only[gd];omega)|(rw[Gc];omega)|(rw[G4];omega)|omega):∃ y,y=xs/\y.length=m/\fT y/\St bs [A,blk i t (y.flatMap Nd.cells)] w:=⟨xs,rfl,b,a,hs⟩
section
variable{P:Program}{bs:List (World×List Nat)}{L LL A A' B:List fJ}{R R':fJ}{w w':World}
theorem St.tn(i:Nat)(h:St bs L w)(ht:fP R w w' R')(hi:L[i]? = some R:=by exact rfl)(a:L.set i R' = LL:=by first|(dsimp only[List.set];exact rfl)|exact rfl):St bs LL w' := St.MY i h hi ht a
theorem St.tu(h:St bs (fN A :: B) w)(ht:fP (fN A) w w' (fN A')):St bs (A' ++ B) w' := (St.MY 0 h rfl ht rfl).unpack
theorem St.eT(h:St bs (R' :: L) w')(hb:(w,R.gq)∈bs:=by exact za):fP R w w' R' := h.DD hb
theorem St.eM(h:St bs (R :: L) w')(hb:(w,[])∈bs:=by simp):fP (fN []) w w' R:=h.Qj hb
theorem en{f:FuncId}{fn:Func}{c:Code}{n:Nat}{vs:List Value}{R:Ending->World->Prop}(a:P.funcs[f]? = some fn)(b:fn.ntmps=n)(h:WP none P c (bodyPost P fn R) (Fr n (tU vs 0) []) w)(hb:fn.body=some c:=by exact rfl)(hs:Nat.ble vs.length n=true:=by exact rfl):Calls P f vs.toArray w R:=enter a hb b hs h
variable{ops:Array Oper}{Q:Exit->Act->World->Prop}{n:Nat}{s:List (Nat×Value)}{ds:List Deferred}{r d:Option Nat}{ty:TypeId}{pos:String}{af:Array Edge}{g:Option (Nat×Bool)}{rest:List Oper}
theorem cl{f:FuncId}{az:List Operand}{T:Array TypeId}{vl:List Value}{R:Value->World->Prop}(hc:CR P f vl.toArray w R)(K:∀ v w', R v w' -> WL r P ops Q rest (Fr n (u5 d v s) ds) w')(b:gA ops n s g=true:=by exact rfl)(hvs:az.map (ev n s)=vl:=by exact rfl)(a:zG P f=true:=by kernel_rfl) :
 WL r P ops Q (⟨d,.call ⟨.value (.func f),az.toArray,T⟩,ty,pos,af,g⟩ :: rest) (Fr n s ds) w:=jG b hvs (eN a) hc K
end
section
variable{α:Type}{sz:Nat}{cf:α->List Value}{w w':World}{v u:Value}{xs:List α}{bs:List (World×List Nat)}{L:List fJ}{R:fJ}
theorem St.rr{e:TypeId}(h:St bs L w)(i:Nat)(hi:L[i]? = some (cL cf v e sz xs))(a:∀ x:α,(cf x).length=sz:=by exact fun _=>rfl):gV sz cf (fun b=>v.ownBlock=some b) w v xs:=St.Ae h hi a
theorem St.oR(h:St bs L w)(i:Nat)(hi:L[i]? = some R):Own R w:=St.Lu h hi
theorem St.bc{b o:Nat}{T:TypeId}{cs:List Value}(h:St bs L w)(i:Nat)(hi:L[i]? = some (blk b T cs))(hv:cs[o]? = some v):w.cell? ⟨b,o,none⟩=some v:=St.tZ h hi hv
theorem rO{p:Prop}(h:p:=by first|rfl|omega):p:=h
theorem iX{p:Prop}(h:p:=by rw[kX o_];omega):p:=h
end
section
variable{P:Program}{bs:List (World×List Nat)}{L LL A A' B:List fJ}{R R':fJ}{w w':World}{c:Code}{a:Act}{l:List Oper}{e:Exit}
variable{ops:Array Oper}{Q:Exit->Act->World->Prop}{n:Nat}{s:List (Nat×Value)}{ds:List Deferred}{r d:Option Nat}{ty:TypeId}{pos:String}{af:Array Edge}{g:Option (Nat×Bool)}{rest:List Oper}{f:FuncId}{az:List Operand}{T:Array TypeId}{vl:List Value}{v:Value}
abbrev CQ(P:Program)(f:FuncId)(vs:Array Value)(w:World)(v:Value)(R:fJ):Prop:=CR P f vs w (fun r w' => r=v/\fP R w w' R)
abbrev CK(P:Program)(f:FuncId)(vs:Array Value)(w:World)(v:Value):Prop:=CR P f vs w (fun r w' => r=v/\gE [] w w')
theorem DB(hs:St bs (fN A :: B) w)(hc:Own (fN A) w->CR P f vl.toArray w (fun r w' => r=v/\fP (fN A) w w' (fN A')))(K:∀ w', St bs (A' ++ B) w' -> WL r P ops Q rest (Fr n (u5 d v s) ds) w')(b:gA ops n s g=true:=by exact rfl)(hvs:az.map (ev n s)=vl:=by exact rfl)(a:zG P f=true:=by kernel_rfl) :
 WL r P ops Q (⟨d,.call ⟨.value (.func f),az.toArray,T⟩,ty,pos,af,g⟩ :: rest) (Fr n s ds) w:=cl (hc (hs.oR 0 rfl)) (fun _ w' h=>h.1▸K w' (St.tu hs h.2)) b hvs a
theorem gy(hc:Own (fN A) w->CR P f vl.toArray w (fun r w' => r=v/\fP (fN A) w w' (fN A')))(hs:St bs (A++B) w)(K:∀ w', St bs (A' ++ B) w' -> WL r P ops Q rest (Fr n (u5 d v s) ds) w')(b:gA ops n s g=true:=by exact rfl)(hvs:az.map (ev n s)=vl:=by exact rfl)(a:zG P f=true:=by kernel_rfl) :
 WL r P ops Q (⟨d,.call ⟨.value (.func f),az.toArray,T⟩,ty,pos,af,g⟩ :: rest) (Fr n s ds) w:=DB (St.pack A B hs) hc K b hvs a
theorem gF(i:Nat)(hs:St bs L w)(hc:Own R w->CR P f vl.toArray w (fun r w' => r=v/\fP R w w' R'))(K:∀ w', St bs LL w' -> WL r P ops Q rest (Fr n (u5 d v s) ds) w')(hi:L[i]? = some R:=by exact rfl)(a:L.set i R' = LL:=by first|(dsimp only[List.set];exact rfl)|exact rfl)(c:gA ops n s g=true:=by exact rfl)(hvs:az.map (ev n s)=vl:=by exact rfl)(b:zG P f=true:=by kernel_rfl) :
 WL r P ops Q (⟨d,.call ⟨.value (.func f),az.toArray,T⟩,ty,pos,af,g⟩ :: rest) (Fr n s ds) w:=cl (hc (hs.oR i hi)) (fun _ w' h=>h.1▸K w' (St.tn i hs h.2 hi a)) c hvs b
theorem ig(hs:St bs L w)(hc:CR P f vl.toArray w (fun r w' => r=v/\gE [] w w'))(K:∀ w', St bs L w' -> WL r P ops Q rest (Fr n (u5 d v s) ds) w')(b:gA ops n s g=true:=by exact rfl)(hvs:az.map (ev n s)=vl:=by exact rfl)(a:zG P f=true:=by kernel_rfl) :
 WL r P ops Q (⟨d,.call ⟨.value (.func f),az.toArray,T⟩,ty,pos,af,g⟩ :: rest) (Fr n s ds) w:=cl hc (fun _ w' h=>h.1▸K w' (St.grow hs h.2)) b hvs a
theorem St.eP(h:St ((w,R.gq) :: bs) (A++B) w'):fP R w w' (fN A):=St.DD (St.pack A B h) za
theorem gM{α:Type}{pre:α->List (Nat×Value)}{C:α->World->Prop}{μ:α->Nat}{m:Nat}(x:α)(h:Holds s (pre x))(a:C x w)(hm:μ x<m):Exit.then (Ir n ds pre C μ m) Q .normal (Fr n s ds) w:=again x h a hm
theorem gz{e:BinOp}{x y:Operand}{t t':TypeId}{k:IntKind}{a b:Int}{c:Bool}{d:Nat}(h:(gA ops n s g,ev n s x,ev n s y)=(true,.int k a,.int k b))(hc:lg e a b=some c)(K:WL r P ops Q rest (Fr n ((d,.bool c) :: s) ds) w):WL r P ops Q (⟨some d,.binOp e t x y t', ty,pos,af,g⟩ :: rest) (Fr n s ds) w:=cmp (congrArg Prod.fst h) (congrArg (fun p=>p.2.1) h) (congrArg (fun p=>p.2.2) h) hc K
theorem gL{f:BinOp}{x y:Operand}{t t':TypeId}{k:IntKind}{a b c e:Int}{d:Nat}(h:(gA ops n s g,ev n s x,ev n s y,Bx f a b)=(true,.int k a,.int k b,some c))(i:k.wrap c=e)(K:WL r P ops Q rest (Fr n ((d,.int k e) :: s) ds) w):WL r P ops Q (⟨some d,.binOp f t x y t', ty,pos,af,g⟩ :: rest) (Fr n s ds) w:=ar (congrArg Prod.fst h) (congrArg (fun p=>p.2.1) h) (congrArg (fun p=>p.2.2.1) h) (congrArg (fun p=>p.2.2.2) h) i K
theorem oh{p:Prop}(h:p:=by repeat (first|exact trivial|refine⟨by first|exact rfl|exact js rO,?_⟩)):p:=h
theorem o1{p:Prop}(h:p:=by first|omega|(dsimp only;omega)):p:=h
variable{fn:Func}{t u:Nat}{v':Value}{F:Value->World->Prop}
theorem qP[TT P](d:St bs L w)(N:Nat)(v:Value)(k:F v w)(h:SQ ‹TT P› (fun x=>x=w) bs L 0 r (bodyPost P fn (fun e w' => ∃ v,e = .returned v/\F v w')) .ret (Fr n s [])->SP ‹TT P› (fun x=>x=w) bs L N r Q c a:=by exact run)(b:fn.results = #[.tmp t]:=by exact rfl)(hv:ev n s (.tmp t)=v:=by exact rfl):WP r P c Q a w:=jh d N (gT b hv k) h
theorem gm[TT P](c:St bs L w)(N:Nat)(v:Value)(k:F v w)(h:SQ ‹TT P› (fun x=>x=w) bs L 0 r (bodyPost P fn (fun e w' => ∃ v,e = .returned v/\F v w')) .ret (Fr n s [])->SL ‹TT P› (fun x=>x=w) bs L N r ops Q l a:=by exact run)(b:fn.results = #[.tmp t]:=by exact rfl)(hv:ev n s (.tmp t)=v:=by exact rfl):WL r P ops Q l a w:=fK c N (gT b hv k) h
theorem G2[TT P](d:St bs L w)(N:Nat)(v v' : Value)(k:F (.tuple #[v,v']) w)(h:SQ ‹TT P› (fun x=>x=w) bs L 0 r (bodyPost P fn (fun e w' => ∃ v,e = .returned v/\F v w')) .ret (Fr n s [])->SP ‹TT P› (fun x=>x=w) bs L N r Q c a:=by exact run)(b:fn.results = #[.tmp t,.tmp u]:=by exact rfl)(hv:ev n s (.tmp t)=v:=by exact rfl)(f : ev n s (.tmp u)=v' := by exact rfl):WP r P c Q a w:=jh d N (kC b hv f k) h
theorem jk[TT P](c:St bs L w)(N:Nat)(v v' : Value)(k:F (.tuple #[v,v']) w)(h:SQ ‹TT P› (fun x=>x=w) bs L 0 r (bodyPost P fn (fun e w' => ∃ v,e = .returned v/\F v w')) .ret (Fr n s [])->SL ‹TT P› (fun x=>x=w) bs L N r ops Q l a:=by exact run)(b:fn.results = #[.tmp t,.tmp u]:=by exact rfl)(hv:ev n s (.tmp t)=v:=by exact rfl)(d : ev n s (.tmp u)=v' := by exact rfl):WL r P ops Q l a w:=fK c N (kC b hv d k) h
theorem jU[TT P](c:St bs L w)(N:Nat)(k:F (.tuple #[]) w)(h:SQ ‹TT P› (fun x=>x=w) bs L 0 r (bodyPost P fn (fun e w' => ∃ v,e = .returned v/\F v w')) .normal (Fr n s [])->SL ‹TT P› (fun x=>x=w) bs L N r ops Q l a:=by exact run)(b:fn.results = #[]:=by exact rfl):WL r P ops Q l a w:=fK c N (lZ b k) h
theorem gj{vs:List Value}{E:Ending->World->Prop}(a:P.funcs[f]? = some fn)(h:WP none P c (bodyPost P fn E) (Fr n (tU vs 0) []) w)(b:fn.ntmps=n:=by conv=>lhs;whnf)(hb:fn.body=some c:=by exact rfl)(hs:Nat.ble vs.length n=true:=by exact rfl):Calls P f vs.toArray w E:=en a b h hb hs
theorem ja[TT P]{vs:List Value}{E:Ending->World->Prop}{ops' : Array Oper}{Q' : Exit->Act->World->Prop}{l' : List Oper}{a' : Act}(b:P.funcs[f]? = some fn)(a:Own (fN L) w)(N:Nat)(k:St [(w,(fN L).gq)] L w->WL none P ops' Q' l' a' w)(d:fn.ntmps=n:=by conv=>lhs;whnf)(hb:fn.body=some c:=by exact rfl)(hs:Nat.ble vs.length n=true:=by exact rfl)(h:SL ‹TT P› (fun x=>x=w) [(w,(fN L).gq)] L 0 none ops' Q' l' a' -> SP ‹TT P› (fun x=>x=w) [(w,(fN L).gq)] L N none (bodyPost P fn E) c (Fr n (tU vs 0) []):=by exact run):Calls P f vs.toArray w E:=en b d (fM (Own.of a) N (k (Own.of a)) h) hb hs
theorem iE[TT P]{vs:List Value}{E:Ending->World->Prop}{ops' : Array Oper}{Q' : Exit->Act->World->Prop}{l' : List Oper}{a' : Act}(a:P.funcs[f]? = some fn)(N:Nat)(k:St [(w,[])] [] w->WL none P ops' Q' l' a' w)(b:fn.ntmps=n:=by conv=>lhs;whnf)(hb:fn.body=some c:=by exact rfl)(hs:Nat.ble vs.length n=true:=by exact rfl)(h:SL ‹TT P› (fun x=>x=w) [(w,[])] [] 0 none ops' Q' l' a' -> SP ‹TT P› (fun x=>x=w) [(w,[])] [] N none (bodyPost P fn E) c (Fr n (tU vs 0) []):=by exact run):Calls P f vs.toArray w E:=en a b (fM (St.init w) N (k (St.init w)) h) hb hs
end
def iJ(n c:Nat):Nat:=if c+1=n then 0 else c+1
def dst(n a b:Nat):Nat:=if a<=b then b-a else b+n-a
theorem Lq{n c:Nat}(h:c<n):iJ n c<n:=by unfold iJ;split<;>omega
theorem acP{n c:Nat}(h:c<n):(c+1)%n=iJ n c:=by
 unfold iJ
 split
 . rename_i e;rw[e,Nat.mod_self]
 . exact Nat.mod_eq_of_lt o_
theorem JY{n a b:Nat}(c:a<n)(hb:b<n):dst n a b<n:=by unfold dst;split<;>omega
theorem zD(n a:Nat):dst n a a=0:=by simp[dst]
theorem F3{n a b:Nat}(c:a<n)(hb:b<n):dst n a b=0↔a=b:=by unfold dst;split<;>omega
theorem Ym{n a c:Nat}(b:a<n)(hc:c<n)(h:iJ n c≠a):dst n a (iJ n c)=dst n a c+1:=by
 grind [dst,iJ]
theorem F1{n c:Nat}(a:p<n)(hc:c<n)(h:c≠p):dst n (iJ n c) p+1=dst n c p:=by
 grind [dst,iJ]
theorem FZ{n a b c:Nat}(d:a<n)(hb:b<n)(hc:c<n)(h:dst n a b=dst n a c):b=c:=by
 grind [dst]
abbrev sG(n a b q:Nat):Prop:=dst n a q<dst n a b
def sH(n:Nat)(cs:List Nat)(hm:Nat->Nat):Prop:=∀ c i q,c<n->q<n->cE cs c=i+1->sG n (hm i) c q->cE cs q≠0
def vJ(n:Nat)(cs:List Nat)(ok:Nat->Bool):Nat->Nat->Nat×Bool
 | 0,_=>(0,false)
 | f+1,c=>if cE cs c=0 then(c,false)else if ok (cE cs c-1)then(c,true)else vJ n cs ok f (iJ n c)
theorem QA{n:Nat}{cs:List Nat}{ok:Nat->Bool}{z:Nat}(k:z<n)(d:cE cs z=0):∀ (f c:Nat),c<n->dst n c z<f -> 
 ∃ r,r<n/\dst n c r<=dst n c z/\(∀ q,q<n->dst n c q<dst n c r->cE cs q≠0/\ok (cE cs q-1)=false)/\((vJ n cs ok f c=(r,false)/\cE cs r=0)\/(vJ n cs ok f c=(r,true)/\cE cs r≠0/\ok (cE cs r-1)=true)):=by
 intro f
 induction f with
 | zero=>intro c _ h;omega
 | succ f l =>
  intro c a m
  unfold vJ
  by_cases h1:cE cs c=0
  . grind [zD]
  . rw[if_neg h1]
    by_cases h2:ok (cE cs c-1)=true
    . grind [zD]
    . rw[if_neg h2]
      have g:c≠z:=fun e=>h1 (by rw[e];exact d)
      have hs:=F1 k a g
      obtain⟨r,b,hd,o,j⟩:=l (iJ n c) (Lq a) o_
      have i:c≠r:=by
       grind
      have t:=F1 b a i
      refine⟨r,b,o_,fun q s p=>?_,j⟩
      by_cases hqc:c=q
      . subst hqc
        exact⟨h1,by simpa using h2⟩
      . grind [F1]
theorem Y4{n:Nat}{cs:List Nat}{ok:Nat->Bool}(f:sH n cs hm)(hp:p<n)(hi:cE cs p=i+1)(c:hm i<n)(o:ok i=true)(t:∀ q j,q<n->cE cs q=j+1->ok j=true->q=p)(k:∃ z,z<n/\cE cs z=0):vJ n cs ok n (hm i)=(p,true):=by
 obtain⟨z,d,l⟩:=k
 obtain⟨r,g,hd,s,h⟩:=QA (ok:=ok) d l n (hm i) c (JY c d)
 rcases h with ⟨e,a⟩|⟨e,a,m⟩
 . exfalso
   rcases CT (dst n (hm i) r) (dst n (hm i) p)with b|b
   . exact f p i r hp g hi b a
   . grind [dst,FZ]
 . grind
theorem Y3{n:Nat}{cs:List Nat}{ok:Nat->Bool}{c:Nat}(hc:c<n)(e:∀ q j,q<n->cE cs q=j+1->ok j=false)(b:∃ z,z<n/\cE cs z=0):∃ r,r<n/\vJ n cs ok n c=(r,false)/\cE cs r=0/\∀ q,q<n->sG n c r q->cE cs q≠0:=by
 obtain⟨z,a,d⟩:=b
 obtain⟨r,g,hd,f,h⟩:=QA (ok:=ok) a d n c hc (JY hc a)
 grind
theorem sH.put{n:Nat}{cs:List Nat}{r:Nat}(h:sH n cs hm)(o:cs.length=n)(s:r<n)(l:cE cs r=0)(t:∀ q,q<n->sG n (hm i) r q->cE cs q≠0)(m:hm i<n):sH n (cO cs r (fun _=>i+1)) hm:=by
 intro c j q b e a d
 have g:=fun q=>jH (xs:=cs) (k:=r) (j:=q) (f:=fun _=>i+1) o_
 rw[g]at a ⊢
 split
 . omega
 . rename_i p
   split at a
   . grind
   . exact h c j q b e a d
structure qC (n:Nat) (hm:Nat->Nat) (i0:Nat) (cs0 cs:List Nat) (hole c z:Nat):Prop where
 len:cs.length=n
 xe:hole<n
 PU:c<n
 EO:z<n
 home:∀ p i,p<n->p≠hole->cE cs p=i+1->hm i<n
 inj:∀ p q,p<n->q<n->p≠hole->q≠hole->cE cs p≠0->cE cs p=cE cs q->p=q
 mem:∀ i,(∃ p,p<n/\p≠hole/\cE cs p=i+1)↔i≠i0/\∃ p,p<n/\cE cs0 p=i+1
 way:∀ p i q,p<n->q<n->p≠hole->q≠hole->cE cs p=i+1->sG n (hm i) p q->cE cs q≠0
 SI:∀ p i,p<n->p≠hole->cE cs p=i+1->sG n (hm i) p hole->dst n hole c<dst n hole p
 zero:cE cs z=0
 zc:dst n hole c<dst n hole z
theorem qC.start{n:Nat}{i0:Nat}{cs:List Nat}{hole z:Nat}(d:sH n cs hm)(h:cs.length=n)(b:hole<n)(hi:cE cs hole=i0+1)(l:z<n)(c:cE cs z=0)(f:∀ p i,p<n->cE cs p=i+1->hm i<n)(g:∀ p q,p<n->q<n->cE cs p≠0->cE cs p=cE cs q->p=q):qC n hm i0 cs cs hole hole z:=by
 have o:hole≠z:=fun e=>by rw[e,c]at hi;omega
 refine⟨h,b,b,l,fun p i hp _=>f p i hp,fun p q hp a _ _=>g p q hp a,fun i=>⟨?_,?_⟩,fun p i q hp a _ _ k j=>d p i q hp a k j,fun p i hp m _ _=>?_,c,?_⟩
 . grind
 . grind
 . grind [zD,F3]
 . grind [zD,F3]
section
variable{n:Nat}{i0:Nat}{cs0 cs:List Nat}{hole c z:Nat}
theorem qC.next(h:qC n hm i0 cs0 cs hole c z):iJ n c<n/\iJ n c≠hole/\dst n hole (iJ n c)=dst n hole c+1/\c≠z/\dst n (iJ n c) z<dst n c z:=by
 have a:=h.zc
 have b:=h.PU
 have d:=h.xe
 have e:=h.EO
 grind [F1,iJ,dst,JY,Lq,Ym]
theorem qC.skip(h:qC n hm i0 cs0 cs hole c z)(hi:cE cs (iJ n c)=i+1)(t:dst n (hm i) (iJ n c)<dst n hole (iJ n c)):qC n hm i0 cs0 cs hole (iJ n c) z:=by
 obtain⟨a,l,m,o,q⟩:=h.next
 refine⟨h.len,h.xe,a,h.EO,h.home,h.inj,h.mem,h.way,fun p j hp b d g=>?_,h.zero,?_⟩
 . have r:=h.SI p j hp b d g
   have:p≠iJ n c:=by
    intro e
    subst e
    have:j=i:=by omega
    subst this
    have s:=h.home _ _ a b d
    have k:=h.xe
    unfold sG dst at *
    grind
   have f:dst n hole p≠dst n hole (iJ n c):=fun e=>this (FZ h.xe hp a e)
   omega
 . have:z≠iJ n c:=fun e=>by
    have:=h.zero
    rw[e,hi]at this
    omega
   have f:dst n hole z≠dst n hole (iJ n c):=fun e=>this (FZ h.xe h.EO a e)
   have:=h.zc
   omega
theorem qC.move(h:qC n hm i0 cs0 cs hole c z)(hi:cE cs (iJ n c)=i+1)(w:¬ dst n (hm i) (iJ n c)<dst n hole (iJ n c)):qC n hm i0 cs0 (cO cs hole (fun _=>i+1)) (iJ n c) (iJ n c) z:=by
 obtain⟨b,l,E,F,G⟩:=h.next
 have y:=h.len
 have v:=h.xe
 have x:=h.home _ _ b l hi
 have g:=fun q=>jH (xs:=cs) (k:=hole) (j:=q) (f:=fun _=>i+1) o_
 have C:hole≠z:=fun e=>by
  have:=h.zc
  rw[<-e,zD]at this
  omega
 have D:z≠iJ n c:=fun e=>by
  have:=h.zero
  rw[e,hi]at this
  omega
 have B:sG n (hm i) (iJ n c) hole:=by
  unfold sG dst at *
  (repeat' split at w)<;>(repeat' split)<;>omega
 refine⟨by rw[gd];exact y,b,b,h.EO,fun p j hp o a=>?_,fun p q hp m t u s d=>?_,fun j=>?_,fun p j q hp m t u a r=>?_,fun p j hp o a r=>?_,?_,?_⟩
 . rw[g]at a
   split at a
   . have:j=i:=by omega
     subst this
     exact x
   . rename_i A
     exact h.home p j hp (fun e=>A e.symm) a
 . rw[g]at s d
   rw[g]at d
   by_cases e1:hole=p
   . by_cases e2:hole=q
     . omega
     . rw[if_pos e1,if_neg e2]at d
       have:=h.inj q (iJ n c) m b (fun e=>e2 e.symm) l o_ o_
       exact absurd this u
   . by_cases e2:hole=q
     . rw[if_neg e1,if_pos e2]at d
       have:=h.inj p (iJ n c) hp b (fun e=>e1 e.symm) l o_ o_
       exact absurd this t
     . rw[if_neg e1,if_neg e2]at d
       rw[if_neg e1]at s
       exact h.inj p q hp m (fun e=>e1 e.symm) (fun e=>e2 e.symm) s d
 . rw[<-h.mem j]
   constructor
   . grind [iJ]
   . rintro⟨p,hp,o,a⟩
     by_cases e1:p=iJ n c
     . refine⟨hole,v,fun e=>l e.symm,?_⟩
       rw[g,if_pos rfl]
       rw[e1,hi]at a
       omega
     . refine⟨p,hp,e1,?_⟩
       grind
 . rw[g]at a ⊢
   by_cases e2:hole=q
   . rw[if_pos e2];omega
   . rw[if_neg e2]
     by_cases e1:hole=p
     . rw[if_pos e1]at a
       have:j=i:=by omega
       subst this
       subst e1
       exact h.way (iJ n c) j q b m l (fun e=>e2 e.symm) hi (Nat.lt_trans r B)
     . rw[if_neg e1]at a
       exact h.way p j q hp m (fun e=>e1 e.symm) (fun e=>e2 e.symm) a r
 . rw[zD]
   have:=mt (F3 b hp).1 (fun e=>o e.symm)
   omega
 . rw[g,if_neg C]
   exact h.zero
 . rw[zD]
   have:=mt (F3 b h.EO).1 (fun e=>D e.symm)
   omega
theorem qC.done(h:qC n hm i0 cs0 cs hole c z)(m:cE cs (iJ n c)=0)(E:∃ p,p<n/\cE cs0 p=i0+1) :
 sH n (cO cs hole (fun _=>0)) hm/\(∀ p q,p<n->q<n->cE (cO cs hole (fun _=>0)) p≠0->cE (cO cs hole (fun _=>0)) p=cE (cO cs hole (fun _=>0)) q->p=q) /\
 (∀ i,(∃ p,p<n/\cE (cO cs hole (fun _=>0)) p=i+1)↔i≠i0/\∃ p,p<n/\cE cs0 p=i+1):=by
 obtain⟨o,s,t,C,u⟩:=h.next
 have F:=h.len
 have A:=h.xe
 have l:=fun q=>jH (xs:=cs) (k:=hole) (j:=q) (f:=fun _=>0) o_
 refine⟨fun p i q hp g a r=>?_,fun p q hp g d b=>?_,fun i=>?_⟩
 . rw[l]at a ⊢
   by_cases e1:hole=p
   . rw[if_pos e1]at a;omega
   . rw[if_neg e1]at a
     have D:=h.home p i hp (fun e=>e1 e.symm) a
     by_cases e2:hole=q
     . exfalso
       subst e2
       have v:=h.SI p i hp (fun e=>e1 e.symm) a r
       have w:p≠iJ n c:=fun e=>by rw[e,m]at a;omega
       have x:dst n hole p≠dst n hole (iJ n c):=fun e=>w (FZ A hp o e)
       have y:sG n (hm i) p (iJ n c):=by
        have B:dst n hole (iJ n c)<dst n hole p:=by omega
        clear v x t u
        unfold sG dst at *
        grind
       exact h.way p i (iJ n c) hp o (fun e=>e1 e.symm) s a y m
     . rw[if_neg e2]
       exact h.way p i q hp g (fun e=>e1 e.symm) (fun e=>e2 e.symm) a r
 . rw[l]at d b
   rw[l]at b
   by_cases e1:hole=p
   . rw[if_pos e1]at d;omega
   . rw[if_neg e1]at d b
     by_cases e2:hole=q
     . rw[if_pos e2]at b;omega
     . rw[if_neg e2]at b
       exact h.inj p q hp g (fun e=>e1 e.symm) (fun e=>e2 e.symm) d b
 . rw[<-h.mem i]
   constructor
   . rintro⟨p,hp,a⟩
     grind
   . rintro⟨p,hp,G,a⟩
     grind
end
structure gC where
 ix:Nat
 key:Int
 deriving Inhabited
def gC.cells(x:gC):List Value:=[.int .i64 x.ix,.int .i64 x.key]
def iQ(a b:gC):Prop:=a.key<b.key\/a.key=b.key/\a.ix<b.ix
instance (a b:gC):Decidable (iQ a b):=by unfold iQ;infer_instance
theorem DL(a:gC):¬ iQ a a:=by unfold iQ;omega
theorem KY{a b c:gC}(h:iQ a b)(k:iQ b c):iQ a c:=by unfold iQ at *;omega
theorem RL{a b:gC}(h:iQ a b):¬ iQ b a:=by unfold iQ at *;omega
theorem GS{a b c:gC}(h:¬ iQ a b)(k:¬ iQ b c):¬ iQ a c:=by unfold iQ at *;omega
def ry(a b:gC):Int:=if a.key<b.key then -1 else if b.key<a.key then 1 else if a.ix<b.ix then -1 else if b.ix<a.ix then 1 else 0
theorem oU{a b:gC}:ry a b<0↔iQ a b:=by
 grind [ry,iQ]
abbrev pa(p:Nat):Nat:=(p-1) / 2
def Ord(xs:List gC):Prop:=∀ j,0<j->j<xs.length->¬ iQ (cE xs j) (cE xs (pa j))
structure uB (xs:List gC) (p:Nat):Prop where
 rest:∀ j,0<j->j<xs.length->j≠p->pa j≠p->¬ iQ (cE xs j) (cE xs (pa j))
 kids:0<p->∀ j,0<j->j<xs.length->pa j=p->¬ iQ (cE xs j) (cE xs (pa p))
structure vr (xs:List gC) (p:Nat):Prop where
 rest:∀ j,0<j->j<xs.length->pa j≠p->¬ iQ (cE xs j) (cE xs (pa j))
 kids:0<p->∀ j,0<j->j<xs.length->pa j=p->¬ iQ (cE xs j) (cE xs (pa p))
def iP(xs:List gC)(p q:Nat):List gC:=cO (cO xs p (fun _=>cE xs q)) q (fun _=>cE xs p)
theorem nE(xs:List gC)(p q:Nat):(iP xs p q).length=xs.length:=by simp[iP,gd]
theorem Ch{xs:List gC}(hp:p<xs.length)(a:q<xs.length)(j:Nat):cE (iP xs p q) j=if q=j then cE xs p else if p=j then cE xs q else cE xs j:=by
 grind [iP,jH,gd]
theorem uB.up{xs:List gC}(h:uB xs p)(i:0<p)(hp:p<xs.length)(m:iQ (cE xs p) (cE xs (pa p))):uB (iP xs p (pa p)) (pa p):=by
 have o:pa p<p:=by simp only[pa];omega
 have hs:=Ch hp (show pa p<xs.length by omega)
 refine⟨fun j b a l d=>?_,fun f j b a e=>?_⟩
 . rw[nE]at a
   rw[hs,hs]
   by_cases e1:p=j
   . subst e1;exact absurd rfl d
   . rw[if_neg (fun e=>l e.symm),if_neg e1,if_neg (fun e=>d e.symm)]
     by_cases e2:p=pa j
     . rw[if_pos e2]
       exact h.kids i j b a e2.symm
     . rw[if_neg e2]
       exact h.rest j b a (fun e=>e1 e.symm) (fun e=>e2 e.symm)
 . rw[nE]at a
   have n:pa (pa p)<pa p:=by simp only[pa]at f ⊢;omega
   have ht:cE (iP xs p (pa p)) (pa (pa p))=cE xs (pa (pa p)):=by rw[hs,if_neg o_,if_neg o_]
   have g:¬ iQ (cE xs (pa p)) (cE xs (pa (pa p))):=h.rest (pa p) f o_ o_ o_
   rw[ht,hs]
   have k:pa p≠j:=fun e' => by rw[<-e']at e;simp only[pa]at *;omega
   rw[if_neg k]
   by_cases e1:p=j
   . rw[if_pos e1];exact g
   . rw[if_neg e1]
     have c:=h.rest j b a (fun e=>e1 e.symm) o_
     rw[e]at c
     exact GS c g
theorem uB.stop{xs:List gC}(h:uB xs p)(d:¬ (0<p/\iQ (cE xs p) (cE xs (pa p)))):vr xs p:=by
 refine⟨fun j a b f=>?_,h.kids⟩
 by_cases e:j=p
 . subst e
   exact fun c=>d ⟨a,c⟩
 . exact h.rest j a b e f
def jT(xs:List gC)(p:Nat):Nat :=
 let f:=if 2*p+1<xs.length/\iQ (cE xs (2*p+1)) (cE xs p)then 2*p+1 else p
 if 2*p+2<xs.length/\iQ (cE xs (2*p+2)) (cE xs f)then 2*p+2 else f
theorem ac5(a:0<j):pa j=p↔j=2*p+1\/j=2*p+2:=by simp only[pa];omega
theorem Wo{xs:List gC}(h:jT xs p=p):∀ j,0<j->j<xs.length->pa j=p->¬ iQ (cE xs j) (cE xs p):=by
 intro j a b e
 unfold jT at h
 grind
theorem Pb{xs:List gC}(h:jT xs p≠p):jT xs p<xs.length/\p<jT xs p/\pa (jT xs p)=p/\iQ (cE xs (jT xs p)) (cE xs p)/\∀ j,0<j->j<xs.length->pa j=p->¬ iQ (cE xs j) (cE xs (jT xs p)):=by
 have f:∀ j,0<j->j<xs.length->pa j=p->j=2*p+1\/j=2*p+2:=fun j d _ e=>(ac5 d).1 e
 have c:jT xs p=(if 2*p+2<xs.length/\iQ (cE xs (2*p+2)) (cE xs (if 2*p+1<xs.length/\iQ (cE xs (2*p+1)) (cE xs p)then 2*p+1 else p))then 2*p+2 else(if 2*p+1<xs.length/\iQ (cE xs (2*p+1)) (cE xs p)then 2*p+1 else p)):=rfl
 rw[c]at h ⊢
 by_cases h1:2*p+1<xs.length/\iQ (cE xs (2*p+1)) (cE xs p)
 . rw[if_pos h1]at h ⊢
   by_cases h2:2*p+2<xs.length/\iQ (cE xs (2*p+2)) (cE xs (2*p+1))
   . rw[if_pos h2]at h ⊢
     refine⟨h2.1,o_,by simp only[pa];omega,KY h2.2 h1.2,fun j b a e=>?_⟩
     grind [RL,DL]
   . rw[if_neg h2]at h ⊢
     refine⟨h1.1,o_,by simp only[pa];omega,h1.2,fun j b a e=>?_⟩
     grind [DL]
 . rw[if_neg h1]at h ⊢
   by_cases h2:2*p+2<xs.length/\iQ (cE xs (2*p+2)) (cE xs p)
   . rw[if_pos h2]at h ⊢
     refine⟨h2.1,o_,by simp only[pa];omega,h2.2,fun j b a e=>?_⟩
     grind [KY,DL]
   . rw[if_neg h2]at h
     exact absurd rfl h
theorem vr.down{xs:List gC}{c:Nat}(h:vr xs p)(hc:jT xs p=c)(i:c≠p):vr (iP xs p c) c:=by
 subst hc
 obtain⟨d,n,f,m,g⟩:=Pb i
 generalize jT xs p=c at *
 have hs:=Ch (show p<xs.length by omega) d
 refine⟨fun j b a k => ?_,fun _ j b a e=>?_⟩
 . rw[nE]at a
   rw[hs,hs]
   by_cases e1:c=j
   . grind [RL]
   . rw[if_neg e1,if_neg (show ¬ c=pa j from fun e=>k e.symm)]
     by_cases e2:p=j
     . subst e2
       rw[if_pos rfl,if_neg (by simp only[pa];omega)]
       exact h.kids b c o_ d f
     . rw[if_neg e2]
       by_cases e3:p=pa j
       . rw[if_pos e3]
         exact g j b a e3.symm
       . rw[if_neg e3]
         exact h.rest j b a (fun e=>e3 e.symm)
 . rw[nE]at a
   have l:c<j:=by simp only[pa]at e;omega
   rw[hs,hs,if_neg o_,if_neg o_,f,if_neg o_,if_pos rfl]
   have:=h.rest j b a o_
   rw[e]at this
   exact this
theorem vr.stop{xs:List gC}(h:vr xs p)(hb:jT xs p=p):Ord xs:=by
 intro j b a
 by_cases e:pa j=p
 . rw[e];exact Wo hb j b a e
 . exact h.rest j b a e
structure Hp (n:Nat) (xs:List gC) (pl:List Nat):Prop where
 ix:∀ p,p<xs.length->(cE xs p).ix<n
 key:∀ p,p<xs.length->ij .i64 (cE xs p).key
 at_:∀ p,p<xs.length->cE pl (cE xs p).ix=p+1
 of:∀ i p,i<n->cE pl i=p+1->p<xs.length/\(cE xs p).ix=i
 pl:n<=pl.length
 len:xs.length<=n
theorem Hp.inj{n:Nat}{xs:List gC}(h:Hp n xs pl)(hp:p<xs.length)(b:q<xs.length)(e:(cE xs p).ix=(cE xs q).ix):p=q:=by
 have a:=h.at_ p hp
 have c:=h.at_ q b
 rw[e]at a
 omega
def jw(pl:List Nat)(i p:Nat):List Nat:=cO pl i (fun _=>p)
theorem Hp.swap{n:Nat}{xs:List gC}(h:Hp n xs pl)(hp:p<xs.length)(f:q<xs.length) :
 Hp n (iP xs p q) (jw (jw pl (cE (iP xs p q) p).ix (p+1)) (cE (iP xs p q) q).ix (q+1)):=by
 have hs:=Ch hp f
 have l:cE (iP xs p q) q=cE xs p:=by rw[hs,if_pos rfl]
 have k:cE (iP xs p q) p=cE xs q:=by
  rw[hs]
  split
  . rename_i e;rw[e]
  . rw[if_pos rfl]
 rw[l,k]
 have m:=h.pl
 have o:=h.ix p hp
 have r:=h.ix q f
 have g:∀ i,cE (jw (jw pl (cE xs q).ix (p+1)) (cE xs p).ix (q+1)) i=if (cE xs p).ix=i then q+1 else if (cE xs q).ix=i then p+1 else cE pl i:=fun i=>by
  unfold jw
  rw[jH (by rw[gd];omega),jH o_]
 refine⟨fun j c=>?_,fun j c=>?_,fun j c=>?_,fun i j hi d=>?_,by simp[jw,gd];exact m,by rw[nE];exact h.len⟩
 . rw[nE]at c
   rw[hs]
   split
   . exact o
   . split
     . exact r
     . exact h.ix j c
 . rw[nE]at c
   rw[hs]
   split
   . exact h.key p hp
   . split
     . exact h.key q f
     . exact h.key j c
 . rw[nE]at c
   rw[g,hs]
   by_cases e1:q=j
   . rw[if_pos e1,if_pos rfl,e1]
   . rw[if_neg e1]
     by_cases e2:p=j
     . rw[if_pos e2]
       subst e2
       by_cases e3:(cE xs p).ix=(cE xs q).ix
       . exact absurd (h.inj hp f e3).symm e1
       . rw[if_neg e3,if_pos rfl]
     . rw[if_neg e2,if_neg (fun e=>e2 (h.inj hp c e)),if_neg (fun e=>e1 (h.inj f c e))]
       exact h.at_ j c
 . rw[g]at d
   rw[nE,hs]
   by_cases e1:(cE xs p).ix=i
   . rw[if_pos e1]at d
     grind
   . rw[if_neg e1]at d
     by_cases e2:(cE xs q).ix=i
     . rw[if_pos e2]at d
       grind
     . rw[if_neg e2]at d
       obtain⟨a,b⟩:=h.of i j hi d
       refine⟨a,?_⟩
       grind
theorem Hp.push{n:Nat}{xs:List gC}(h:Hp n xs pl){k:Int}(hi:i<n)(q:cE pl i=0)(hk:ij .i64 k):Hp n (xs++[⟨i,k⟩]) (jw pl i (xs.length+1)):=by
 have t:=h.pl
 have o:∀ j,cE (jw pl i (xs.length+1)) j=if i=j then xs.length+1 else cE pl j:=fun j=>jH o_
 have f:∀ p,cE (xs++[⟨i,k⟩]) p=if p<xs.length then cE xs p else if p=xs.length then⟨i,k⟩else default:=fun p=>by
  grind [cE]
 have s:∀ p,p<xs.length->(cE xs p).ix≠i:=fun p hp e=>by
  have:=h.at_ p hp
  rw[e,q]at this
  omega
 refine⟨fun p hp=>?_,fun p hp=>?_,fun p hp=>?_,fun j p g hp=>?_,by simp[jw,gd];exact t,?_⟩
 . rw[f]
   split
   . rename_i c;exact h.ix p c
   . grind
 . rw[f]
   split
   . rename_i c;exact h.key p c
   . grind
 . rw[o,f]
   by_cases c:p<xs.length
   . rw[if_pos c,if_neg (fun e=>s p c e.symm)]
     exact h.at_ p c
   . grind
 . rw[o]at hp
   rw[f]
   split at hp
   . grind
   . obtain⟨a,b⟩:=h.of j p g hp
     grind
 . -- places of different indexes: no more entries than indexes
   have r:((xs++[(⟨i,k⟩:gC)]).map gC.ix).Nodup:=by
    rw[ni,zo]
    refine⟨?_,s_,fun a m b hb e=>?_⟩
    . refine yB.2 fun a b m hb y w=>?_
      simp only[zm]at m hb
      refine absurd (h.inj m hb ?_) o_
      grind [cE]
    . simp at hb
      subst hb e
      obtain⟨x,d,z⟩:=zq.1 m
      obtain⟨p,hp,rfl⟩:=H6.1 d
      grind [cE]
   have:=nodup_len n _ r fun j g=>by
    obtain⟨x,d,rfl⟩:=zq.1 g
    rcases zj.1 d with d|d
    . obtain⟨p,hp,rfl⟩:=H6.1 d
      have:=h.ix p hp
      simpa[cE,hp]using this
    . simp at d
      subst d
      exact hi
   simpa using this
where
 nodup_len:∀ (n:Nat) (L:List Nat),L.Nodup->(∀ j∈L,j<n)->L.length<=n
  | 0,L,_,h=>by
   cases L with
   | nil=>simp
   | cons x L=>exact absurd (h x s_) o_
  | n+1,L,f,h=>by
   have c:=nodup_len n (L.erase n) (f.erase n) (fun j g=>by
    have u:=h j (List.mem_of_mem_erase g)
    have v:j≠n:=fun e=>by subst e;exact(List.Nodup.not_mem_erase f) g
    omega)
   have:=List.length_erase_le (a:=n) (l:=L)
   by_cases hm:n∈L
   . have:=H9 hm
     have:=Ic hm
     omega
   . rw[List.erase_of_not_mem hm]at c;omega
theorem tf{α:Type}[Inhabited α]{xs:List α}{e:α}:e∈xs↔∃ p,p<xs.length/\cE xs p=e:=by
 constructor
 . intro h
   obtain⟨p,hp,rfl⟩:=H6.1 h
   exact⟨p,hp,by simp[cE,hp]⟩
 . rintro⟨p,hp,rfl⟩
   exact zg (fW hp)
theorem Mt{xs:List gC}(hp:p<xs.length)(a:q<xs.length)(e:gC):e∈iP xs p q↔e∈xs:=by
 have hs:=Ch hp a
 grind [tf,nE]
theorem Ord.first{xs:List gC}(h:Ord xs):∀ p,p<xs.length->¬ iQ (cE xs p) (cE xs 0):=by
 intro p
 induction p using Nat.strongRecOn with
 | _ p b =>
  intro hp
  by_cases h0:p=0
  . subst h0;exact DL _
  . have a:pa p<p:=by simp only[pa];omega
    exact GS (h p o_ hp) (b (pa p) a o_)
theorem Ord.min{xs:List gC}(h:Ord xs){e:gC}(a:e∈xs):¬ iQ e (cE xs 0):=by
 obtain⟨p,hp,rfl⟩:=tf.1 a
 exact h.first p hp
theorem tg{α:Type}[Inhabited α]{xs:List α}{m j:Nat}(h:j<m):cE (xs.take m) j=cE xs j:=by
 grind [cE]
theorem Hp.cut{n:Nat}{xs:List gC}{m:Nat}(h:Hp n xs pl)(hm:xs.length=m+1):Hp n (xs.take m) (jw pl (cE xs m).ix 0):=by
 have f:=h.pl
 have g:=h.ix m o_
 have d:∀ j,cE (jw pl (cE xs m).ix 0) j=if (cE xs m).ix=j then 0 else cE pl j:=fun j=>jH o_
 have c:(xs.take m).length=m:=by rw[zw];omega
 refine⟨fun p hp=>?_,fun p hp=>?_,fun p hp=>?_,fun i p hi hp=>?_,by simp[jw,gd];exact f,by have:=h.len;omega⟩
 . rw[c]at hp;rw[tg hp];exact h.ix p o_
 . rw[c]at hp;rw[tg hp];exact h.key p o_
 . rw[c]at hp
   rw[tg hp,d,if_neg (fun e=>by have:=h.inj (p:=m) (q:=p) o_ o_ e;omega)]
   exact h.at_ p o_
 . rw[d]at hp
   split at hp
   . omega
   . rename_i k
     obtain⟨a,b⟩:=h.of i p hi hp
     grind [tg]
theorem XZ{n:Nat}{xs:List gC}{m:Nat}(h:Hp n xs pl)(hm:xs.length=m+1)(e:gC):e∈xs.take m↔e∈xs/\e.ix≠(cE xs m).ix:=by
 have b:(xs.take m).length=m:=by rw[zw];omega
 rw[tf,tf,b]
 constructor
 . rintro⟨j,a,rfl⟩
   rw[tg a]
   exact⟨⟨j,o_,rfl⟩,fun e=>by have:=h.inj (p:=j) (q:=m) o_ o_ e;omega⟩
 . rintro⟨⟨j,a,rfl⟩,c⟩
   have:j≠m:=fun e=>c (by rw[e])
   exact⟨j,o_,tg o_⟩
theorem Ord.cut{xs:List gC}{m:Nat}(h:Ord xs)(hm:xs.length=m+1)(hp:p<m):uB ((iP xs p m).take m) p:=by
 have d:((iP xs p m).take m).length=m:=by rw[zw,nE];omega
 have hs:=Ch (xs:=xs) (show p<xs.length by omega) (show m<xs.length by omega)
 refine⟨fun j b a i k=>?_,fun b j g a e=>?_⟩
 . rw[d]at a
   have c:pa j<m:=by simp only[pa];omega
   rw[tg a,tg c,hs,hs,if_neg o_,if_neg (fun e=>i e.symm),if_neg o_,if_neg (fun e=>k e.symm)]
   exact h j b o_
 . rw[d]at a
   have c:pa p<p:=by simp only[pa];omega
   have f:j≠p:=by rintro rfl;omega
   rw[tg a,tg o_,hs,hs,if_neg o_,if_neg (fun e=>f e.symm),if_neg o_,if_neg o_]
   exact GS (h j g o_) (by rw[e];exact h p b o_)
theorem Ord.XX{xs:List gC}{m:Nat}(h:Ord xs)(hm:m<=xs.length):Ord (xs.take m):=by
 intro j a c
 rw[zw]at c
 have b:pa j<m:=by simp only[pa];omega
 rw[tg o_,tg b]
 exact h j a o_
theorem afV{xs:List gC}(hp:p<xs.length):iP xs p p=xs:=by
 have e:∀ (l:List gC),p<l.length->cO l p (fun _=>cE l p)=l:=fun l a=>by
  apply mS
  grind [cO,fW]
 have e1:=e xs hp
 unfold iP
 rw[e1,e1]
theorem adO{xs:List gC}(h:Ord xs)(e:gC):uB (xs++[e]) xs.length:=by
 have c:∀ p,p<xs.length->cE (xs++[e]) p=cE xs p:=fun p hp=>by
  grind [cE]
 refine⟨fun j a b g i=>?_,fun a j f b e' => ?_⟩
 . simp at b
   have d:pa j<j:=by simp only[pa];omega
   rw[c j o_,c (pa j) o_]
   exact h j a o_
 . grind
section
variable{r:Option Nat}{P:Program}{ops:Array Oper}{Q:Exit->Act->World->Prop}{rest:List Oper}{n:Nat}{s:List (Nat×Value)}{ds:List Deferred}{w:World}
variable{d:Nat}{dd:Option Nat}{ty t t' e:TypeId}{pos:String}{af:Array Edge}{g:Option (Nat×Bool)}{x y:Operand}{a:Addr}{sz by_:Nat}{z:Value}
theorem aeZ(ht:P.underlying t=some (.pointer e))(hi:TI P e (sz+1) by_ z):(Op.equalIn (k+1) t (.pointer (some a)) (.pointer (some a))).run P w = .ok true w:=by
 simp[Op.equalIn,run_underlying ht,hi.size,sameAddr]
theorem YC(b:ev n s x = .pointer (some a))(c:ev n s y = .pointer (some a))(ht:P.underlying t=some (.pointer e))(hi:TI P e (sz+1) by_ z) :
 (execOp (ev n s) ⟨dd,.binOp .eql t x y t', ty,pos,af,g⟩).run P w = .ok (.value (.bool true)) w:=by
 simp[execOp,b,c,eqGuard,binOp,Op.equal,Op.maxDepth,aeZ 9999 ht hi]
theorem w6(b:gA ops n s g=true)(c:ev n s x = .pointer (some a))(f:ev n s y = .pointer (some a))(ht:P.underlying t=some (.pointer e))(hi:TI P e (sz+1) by_ z)(K:WL r P ops Q rest (Fr n ((d,.bool true) :: s) ds) w):WL r P ops Q (⟨some d,.binOp .eql t x y t', ty,pos,af,g⟩ :: rest) (Fr n s ds) w:=pw b (fun _=>YC c f ht hi) K
end
theorem xF(b:Nat){a:Nat}(h:a<=9223372036854775807):IntKind.i64.wrap ((a:Int).tdiv (b:Int))=((a / b:Nat):Int):=by
 have:a / b<=a:=Nat.div_le_self _ _
 rw[Int.tdiv_eq_ediv_of_nonneg o_,show (a:Int) / (b:Int)=((a / b:Nat):Int) from rfl]
 generalize a / b=c at this
 rw[IntKind.wrap_i64]
 omega
theorem DY(b:Nat){a:Nat}:(a:Int).tmod (b:Int)=((a%b:Nat):Int):=by
 grind
def kI(x y:Int):Int:=if x<y then -1 else if y<x then 1 else 0
theorem PV(x y:Int):ij .i64 (kI x y):=by
 show (-9223372036854775808:Int)<=_/\_<=(9223372036854775807:Int)
 unfold kI
 (repeat' split)<;>omega
def qN:List Int->Int
 | []=>0
 | x :: l=>if x=0 then qN l else x
theorem Sy{xs:List Int}{k:Nat}(h:∀ j x,j<k->xs[j]? = some x->x=0):qN xs=qN (xs.drop k):=by
 induction xs generalizing k with
 | nil=>simp[qN]
 | cons y xs b =>
  cases k with
  | zero=>rfl
  | succ k =>
   have a:=h 0 y o_ rfl
   grind [qN]
theorem Sv{xs:List Int}{k:Nat}{x:Int}(h:∀ j x,j<k->xs[j]? = some x->x=0)(c:xs[k]? = some x)(a:x≠0):qN xs=x:=by
 rw[Sy h]
 have:=(zp.1 c)
 obtain⟨b,e⟩:=this
 rw[Eu b,e]
 simp[qN,a]
theorem Sw{xs:List Int}{k:Nat}(h:∀ j x,j<k->xs[j]? = some x->x=0)(hk:k=xs.length):qN xs=0:=by
 rw[Sy h,hk]
 simp[qN]
theorem SA{xs:List Int}{k:Nat}{y:Int}(h:∀ j x,j<k->xs[j]? = some x->x=0)(b:xs[k]? = some y)(a:y=0):∀ j x,j<k+1->xs[j]? = some x->x=0:=by
 grind
theorem SB(a b:gC):qN [kI a.key b.key,kI a.ix b.ix]=ry a b:=by
 grind [qN,kI,ry]
structure jN (n:Nat) (ps:List (Option Nat)) (pl:List Nat):Prop where
 len:pl.length=64*ps.length
 room:n<=pl.length
 zero:∀ j,ps[j]? = some none->∀ i,i / 64=j->cE pl i=0
 val:∀ i,cE pl i<=65536
 n:n<=65536
 top:ps.length<=1000000
theorem jN.at{n:Nat}{ps:List (Option Nat)}{pl:List Nat}(h:jN n ps pl){i:Nat}(hi:i<n):i / 64<ps.length:=by
 have a:=h.len
 have b:=h.room
 omega
theorem jN.Xg{n:Nat}(h:jN n ps pl)(a:ps[j]? = some none):List.replicate 64 (Value.int .i64 0)=((pl.drop (64*j)).take 64).flatMap (fun(x:Nat)=>[.int .i64 (x:Int)]):=by
 have f:=(zp.1 a).1
 have g:=h.len
 have e:(pl.drop (64*j)).take 64=List.replicate 64 0:=by
  rw[Nt]
  refine⟨by rw[zw,CM];omega,fun x c=>?_⟩
  obtain⟨q,b,rfl⟩:=H6.1 c
  rw[zw,CM]at b
  have d:=h.zero j a (64*j+q) o_
  grind [cE]
 rw[e]
 rfl
theorem jN.set{n:Nat}(h:jN n ps pl){b:Nat}(hi:i<n)(hp:p<=65536)(hb:ps[i / 64]? = some (some b)):jN n ps (jw pl i p):=by
 have d:=h.room
 refine⟨by simp only[jw,gd];exact h.len,by simp only[jw,gd];exact d,fun j a q c=>?_,fun q=>?_,h.n,h.top⟩
 . unfold jw
   rw[jH o_,if_neg (fun e=>by subst e;rw[c]at hb;rw[a]at hb;cases hb)]
   exact h.zero j a q c
 . unfold jw
   rw[jH o_]
   split
   . exact hp
   . exact h.val q
theorem jN.made{n:Nat}{ps:List (Option Nat)}{pl:List Nat}(h:jN n ps pl){j b:Nat}:jN n (ps.set j (some b)) pl:=by
 refine⟨by rw[List.length_set];exact h.len,h.room,fun q a=>?_,h.val,h.n,by rw[List.length_set];exact h.top⟩
 rw[wD]at a
 split at a
 . split at a<;>cases a
 . exact h.zero q a
instance:Inhabited (Option Nat):=⟨none⟩
abbrev fL(x:Nat):List Value:=[.int .i64 (x:Int)]
theorem paN(h:p<=65536):IntKind.i64.wrap (((p:Int)-1).tdiv 2)=((pa p:Nat):Int):=by
 cases p with
 | zero=>rfl
 | succ p =>
  have e:((p+1:Nat):Int)-1=(p:Int):=by omega
  rw[e]
  have:=xF 2 (a:=p) o_
  exact this
def sN(xs:List gC)(p:Nat):Int:=if 0<p/\iQ (cE xs p) (cE xs (pa p))then(pa p:Int)else -1
def oQ(xs:List gC)(p:Nat):Int:=if jT xs p=p then -1 else(jT xs p:Int)
theorem VO{xs:List gC}(h:sN xs p ≠ -1):sN xs p=((pa p:Nat):Int)/\0<p/\iQ (cE xs p) (cE xs (pa p)):=by
 grind [sN]
theorem VP{xs:List gC}(h:sN xs p = -1):¬ (0<p/\iQ (cE xs p) (cE xs (pa p))):=by
 grind [sN]
theorem Wj{xs:List gC}(h:oQ xs p ≠ -1):oQ xs p=((jT xs p:Nat):Int)/\jT xs p≠p:=by
 grind [oQ]
theorem Wk{xs:List gC}(h:oQ xs p = -1):jT xs p=p:=by
 grind [oQ]
structure pI (n:Nat) (xs ys:List gC) (ps qs:List (Option Nat)) (pl:List Nat):Prop where
 hp:Hp n ys pl
 gX:jN n qs pl
 len:ys.length=xs.length
 mem:∀ e,e∈ys↔e∈xs
 qj:qs.length=ps.length
theorem pI.swap{n:Nat}{xs ys:List gC}{c a:List (Option Nat)}(h:pI n xs ys ps c pl)(hp:p<ys.length)(b:q<ys.length)(f:a.length=c.length)(d:jN n a (jw (jw pl (cE (iP ys p q) p).ix (p+1)) (cE (iP ys p q) q).ix (q+1))):pI n xs (iP ys p q) ps a (jw (jw pl (cE (iP ys p q) p).ix (p+1)) (cE (iP ys p q) q).ix (q+1)) :=
 ⟨h.hp.swap hp b,d,by rw[nE,h.len],fun e=>(Mt hp b e).trans (h.mem e),f.trans h.qj⟩
theorem pI.refl{n:Nat}{xs:List gC}(h:Hp n xs pl)(a:jN n ps pl):pI n xs xs ps ps pl:=⟨h,a,rfl,fun _=>Iff.rfl,rfl⟩
variable{zs:List gC}
theorem pI.trans{n:Nat}{xs ys:List gC}{b c:List (Option Nat)}{a:List Nat}(h:pI n xs ys ps b pl)(k:pI n ys zs b c a):pI n xs zs ps c a :=
 ⟨k.hp,k.gX,k.len.trans h.len,fun e=>(k.mem e).trans (h.mem e),k.qj.trans h.qj⟩
theorem jN.copy{n k:Nat}{b:List (Option Nat)}(h:jN n ps pl)(c:rC ps b k)(hk:k=ps.length):jN n b pl :=
 ⟨by rw[c.len];exact h.len,h.room,fun j a i hi=>h.zero j (c.done j (by have:=(zp.1 a).1;have:=c.len;omega) a) i hi,h.val,h.n,by rw[c.len];exact h.top⟩
theorem jN.new{n m:Nat}(b:n<=65536)(hm:m=(n+63) / 64):jN n (List.replicate m none) (List.replicate (64*m) 0):=by
 have a:∀ i,cE (List.replicate (64*m) 0) i=0:=fun i=>by
  unfold cE
  rw[sw]
  split<;>rfl
 exact⟨s_,by simp;omega,fun j _ i _=>a i,fun i=>by rw[a];omega,b,by simp;omega⟩
theorem Hp.new{n m:Nat}(hm:m=(n+63) / 64):Hp n [] (List.replicate (64*m) 0):=by
 have a:∀ i,cE (List.replicate (64*m) 0) i=0:=fun i=>by
  unfold cE
  rw[sw]
  split<;>rfl
 exact⟨fun p hp=>by simp at hp,fun p hp=>by simp at hp,fun p hp=>by simp at hp,fun i p _ hp=>by rw[a]at hp;omega,by simp;omega,s_⟩
theorem Ord.nil:Ord []:=fun j _ a=>by simp at a
structure gW where
 st:Int
 after:Int
 times:Int
 deriving Inhabited
def gW.cells(x:gW):List Value:=[.int .i64 x.st,.int .i64 x.after,.int .u64 x.times]
structure As where
 n:Nat
 begun:Nat
 used:Nat
 last:Int
 sl:List gW
 fl:List Nat
 ps:List (Option Nat)
def CW(sl:List gW):Int->List Nat->Prop
 | l,[]=>l = -1
 | l,i :: r=>l=(i:Int)/\CW sl (cE sl i).after r
def As.iw(A:As)(i:Nat):Prop:=i<A.begun/\i∉A.fl
structure As.ok (A:As):Prop where
 n:A.n<=65536
 le:A.begun<=A.n
 qj:A.ps.length=(A.begun+63) / 64
 ps:∀ j,j<A.ps.length->∃ b,A.ps[j]? = some (some b)
 sl:A.sl.length=64*A.ps.length
 nodup:A.fl.Nodup
 fl:∀ i∈A.fl,i<A.begun
 chain:CW A.sl A.last A.fl
 st:∀ i,i<A.begun->(cE A.sl i).st=if i∈A.fl then 2 else 1
 used:A.used+A.fl.length=A.begun
theorem DQ:∀ (L M:List Nat),L.Nodup->(∀ j∈L,j∈M)->L.length<=M.length
 | [],_,_,_=>by simp
 | x :: L,M,hn,h=>by
  have b:=h x s_
  have c:=DQ L (M.erase x) (zu.1 hn).2 (fun j a=>(List.mem_erase_of_ne (fun e=>(zu.1 hn).1 (by rw[<-e];exact a))).2 (h j (by simp[a])))
  rw[H9 b]at c
  have:=Ic b
  simp only[zb]
  omega
theorem B7(n:Nat)(L:List Nat)(b:L.Nodup)(h:∀ j∈L,j<n):L.length<=n:=by
 have:=DQ L (List.range n) b (fun j a=>lV.2 (h j a))
 simpa using this
theorem As.ok.room{A:As}(h:A.ok)(hi:i<A.begun):i<A.sl.length/\i / 64<A.ps.length:=by
 have a:=h.sl
 have b:=h.qj
 omega
theorem As.ok.at{A:As}(h:A.ok){i:Nat}(hi:i<A.begun):∃ b,A.ps[i / 64]? = some (some b):=h.ps _ (h.room hi).2
theorem CW.congr{sl a : List gW}:∀ {r:List Nat} {l:Int},CW sl l r->(∀ i∈r,(cE a i).after=(cE sl i).after)->CW a l r
 | [],_,h,_=>h
 | i :: r,l,h,he=>⟨h.1,by rw[he i s_];exact h.2.congr fun j b=>he j (by simp[b])⟩
def tk(x:gW):gW:=⟨1,-1,IntKind.u64.wrap (x.times+1)⟩
theorem MT{sl:List gW}(hi:i<sl.length){t:Int}(ht:t=IntKind.u64.wrap ((cE sl i).times+1)):cO (cO (cO sl i (fun x=>{ x with st:=1 })) i (fun x=>{ x with after := -1 })) i (fun x=>{ x with times:=t })=cO sl i tk:=by
 subst ht
 have e:∀ (l:List gW) (f g:gW->gW),i<l.length->cO (cO l i f) i g=cO l i (fun x=>g (f x)):=fun l f g h=>by
  have e:=jQ (f:=f) h
  unfold cO at e ⊢
  rw[e,List.set_set]
 rw[e _ _ _ hi,e _ _ _ hi]
 rfl
theorem As.ok.pop{A:As}(h:A.ok){r:List Nat}(a:A.fl=i :: r) :
 As.ok ⟨A.n,A.begun,A.used+1,(cE A.sl i).after,cO A.sl i tk,r,A.ps⟩/\(∀ j,As.iw ⟨A.n,A.begun,A.used+1,(cE A.sl i).after,cO A.sl i tk,r,A.ps⟩ j↔A.iw j\/j=i)/\¬ A.iw i/\i<A.begun/\A.last=(i:Int):=by
 have d:=h.chain
 have c:=h.nodup
 rw[a]at d c
 rw[zu]at c
 have l:i<A.begun:=h.fl i (by rw[a];simp)
 have m:=(h.room l).1
 have g:=fun j=>jH (xs:=A.sl) (k:=i) (j:=j) (f:=tk) m
 refine⟨⟨h.n,h.le,h.qj,h.ps,by simp only[gd];exact h.sl,c.2,fun j b=>h.fl j (by rw[a];simp[b]),?_,fun j b=>?_,?_⟩,fun j=>?_,fun g=>g.2 (by rw[a];simp),l,d.1⟩
 . refine d.2.congr fun j b=>?_
   grind
 . simp only
   rw[g]
   split
   . rename_i e
     subst e
     rw[if_neg c.1]
     rfl
   . rename_i e
     have:=h.st j b
     grind
 . have:=h.used
   grind
 . grind [As.iw]
theorem As.ok.fresh{A:As}(h:A.ok)(d:A.fl=[])(v:A.begun<A.n){ps2:List (Option Nat)}{sl2:List gW}{b:Nat}(hb:(A.begun%64=0/\ps2=A.ps++[some b]/\sl2=A.sl++List.replicate 64 ⟨0,0,0⟩)\/(A.begun%64≠0/\ps2=A.ps/\sl2=A.sl)) :
 As.ok ⟨A.n,A.begun+1,A.used+1,A.last,cO sl2 A.begun tk,[],ps2⟩/\(∀ j,As.iw ⟨A.n,A.begun+1,A.used+1,A.last,cO sl2 A.begun tk,[],ps2⟩ j↔A.iw j\/j=A.begun)/\¬ A.iw A.begun/\A.last = -1/\A.begun<sl2.length/\∃ c,ps2[A.begun / 64]? = some (some c):=by
 have a:=h.chain
 have q:=h.sl
 have u:=h.qj
 rw[d]at a
 have r:ps2.length=(A.begun+1+63) / 64/\sl2.length=64*ps2.length/\(∀ j,j<ps2.length->∃ b,ps2[j]? = some (some b))/\∀ j,j<A.begun->cE sl2 j=cE A.sl j:=by
  rcases hb with ⟨e,rfl,rfl⟩|⟨e,rfl,rfl⟩
  . refine⟨by simp;omega,by simp;omega,fun j g=>?_,fun j g=>?_⟩
    . rw[Ie]
      split
      . exact h.ps j (by assumption)
      . grind
    . grind [cE]
  . exact⟨o_,q,h.ps,fun j _=>rfl⟩
 obtain⟨s,p2,p,t⟩:=r
 have o:A.begun<sl2.length:=by omega
 have l:=fun j=>jH (xs:=sl2) (k:=A.begun) (j:=j) (f:=tk) o
 refine⟨⟨h.n,by show A.begun+1<=A.n;omega,s,p,by simp only[gd];exact p2,yE,fun i hi=>by simp at hi,a,fun j g=>?_,?_⟩,fun j=>?_,fun l=>absurd l.1 o_,a,o,p _ o_⟩
 . simp only[pn,if_false]
   rw[l]
   split
   . rfl
   . rename_i e
     have m : j<A.begun:=by
      have:j<A.begun+1:=g
      omega
     rw[t j m, h.st j m, d]
     simp
 . have:=h.used
   rw[d]at this
   simp at this ⊢
   omega
 . grind [As.iw]
theorem As.ok.full{A:As}(h:A.ok)(b:A.used<A.n):(∃ i r,A.fl=i :: r)\/(A.fl=[]/\A.begun<A.n):=by
 have a:=h.used
 cases hf:A.fl with
 | cons i r=>exact .inl ⟨i,r,rfl⟩
 | nil =>
  grind
theorem As.ok.free{A:As}(h:A.ok)(hi:A.iw i){sl2:List gW}(hs:sl2=cO (cO A.sl i (fun x=>{ x with st:=2 })) i (fun x=>{ x with after:=A.last })) :
 As.ok ⟨A.n,A.begun,A.used-1,(i:Int),sl2,i :: A.fl,A.ps⟩/\(∀ j,As.iw ⟨A.n,A.begun,A.used-1,(i:Int),sl2,i :: A.fl,A.ps⟩ j↔A.iw j/\j≠i)/\0<A.used:=by
 obtain⟨b,c⟩:=hi
 have m:=(h.room b).1
 have l:=h.used
 have k:0<A.used:=by
  have g:(i :: A.fl).length<=A.begun:=by
   have f:(i :: A.fl).Nodup:=zu.2 ⟨c,h.nodup⟩
   exact B7 A.begun _ f fun j a=>by
    rcases ze.1 a with rfl|a
    . exact b
    . exact h.fl j a
  simp only[zb]at g
  omega
 have d:∀ j,cE sl2 j=if i=j then { cE A.sl i with st:=2,after:=A.last } else cE A.sl j:=fun j=>by
  grind [jH,gd,jQ,k6]
 refine⟨⟨h.n,h.le,h.qj,h.ps,by rw[hs];simp only[gd];exact h.sl,zu.2 ⟨c,h.nodup⟩,fun j a=>?_,⟨rfl,?_⟩,fun j a=>?_,by simp only[zb];omega⟩,fun j=>?_,k⟩
 . rcases ze.1 a with rfl|a
   . exact b
   . exact h.fl j a
 . rw[d,if_pos rfl]
   refine h.chain.congr fun j a=>?_
   grind
 . simp only
   rw[d]
   split
   . rename_i e
     subst e
     simp
   . rename_i e
     rw[h.st j a]
     grind
 . grind [As.iw]
def As.list(A:As)(k:Nat):List Nat:=(List.range k).filter fun i=>decide ((cE A.sl i).st=1)
theorem As.RD(A:As)(k:Nat):A.list (k+1)=if (cE A.sl k).st=1 then A.list k++[k]else A.list k:=by
 unfold As.list
 rw[rA,qy]
 grind
theorem As.RC(A:As):∀ k,(A.list k).length<=k:=fun k=>by
 have:=qU (fun i=>decide ((cE A.sl i).st=1)) (List.range k)
 simpa[As.list]using this
theorem As.ok.qh{A:As}(h:A.ok)(i:Nat):i∈A.list A.begun↔A.iw i:=by
 simp only[As.list,z7,lV,decide_eq_true_eq,As.iw]
 constructor
 . rintro⟨a,b⟩
   refine⟨a,fun c=>?_⟩
   rw[h.st i a,if_pos c]at b
   omega
 . rintro⟨a,b⟩
   exact⟨a,by rw[h.st i a,if_neg b]⟩
theorem As.DK(A:As)(k:Nat):(A.list k).Pairwise (· < ·):=List.Pairwise.filter _ Nq
theorem As.ok.BX{A:As}(h:A.ok):(A.list A.begun).length=A.used:=by
 have f:(A.list A.begun++A.fl).Nodup:=by
  rw[zo]
  refine⟨(A.DK _).imp (fun h=>AY h),h.nodup,fun a d b hb e=>?_⟩
  subst e
  exact((h.qh a).1 d).2 hb
 have g:(A.list A.begun++A.fl).length<=A.begun:=B7 _ _ f fun j c=>by
  rcases zj.1 c with c|c
  . exact((h.qh j).1 c).1
  . exact h.fl j c
 have i:(List.range A.begun).length<=(A.list A.begun++A.fl).length:=by
  refine DQ _ _ uy fun j c=>?_
  rw[lV]at c
  by_cases e:j∈A.fl
  . exact yC _ e
  . exact sj _ ((h.qh j).2 ⟨c,e⟩)
 have k:=h.used
 grind
def As.new(n:Nat):As:=⟨n,0,0,-1,[],[],[]⟩
theorem As.uX{n:Nat}(b:n<=65536):(As.new n).ok :=
 ⟨b,ko _,by simp[As.new],fun j a=>by simp[As.new]at a,rfl,yE,fun i hi=>by simp[As.new]at hi,rfl,fun i hi=>by simp[As.new]at hi,rfl⟩
theorem As.ok.copy{A:As}(h:A.ok){a:List (Option Nat)}(c:a.length=A.ps.length)(d:∀ j,j<a.length->∃ b,a[j]? = some (some b)):As.ok { A with ps:=a } :=
 ⟨h.n,h.le,by show a.length=_;rw[c];exact h.qj,d,by show A.sl.length=_;rw[h.sl,c],h.nodup,h.fl,h.chain,h.st,h.used⟩
theorem agb{α:Type}(l:List α)(B k:Nat):l.take (B*k)++(l.drop (B*k)).take B=l.take (B*(k+1)):=by
 rw[Nat.mul_add,tF,List.take_add]
structure yG (qs:List (Option Nat)) (k:Nat):Prop where
 len:qs.length=k
 all:∀ j,j<qs.length->∃ b,qs[j]? = some (some b)
theorem yG.start:yG [] 0:=⟨rfl,fun j a=>by simp at a⟩
theorem yG.next{a:List (Option Nat)}{k b:Nat}(h:yG a k):yG (a++[some b]) (k+1) :=
 ⟨by simp[h.len],fun j c=>by
  rw[Ie]
  split
  . exact h.all j (by assumption)
  . simp at c
    have:j-a.length=0:=by omega
    rw[this]
    exact⟨b,rfl⟩⟩
theorem Xh{α:Type}{l:List α}{B m k:Nat}(a:l.length=B*m)(hk:k<m):((l.drop (B*k)).take B).length=B/\(l.take (B*k)).length=B*k:=by
 have:B*(k+1)<=B*m:=CH _ hk
 grind
structure AW where
 bv:Value
 A:As
structure AW.put (A A2:As) (i:Nat):Prop where
 n:A2.n=A.n
 used:A2.used=A.used+1
 iw:∀ j,A2.iw j↔A.iw j\/j=i
 new:¬ A.iw i
 p8:(i<A.begun/\A2.begun=A.begun)\/(i=A.begun/\A2.begun=A.begun+1)
structure AW.del (A A2:As) (i:Nat):Prop where
 n:A2.n=A.n
 p8:A2.begun=A.begun
 used:A2.used=A.used-1
 pos:0<A.used
 iw:∀ j,A2.iw j↔A.iw j/\j≠i
def lN(a:Int):Int:=(tY .xor .u64 a (a.fdiv (2 ^ 33))).getD 0
def mX(c a:Int):Int:=IntKind.u64.wrap (a*c)
def BP(id:Int):Int:=lN (mX 14181476777654086739 (lN (mX 18397679294719823053 (lN id))))
def lE(n:Nat)(id:Int):Nat:=(BP id%(n:Int)).toNat
theorem zJ{n:Nat}{id:Int}(h:0<n):lE n id<n:=by
 have a:=Int.emod_lt_of_pos (BP id) (show (0:Int)<n by omega)
 have b:=EA (BP id) (show (n:Int)≠0 by omega)
 unfold lE
 omega
theorem aaf{n:Nat}{id:Int}(h:0<n):BP id%(n:Int)=(lE n id:Int):=by
 have a:=EA (BP id) (show (n:Int)≠0 by omega)
 unfold lE
 omega
def P2(n:Nat):Prop:=∃ k,k<=40/\n=2 ^ k
theorem P2.pos{n:Nat}(h:P2 n):0<n:=by
 obtain⟨k,_,rfl⟩:=h
 exact Nat.two_pow_pos k
theorem P2.le{n:Nat}(h:P2 n):n<=1099511627776:=by
 obtain⟨k,a,rfl⟩:=h
 calc 2 ^ k<=2 ^ 40:=Nat.pow_le_pow_right d_ a
  _=1099511627776:=by decide
theorem P2.UN{n:Nat}(h:P2 n)(x:Int):((BitVec.ofInt 64 x) &&& (BitVec.ofInt 64 ((n:Int)-1))).toNat=(x%(n:Int)).toNat:=by
 have g:=h.pos
 have f:=h.le
 obtain⟨k,d,rfl⟩:=h
 rw[BitVec.toNat_and,BitVec.toNat_ofInt,BitVec.toNat_ofInt]
 have e:(((2 ^ k:Nat):Int)-1)%((2 ^ 64:Nat):Int)=((2 ^ k-1:Nat):Int):=by
  grind
 rw[e,nX,Nat.and_two_pow_sub_one_eq_mod]
 have hd:(((2 ^ k:Nat):Int)) ∣ ((2 ^ 64:Nat):Int):=by
  refine Int.natCast_dvd_natCast.2 (Nat.pow_dvd_pow 2 o_)
 have c:0<=x%((2 ^ 64:Nat):Int):=EA _ d_
 have a:=Int.emod_emod_of_dvd x hd
 have b:((x%((2 ^ 64:Nat):Int)).toNat%2 ^ k:Nat)=((x%((2 ^ 64:Nat):Int))%((2 ^ k:Nat):Int)).toNat:=by
  grind
 rw[b,a]
theorem P2.OZ{n:Nat}(h:P2 n)(x:Int):tY .and .i64 x ((n:Int)-1)=some (x%(n:Int)):=by
 have a:=Int.emod_lt_of_pos x (show (0:Int)<n by have:=h.pos;omega)
 have b:=EA x (show (n:Int)≠0 by have:=h.pos;omega)
 have c:=h.le
 have e:=h.UN x
 show some (IntKind.i64.wrap (((BitVec.ofInt 64 x) &&& (BitVec.ofInt 64 ((n:Int)-1))).toNat:Int))=_
 rw[e,kX o_]
 congr 1
 omega
theorem P2.V5{n:Nat}(h:P2 n)(x:Int):tY .and .u64 x ((n:Int)-1)=some (x%(n:Int)):=by
 have a:=Int.emod_lt_of_pos x (show (0:Int)<n by have:=h.pos;omega)
 have b:=EA x (show (n:Int)≠0 by have:=h.pos;omega)
 have c:=h.le
 have e:=h.UN x
 show some (IntKind.u64.wrap (((BitVec.ofInt 64 x) &&& (BitVec.ofInt 64 ((n:Int)-1))).toNat:Int))=_
 rw[e,Ej o_]
 congr 1
 omega
theorem P2.nx{n c:Nat}(h:P2 n)(hc:c<n):tY .and .i64 ((c:Int)+1) ((n:Int)-1)=some ((iJ n c:Nat):Int):=by
 rw[h.OZ,<-acP hc]
 rfl
theorem P2.dst{n a b:Nat}(h:P2 n)(c:a<n)(hb:b<n):tY .and .i64 ((b:Int)-(a:Int)) ((n:Int)-1)=some ((dst n a b:Nat):Int):=by
 rw[h.OZ]
 congr 1
 unfold Sx.dst
 split
 . rw[Int.emod_eq_of_lt o_ o_]
   omega
 . rw[show (b:Int)-(a:Int)=((b:Int)-a+n)+n*(-1) by omega,Int.add_mul_emod_self_left,Int.emod_eq_of_lt o_ o_]
   omega
theorem Ni(a:Int):tY .xor .u64 a (a.fdiv (2 ^ 33))=some (lN a):=rfl
theorem P2.home{n:Nat}(h:P2 n)(id:Int):tY .and .u64 (BP id) ((n:Int)-1)=some ((lE n id:Nat):Int):=by
 rw[h.V5,aaf h.pos]
def iB(x:Int):List Value:=[.int .u64 x]
structure TW where
 iv:Value
 cv:Value
 w:AW
 ids:List Int
 cs:List Nat
abbrev TW.A(t:TW):As:=t.w.A
abbrev TW.n(t:TW):Nat:=t.cs.length
structure TW.ok (t:TW):Prop where
 p2:P2 t.n
 top:t.n<=1000000
 two:2<=t.n
 room:2*t.A.n<=t.n
 an:t.A.n<=65536
 uR:t.ids.length=t.A.begun
 ids:∀ i,ij .u64 (cE t.ids i)
 cell:∀ i,(∃ p,p<t.n/\cE t.cs p=i+1)↔t.A.iw i
 inj:∀ p q,p<t.n->q<t.n->cE t.cs p≠0->cE t.cs p=cE t.cs q->p=q
 uniq:∀ i j,t.A.iw i->t.A.iw j->cE t.ids i=cE t.ids j->i=j
 G0:sH t.n t.cs (fun i=>lE t.n (cE t.ids i))
 p8:t.A.begun<=t.A.n
 ul:t.A.used<=t.A.n
structure TW.Sz (n:Nat):Prop where
 p2:P2 n
 two:2<=n
 top:n<=1000000
theorem TW.ok.sz{t:TW}(h:t.ok):TW.Sz t.n:=⟨h.p2,h.two,h.top⟩
def TW.mem(t:TW)(id:Int):Prop:=∃ i,t.A.iw i/\cE t.ids i=id
theorem TW.ok.val{t:TW}(h:t.ok)(hp:p<t.n)(hc:cE t.cs p=i+1):t.A.iw i/\i<t.A.begun/\i<t.ids.length/\i<t.A.n:=by
 have a:=(h.cell i).1 ⟨p,hp,hc⟩
 have b:=a.1
 have c:=h.uR
 have d:=h.p8
 exact⟨a,b,o_,o_⟩
theorem TW.ok.zero{t:TW}(h:t.ok):∃ z,z<t.n/\cE t.cs z=0:=by
 by_cases hz:∃ z,z<t.n/\cE t.cs z=0
 . exact hz
 . exfalso
   have a:∀ p,p<t.n->cE t.cs p≠0:=fun p hp c=>hz ⟨p,hp,c⟩
   have d:((List.range t.n).map fun p=>cE t.cs p-1).length<=t.A.n:=by
    refine B7 _ _ ?_ ?_
    . unfold List.Nodup
      rw[Ij]
      refine List.Pairwise.imp_of_mem ?_ (Nq (n:=t.n))
      intro p q hp b g e
      rw[lV]at hp b
      have a1:=a p hp
      have a2:=a q b
      have:=h.inj p q hp b a1 o_
      omega
    . intro j f
      obtain⟨p,hp,rfl⟩:=zq.1 f
      rw[lV]at hp
      have a1:=a p hp
      exact(h.val hp (i:=cE t.cs p-1) o_).2.2.2
   rw[zm,mD]at d
   have:=h.room
   have:=h.two
   omega
def TW.find(t:TW)(id:Int):Nat×Bool:=vJ t.n t.cs (fun i=>cE t.ids i==id) t.n (lE t.n id)
theorem TW.ok.J6{t:TW}(h:t.ok)(hi:t.A.iw i):∃ p,p<t.n/\cE t.cs p=i+1/\t.find (cE t.ids i)=(p,true):=by
 obtain⟨p,hp,a⟩:=(h.cell i).2 hi
 refine⟨p,hp,a,?_⟩
 refine Y4 (hm:=fun i=>lE t.n (cE t.ids i)) h.G0 hp a (zJ (by have:=h.two;omega)) s_ ?_ h.zero
 intro q j b c e
 have d:=(h.val b c).1
 have:=h.uniq j i d hi (by simpa using e)
 subst this
 exact h.inj q p b hp o_ o_
theorem TW.ok.QB{t:TW}(h:t.ok){id:Int}(c:¬ t.mem id):∃ r,r<t.n/\t.find id=(r,false)/\cE t.cs r=0/\∀ q,q<t.n->sG t.n (lE t.n id) r q->cE t.cs q≠0:=by
 refine Y3 (zJ (by have:=h.two;omega)) ?_ h.zero
 intro q j d a
 have b:=(h.val d a).1
 have:cE t.ids j≠id:=fun e=>c ⟨j,b,e⟩
 simpa using this
def uZ(ids:List Int)(i:Nat)(id:Int):List Int:=cO (if i=ids.length then ids++[0]else ids) i (fun _=>id)
theorem Tc{id:Int}(h:i<=l.length)(j:Nat):cE (uZ l i id) j=if i=j then id else cE l j:=by
 grind [uZ,jH,cE]
theorem adP{id:Int}(h:i<=l.length):(uZ l i id).length=if i=l.length then l.length+1 else l.length:=by
 unfold uZ
 rw[gd]
 split<;>simp
variable{G:TW}{aw:AW}
variable{t:TW}
theorem TW.ok.put(h:t.ok){id:Int}(G:¬ t.mem id)(L:ij .u64 id){r:Nat}(B:aw.A.ok)(hp:AW.put t.A aw.A i)(C:r<t.n)(D:cE t.cs r=0)(P:∀ q,q<t.n->sG t.n (lE t.n id) r q->cE t.cs q≠0)(iv cv:Value){is2:List Int}{cs2:List Nat}(E:is2=uZ t.ids i id)(hcs:cs2=cO t.cs r (fun _=>i+1)) :
 TW.ok ⟨iv,cv,aw,is2,cs2⟩/\∀ x,TW.mem ⟨iv,cv,aw,is2,cs2⟩ x↔t.mem x\/x=id:=by
 have Q:=h.uR
 have F:i<=t.ids.length:=by
  rcases hp.p8 with d|d<;>omega
 have m:∀ j,cE is2 j=if i=j then id else cE t.ids j:=by rw[E];exact Tc F
 have y:∀ q,cE cs2 q=if r=q then i+1 else cE t.cs q:=by rw[hcs];exact fun q=>jH C
 have o:cs2.length=t.n:=by rw[hcs];exact gd
 have O:is2.length=if i=t.ids.length then t.ids.length+1 else t.ids.length:=by rw[E];exact adP F
 have v:=hp.iw
 have H:=hp.new
 have w:∀ j,t.A.iw j->i≠j:=fun j g e=>H (e▸g)
 have N:∀ x,TW.mem ⟨iv,cv,aw,is2,cs2⟩ x↔t.mem x\/x=id:=by
  intro x
  constructor
  . rintro⟨j,g,u⟩
    change cE is2 j=x at u
    rw[m]at u
    split at u
    . exact .inr u.symm
    . rename_i M
      rcases(v j).1 g with d|d
      . exact .inl ⟨j,d,u⟩
      . exact absurd d.symm M
  . rintro(⟨j,g,u⟩|rfl)
    . exact⟨j,(v j).2 (.inl g),by show cE is2 j=x;rw[m,if_neg (w j g)];exact u⟩
    . exact⟨i,(v i).2 (.inr rfl),by show cE is2 i=x;rw[m,if_pos rfl]⟩
 have R:∀ p,p<t.n->cE t.cs p≠i+1:=fun p k f=>H (h.val k f).1
 refine⟨⟨?_,?_,?_,?_,?_,?_,?_,?_,?_,?_,?_,?_,?_⟩,N⟩
 . show P2 cs2.length;rw[o];exact h.p2
 . show cs2.length<=_;rw[o];exact h.top
 . show 2<=cs2.length;rw[o];exact h.two
 . show 2*aw.A.n<=cs2.length;rw[o,hp.n];exact h.room
 . show aw.A.n<=_;rw[hp.n];exact h.an
 . show is2.length=aw.A.begun
   rw[O]
   rcases hp.p8 with d|d
   . rw[if_neg o_];omega
   . rw[if_pos o_];omega
 . intro j
   show ij .u64 (cE is2 j)
   rw[m]
   split
   . exact L
   . exact h.ids j
 . intro j
   show (∃ p,p<cs2.length/\cE cs2 p=j+1)↔aw.A.iw j
   rw[o,v]
   constructor
   . rintro⟨p,k, f⟩
     rw[y]at f
     split at f
     . exact .inr o_
     . exact .inl ((h.cell j).1 ⟨p,k, f⟩)
   . rintro(d|rfl)
     . obtain⟨p,k, f⟩:=(h.cell j).2 d
       refine⟨p,k, ?_⟩
       rw[y,if_neg (fun e=>by rw[e,f]at D;omega)]
       exact f
     . exact⟨r,C,by rw[y,if_pos rfl]⟩
 . intro p q k s
   show cE cs2 p≠0->cE cs2 p=cE cs2 q->p=q
   change p<cs2.length at k
   change q<cs2.length at s
   rw[o]at k s
   rw[y,y]
   intro a b
   by_cases d:r=p
   . grind
   . by_cases l:r=q
     . grind
     . rw[if_neg d,if_neg l]at b
       rw[if_neg d]at a
       exact h.inj p q k s a b
 . intro a b K hb
   show cE is2 a=cE is2 b->a=b
   rw[m,m]
   intro e
   rcases(v a).1 K with d|d<;>rcases(v b).1 hb with l|l
   . rw[if_neg (w a d),if_neg (w b l)]at e
     exact h.uniq a b d l e
   . rw[if_neg (w a d),if_pos l.symm]at e
     exact absurd ⟨a,d,e⟩ G
   . rw[if_pos d.symm,if_neg (w b l)]at e
     exact absurd ⟨b,l,e.symm⟩ G
   . omega
 . show sH cs2.length _ (fun j=>lE cs2.length (cE is2 j))
   rw[o]
   have I:sH t.n t.cs (fun j=>lE t.n (cE is2 j)):=by
    intro c j q f s g z
    have d:=w j (h.val f g).1
    simp only[m,if_neg d]at z
    exact h.G0 c j q f s g z
   have J:=I.put rfl C D (i:=i) (by
    intro q s z
    simp only[m,if_pos]at z
    exact P q s z) (zJ (by have:=h.two;omega))
   rw[hcs]
   exact J
 . show aw.A.begun<=aw.A.n
   exact B.le
 . show aw.A.used<=aw.A.n
   have:=B.used
   have:=B.le
   omega
def TW.rest(t:TW)(id:Int)(k c:Nat):Prop:=t.find id=vJ t.n t.cs (fun i=>cE t.ids i==id) (t.n-k) c
theorem TW.aej(t:TW)(id:Int):t.rest id 0 (lE t.n id):=rfl
theorem TW.LO{id:Int}{k c:Nat}(h:t.rest id k c)(hk:k<t.n):t.find id=if cE t.cs c=0 then(c,false)else if (cE t.ids (cE t.cs c-1)==id)=true then(c,true)else vJ t.n t.cs (fun i=>cE t.ids i==id) (t.n-(k+1)) (iJ t.n c):=by
 have e:t.n-k=(t.n-(k+1))+1:=by omega
 unfold TW.rest at h
 rw[e]at h
 exact h
theorem TW.aek{id:Int}{k c:Nat}(h:t.rest id k c)(hk:k<t.n)(a:cE t.cs c=0):t.find id=(c,false):=by
 rw[TW.LO h hk,if_pos a]
theorem TW.aeh{id:Int}{k c:Nat}(h:t.rest id k c)(hk:k<t.n)(b:cE t.cs c=j+1)(a:cE t.ids j=id):t.find id=(c,true):=by
 rw[TW.LO h hk,if_neg o_,if_pos (by rw[b];simpa using a)]
theorem TW.aei{id:Int}{k c:Nat}(h:t.rest id k c)(hk:k<t.n)(b:cE t.cs c=j+1)(a:cE t.ids j≠id):t.rest id (k+1) (iJ t.n c):=by
 have:=TW.LO h hk
 rw[if_neg o_,if_neg (by rw[b];simpa using a)]at this
 exact this
theorem TW.aeg{id:Int}{c:Nat}(h:t.rest id t.n c):t.find id=(0,false):=by
 unfold TW.rest at h
 rw[Nat.sub_self]at h
 exact h
def TW.pE(t:TW)(id:Int)(z:Nat)(b:Bool):Prop:=(b=true/\t.A.iw z/\cE t.ids z=id)\/(b=false/\z=0/\¬ t.mem id)
theorem TW.ok.del(h:t.ok)(hi:t.A.iw i)(o:aw.A.ok)(hd:AW.del t.A aw.A i){cs2:List Nat}(m:cs2.length=t.n)(hc:sH t.n cs2 (fun j=>lE t.n (cE t.ids j))/\(∀ p q,p<t.n->q<t.n->cE cs2 p≠0->cE cs2 p=cE cs2 q->p=q)/\(∀ r,(∃ p,p<t.n/\cE cs2 p=r+1)↔r≠i/\∃ p,p<t.n/\cE t.cs p=r+1))(iv cv:Value){is2:List Int}(u:is2=cO t.ids i (fun _=>0)) :
 TW.ok ⟨iv,cv,aw,is2,cs2⟩/\∀ x,TW.mem ⟨iv,cv,aw,is2,cs2⟩ x↔t.mem x/\x≠cE t.ids i:=by
 obtain⟨z,G,w⟩:=hc
 have C:i<t.ids.length:=by have:=hi.1;have:=h.uR;omega
 have g:∀ j,cE is2 j=if i=j then 0 else cE t.ids j:=by rw[u];exact fun j=>jH C
 have l:=hd.iw
 have F:∀ j,(∃ p,p<t.n/\cE cs2 p=j+1)↔aw.A.iw j:=by
  intro j
  rw[w,l,h.cell]
  exact And.comm
 refine⟨⟨?_,?_,?_,?_,?_,?_,?_,?_,?_,?_,?_,?_,?_⟩,fun x=>⟨?_,?_⟩⟩
 . show P2 cs2.length;rw[m];exact h.p2
 . show cs2.length<=_;rw[m];exact h.top
 . show 2<=cs2.length;rw[m];exact h.two
 . show 2*aw.A.n<=cs2.length;rw[m,hd.n];exact h.room
 . show aw.A.n<=_;rw[hd.n];exact h.an
 . show is2.length=aw.A.begun;rw[u,gd,hd.p8];exact h.uR
 . intro j
   show ij .u64 (cE is2 j)
   rw[g]
   split
   . exact⟨d_,d_⟩
   . exact h.ids j
 . grind
 . grind
 . intro a b B hb
   show cE is2 a=cE is2 b->a=b
   have d:=(l a).1 B
   have s:=(l b).1 hb
   rw[g,g,if_neg (fun e=>d.2 e.symm),if_neg (fun e=>s.2 e.symm)]
   exact h.uniq a b d.1 s.1
 . show sH cs2.length _ (fun j=>lE cs2.length (cE is2 j))
   rw[m]
   intro c j q hc E k y
   have d:j≠i:=((w j).1 ⟨c,hc,k⟩).1
   simp only[g,if_neg (fun e=>d e.symm:¬ i=j)]at y
   exact z c j q hc E k y
 . show aw.A.begun<=aw.A.n
   exact o.le
 . show aw.A.used<=aw.A.n
   have:=o.used
   have:=o.le
   omega
 . rintro⟨j,k,f⟩
   change cE is2 j=x at f
   have d:=(l j).1 k
   rw[g,if_neg (fun e=>d.2 e.symm)]at f
   exact⟨⟨j,d.1,f⟩,fun e=>d.2 (h.uniq j i d.1 hi (f.trans e))⟩
 . rintro⟨⟨j,k,f⟩,D⟩
   have v:j≠i:=fun e=>D (by rw[<-f,e])
   exact⟨j,(l j).2 ⟨k,v⟩,by show cE is2 j=x;rw[g,if_neg (fun e=>v e.symm)];exact f⟩
theorem TW.ok.copy(h:t.ok){f:List (Option Nat)}(hv:aw.A={ t.A with ps:=f })(iv cv:Value):TW.ok ⟨iv,cv,aw,t.ids,t.cs⟩/\∀ x,TW.mem ⟨iv,cv,aw,t.ids,t.cs⟩ x↔t.mem x:=by
 have c:∀ j,aw.A.iw j↔t.A.iw j:=fun j=>by rw[hv];rfl
 have e1:aw.A.n=t.A.n:=by rw[hv]
 have d:aw.A.begun=t.A.begun:=by rw[hv]
 refine⟨⟨h.p2,h.top,h.two,?_,?_,?_,h.ids,?_,h.inj,?_,h.G0,?_,?_⟩,fun x=>?_⟩
 . show 2*aw.A.n<=_;rw[e1];exact h.room
 . show aw.A.n<=_;rw[e1];exact h.an
 . show t.ids.length=aw.A.begun;rw[d];exact h.uR
 . exact fun i=>(h.cell i).trans (c i).symm
 . exact fun a b e hb=>h.uniq a b ((c a).1 e) ((c b).1 hb)
 . show aw.A.begun<=aw.A.n;rw[e1,d];exact h.p8
 . show aw.A.used<=aw.A.n;rw[hv];exact h.ul
 . exact exists_congr fun i=>and_congr_left fun _=>c i
theorem P2.two:P2 2:=⟨1,d_,rfl⟩
theorem P2.X3{n:Nat}(h:P2 n)(b:n<=1000000):P2 (n*2):=by
 obtain⟨k,a,rfl⟩:=h
 refine⟨k+1,?_,by rw[EL]⟩
 by_cases h9:k+1<=40
 . exact h9
 . grind
theorem TW.uX{m n:Nat}{v:AW}(hv:v.A=As.new m)(hm:m<=65536)(r:P2 n)(h1:2<=n)(l:2*m<=n)(o:n<=1000000)(iv cv:Value):TW.ok ⟨iv,cv,v,[],List.replicate n 0⟩/\∀ x,¬ TW.mem ⟨iv,cv,v,[],List.replicate n 0⟩ x:=by
 have s:(List.replicate n 0).length=n:=oK
 have k:∀ p,cE (List.replicate n 0) p=0:=by
  intro p
  simp only[cE,sw]
  split<;>rfl
 have f:∀ j,¬ v.A.iw j:=fun j d=>by rw[hv]at d;exact absurd d.1 (by simp[As.new])
 have e1:v.A.n=m:=by rw[hv];rfl
 have g:v.A.begun=0:=by rw[hv];rfl
 refine⟨⟨?_,?_,?_,?_,?_,?_,?_,?_,?_,?_,?_,?_,?_⟩,fun x ⟨j,d,_⟩=>f j d⟩
 . grind
 . grind
 . grind
 . grind
 . show v.A.n<=_;rw[e1];exact hm
 . grind
 . intro j
   have e:cE ([]:List Int) j=0:=by show (none:Option Int).getD default=0;rfl
   show ij .u64 (cE ([]:List Int) j)
   rw[e]
   exact⟨d_,d_⟩
 . grind
 . intro p q _ _ h
   exact absurd (k p) h
 . exact fun a b i=>absurd i (f a)
 . intro c j q _ _ d
   grind
 . show v.A.begun<=v.A.n;rw[g];omega
 . show v.A.used<=v.A.n;rw[hv];exact ko _
abbrev mq(k:IntKind)(e:Int×Value×Nat):MapEntry:=⟨.int k e.1,e.2.1,e.2.2⟩
section
variable{P:Program}{k k':IntKind}{x:Int}
theorem xJ{kt:TypeId}(hk:P.underlying kt=some (.int k'))(a:Bool)(n:Nat)(v:Value)(w:World):(Instr.checkKey a (n+1) kt v).run P w = .ok () w:=by simp[Instr.checkKey,run_underlying hk]
theorem xK{kt:TypeId}{w:World}(hk:P.underlying kt=some (.int k')){l:List MapEntry}{v:Value}{q:Option (Nat×Value)}(h:Instr.findNow (.int k') v l 0=some q):(Instr.findKey kt v l).run P w = .ok q w:=by simp[Instr.findKey,run_underlying hk,h]
theorem aaJ(x:Int)(w:World):(Instr.keyThatStays (.int k x) (.int k x)).run P w = .ok (.int k x) w:=by simp[Instr.keyThatStays,Instr.sameBits]
theorem Xd{b:Nat}(w:World)(o:Obj):gE [b] w { w with heap:=w.heap.setIfInBounds b o } :=
 ⟨rfl,rfl,rfl,s_,fun c d a=>by
  have:b≠c:=fun e=>a (by simp[e])
  simp[Array.getElem?_setIfInBounds,this]⟩
theorem Dy{b:Nat}(w:World)(o:Obj):gE [b] w (w.putObj b o) :=
 ⟨rfl,rfl,rfl,by simp[World.putObj],fun c d a=>by
  have:b≠c:=fun e=>a (by simp[e])
  simp[World.putObj,Array.getElem?_setIfInBounds,this]⟩
theorem He{b:Nat}{w:World}{o:Obj}{d:Array MapEntry}{a:Nat}(h:w.heap[b]? = some (.map d a)):(setObj b o).run P w = .ok () (w.putObj b o)/\(w.putObj b o).heap[b]? = some o:=by
 have c:=(su.1 h).1
 exact⟨by simp only[setObj,Sem.run,h,World.putObj],World.putObj_heap_same c⟩
end
section
variable{r:Option Nat}{P:Program}{ops:Array Oper}{Q:Exit->Act->World->Prop}{rest l:List Oper}{n:Nat}{s s0:List (Nat×Value)}{ds:List Deferred}{w w0:World}{Nx:Value->World->Prop}
variable{d:Nat}{dd:Option Nat}{ty:TypeId}{pos:String}{af:Array Edge}{g:Option (Nat×Bool)}{x y m:Operand}{bs:List (World×List Nat)}{L L':List fJ}{t e kt:TypeId}{b:Nat}{k k':IntKind}{ys:List Int}
theorem St.GG{R R':fJ}{o:Obj}(h:St bs L w)(hi:L[i]? = some R)(e:R.gq=[b])(d:R'.gq=[b])(g:∀ w' : World,w'.heap[b]? = some o->R'.holds w')(f:b<w.heap.size):St bs (L.set i R') (w.putObj b o):=by
 refine h.iV hi (by rw[e];exact Dy w o) (fun c a=>.inl (by rw[e];rwa [d]at a)) (by rw[d];simp) (fun c a=>?_) (g _ (World.putObj_heap_same f))
 rw[d]at a
 simp only[z8]at a
 subst a
 simpa[World.putObj]using f
end
variable{γ:Type}
def iC:List (Int×γ)->Int->Option γ
 | [],_=>none
 | (b,y) :: m,a=>if b=a then some y else iC m a
def gr:List (Int×γ)->Int->γ->List (Int×γ)
 | [],a,x=>[(a,x)]
 | (b,y) :: m,a,x=>if b=a then(a,x) :: m else(b,y) :: gr m a x
def jo:List (Int×γ)->Int->List (Int×γ)
 | [],_=>[]
 | (b,y) :: m,a=>if b=a then m else(b,y) :: jo m a
def fS[Inhabited γ](m:List (Int×γ))(a:Int):γ:=(iC m a).getD default
def gP(b:Nat)(k:IntKind)(enc:γ->Value)(m:List (Int×γ)):fJ where
 gq:=[b]
 holds w:=∃ (es:List (Int×Value×Nat)) (a:Nat),w.heap[b]? = some (.map (es.map (mq k)).toArray a)/\es.map (fun e=>(e.1,e.2.1))=m.map (fun p=>(p.1,enc p.2))/\(es.map (fun e=>e.2.2)).Nodup/\∀ e∈es,e.2.2<a
 loc w w' h hh:=by
  obtain⟨es,a,c,d⟩:=hh
  exact⟨es,a,(h b s_).trans c,d⟩
theorem xx(m:List (Int×γ))(a c:Int)(x:γ):iC (gr m a x) c=if a=c then some x else iC m c:=by
 induction m with
 | nil=>simp[gr,iC]
 | cons p m b =>
  grind [gr,iC]
theorem La{m:List (Int×γ)}(d:(m.map Prod.fst).Nodup)(a c:Int):iC (jo m a) c=if a=c then none else iC m c:=by
 induction m with
 | nil=>simp[jo,iC]
 | cons p m e =>
  obtain⟨b,y⟩:=p
  simp only[mh,zu]at d
  simp only[jo]
  by_cases h:b=a
  . subst h
    rw[if_pos rfl]
    by_cases h1:b=c
    . subst h1
      rw[if_pos rfl]
      have:∀ (l:List (Int×γ)),b∉l.map Prod.fst->iC l b=none:=by
       intro l
       induction l with
       | nil=>intro _;rfl
       | cons q l f =>
        grind [iC]
      exact this m d.1
    . grind [iC]
  . grind [iC]
theorem R8{m:List (Int×γ)}{x:γ}(h:iC m a=some x):(a,x)∈m:=by
 induction m with
 | nil=>simp[iC]at h
 | cons p m b =>
  grind [iC]
theorem GK{m:List (Int×γ)}:iC m a=none↔a∉m.map Prod.fst:=by
 induction m with
 | nil=>simp[iC]
 | cons p m b =>
  grind [iC]
theorem Sa{m:List (Int×γ)}(b:(m.map Prod.fst).Nodup){x:γ}(h:(a,x)∈m):iC m a=some x:=by
 induction m with
 | nil=>simp at h
 | cons p m c =>
  grind [iC]
theorem Re(m:List (Int×γ))(a:Int)(x:γ):(gr m a x).map Prod.fst=if a∈m.map Prod.fst then m.map Prod.fst else m.map Prod.fst++[a]:=by
 induction m with
 | nil=>simp[gr]
 | cons p m b =>
  grind [gr]
theorem DO{m:List (Int×γ)}(b:(m.map Prod.fst).Nodup)(a:Int)(x:γ):((gr m a x).map Prod.fst).Nodup:=by
 grind [Re]
theorem K4(m:List (Int×γ))(a:Int):(jo m a).Sublist m:=by
 induction m with
 | nil=>exact List.Sublist.slnil
 | cons p m b =>
  grind [jo]
theorem Sm{m:List (Int×γ)}(b:(m.map Prod.fst).Nodup)(a:Int):((jo m a).map Prod.fst).Nodup:=b.sublist ((K4 m a).map _)
section
variable{enc:γ->Value}{P:Program}{k k':IntKind}
theorem F9(k k':IntKind)(a:Int):∀ (es:List (Int×Value×Nat)) (m:List (Int×γ)) (i:Nat),es.map (fun e=>(e.1,e.2.1))=m.map (fun p=>(p.1,enc p.2)) ->
 (iC m a=none/\Instr.findNow (.int k') (.int k a) (es.map (mq k)) i=some none/\(∀ y,gr m a y=m++[(a,y)])/\jo m a=m) \/
 (∃ j x e,iC m a=some x/\es[j]? = some e/\e.1=a/\Instr.findNow (.int k') (.int k a) (es.map (mq k)) i=some (some (i+j,enc x)) /\
  (∀ y,(es.set j (a,enc y,e.2.2)).map (fun e=>(e.1,e.2.1))=(gr m a y).map (fun p=>(p.1,enc p.2)))/\(es.eraseIdx j).map (fun e=>(e.1,e.2.1))=(jo m a).map (fun p=>(p.1,enc p.2))):=by
 intro es
 induction es with
 | nil =>
  intro m i h
  cases m with
  | cons p m=>simp at h
  | nil=>exact .inl ⟨rfl,rfl,fun _=>rfl,rfl⟩
 | cons e es t =>
  intro m i h
  cases m with
  | nil=>simp at h
  | cons p m =>
   obtain⟨b,y⟩:=p
   simp only[mh,List.cons.injEq]at h
   obtain⟨n,l⟩:=h
   have o:e.1=b:=congrArg Prod.fst n
   have s:e.2.1=enc y:=congrArg Prod.snd n
   by_cases hb:b=a
   . refine .inr ⟨0,y,e,by simp[iC,hb],rfl,o.trans hb,?_,fun r => ?_,?_⟩
     . have:(a==e.1)=true:=by rw[o,hb];simp
       simp only[mh,Instr.findNow,Instr.sameNow,if_true,this,s,sD]
     . simp[gr,hb,l]
     . simp[jo,hb,l]
   . have q:(a==e.1)=false:=by
      grind
     rcases t m (i+1) l with ⟨c,d,f,g⟩|⟨j,x,e', c,d,f,g,u,v⟩
     . refine .inl ⟨by simp[iC,hb,c],?_,fun r => by simp[gr,hb,f],by simp[jo,hb,g]⟩
       simp only[mh,Instr.findNow,Instr.sameNow,if_true,q]
       exact d
     . refine .inr ⟨j+1,x,e', by simp[iC,hb,c],by simpa using d,f,?_,fun r => ?_,?_⟩
       . simp only[mh,Instr.findNow,Instr.sameNow,if_true,q]
         rw[g,lW,Nat.add_comm 1 j]
       . grind [gr]
       . grind [jo]
theorem aci{e:Int×Value×Nat}{v:Value}(h:es[j]? = some e)(b:e.1=a) :
 ((es.map (mq k)).toArray.modify j fun q=>{ q with key:=.int k a,val:=v })=((es.set j (a,v,e.2.2)).map (mq k)).toArray:=by
 grind
theorem J2{α β:Type}(f:α->β):∀ (l:List α) (j:Nat),(l.map f).eraseIdx j=(l.eraseIdx j).map f
 | [],_=>rfl
 | _ :: _,0=>rfl
 | a :: l,j+1=>by simp[J2 f l j]
theorem YF:((es.map (mq k)).toArray.eraseIdxIfInBounds j)=((es.eraseIdx j).map (mq k)).toArray:=by
 grind
end
section
variable{enc:γ->Value}
variable{r:Option Nat}{P:Program}{ops:Array Oper}{Q:Exit->Act->World->Prop}{rest l:List Oper}{n:Nat}{s s0:List (Nat×Value)}{ds:List Deferred}{w w0:World}{Nx:Value->World->Prop}
variable{d:Nat}{dd:Option Nat}{ty:TypeId}{pos:String}{af:Array Edge}{g:Option (Nat×Bool)}{x y m:Operand}{bs:List (World×List Nat)}{L L':List fJ}{t e kt:TypeId}{b sz by_:Nat}{k k':IntKind}{mm:List (Int×γ)}{z v:Value}{c:γ}
theorem K0(c:St bs L w)(a:L[i]? = some (gP b k enc mm)):b<w.heap.size:=c.lt b (tc a (by simp[gP]))
theorem vY{a:Nat}(h:w.heap[b]? = some (.map (es.map (mq k)).toArray a)):(getObj b).run P w = .ok (.map (es.map (mq k)).toArray a) w:=by
 simp[getObj,Sem.run,h]
theorem mkV{a:Option Operand}(enc:γ->Value)(k:IntKind)(c:gA ops n s g=true)(e:a = none)(f:St bs L w)(K:∀ b w', w.heap.size<=b->gE [] w w' -> St bs (gP b k enc [] :: L) w' -> WL r P ops Q rest (Fr n ((d,.map (some b)) :: s) ds) w') :
 WL r P ops Q (⟨some d,.makeMap t a, ty,pos,af,g⟩ :: rest) (Fr n s ds) w:=by
 subst e
 refine pv (v:=.map (some w.heap.size)) (w' := w.alloc (.map #[] 0)) c rfl ?_ (K _ _ (zh _) (gE.alloc [] w _) ?_)
 . simp only[execOp,Option.map_none,Instr.makeMap]
   rfl
 . exact f.tS (gE.alloc [] w _) (fun b hb=>by simp[gP]at hb;omega) (by simp[gP]) (fun b hb=>by simp[gP]at hb;simp;omega) ⟨[],0,heap_alloc_new w _,rfl,s_,s_⟩
section
variable[Inhabited γ]
theorem abm(i:Nat)(hm:ev n s m = .map (some b))(h:ev n s x = .int k a)(ht:P.underlying t=some (.map kt e))(hk:P.underlying kt=some (.int k'))(r:TI P e sz by_ z)(v:enc default=z)(u:St bs L w)(q:L[i]? = some (gP b k enc mm)) :
 (execOp (ev n s) ⟨dd,.lookup t m x true,ty,pos,af,g⟩).run P w = .ok (.value (.tuple #[enc (fS mm a),.bool (iC mm a).isSome])) w:=by
 obtain⟨es,y,f,p,A,B⟩:(gP b k enc mm).holds w:=u.own _ (zg q)
 rcases F9 k k' a es mm 0 p with ⟨c,l,_⟩|⟨j,C, e', c,_,_,o,_⟩
 . have d:=xK (P:=P) (w:=w) hk l
   simp only[execOp,hm,h,Instr.lookup,zt,run_underlying ht,zn,kn,vY f,xJ hk,d,r.CU]
   simp[fS,c,v]
 . have d:=xK (P:=P) (w:=w) hk o
   simp only[execOp,hm,h,Instr.lookup,zt,run_underlying ht,zn,kn,vY f,xJ hk,d]
   simp[fS,c]
theorem zP(i:Nat)(hm:ev n s m = .map (some b))(h:ev n s x = .int k a)(ht:P.underlying t=some (.map kt e))(hk:P.underlying kt=some (.int k'))(r:TI P e sz by_ z)(v:enc default=z)(u:St bs L w)(q:L[i]? = some (gP b k enc mm)) :
 (execOp (ev n s) ⟨dd,.lookup t m x false,ty,pos,af,g⟩).run P w = .ok (.value (enc (fS mm a))) w:=by
 obtain⟨es,y,f,p,A,B⟩:(gP b k enc mm).holds w:=u.own _ (zg q)
 rcases F9 k k' a es mm 0 p with ⟨c,l,_⟩|⟨j,C, e', c,_,_,o,_⟩
 . have d:=xK (P:=P) (w:=w) hk l
   simp only[execOp,hm,h,Instr.lookup,zt,run_underlying ht,zn,kn,vY f,xJ hk,d,r.CU]
   simp[fS,c,v]
 . have d:=xK (P:=P) (w:=w) hk o
   simp only[execOp,hm,h,Instr.lookup,zt,run_underlying ht,zn,kn,vY f,xJ hk,d]
   simp[fS,c]
theorem abl(i:Nat)(h:gA ops n s g=true)(hm:ev n s m = .map (some b))(l:ev n s x = .int k a)(ht:P.underlying t=some (.map kt e))(hk:P.underlying kt=some (.int k'))(f:TI P e sz by_ z)(o:enc default=z)(j:St bs L w)(c:L[i]? = some (gP b k enc mm))(K:WL r P ops Q rest (Fr n ((d,.tuple #[enc (fS mm a),.bool (iC mm a).isSome]) :: s) ds) w):WL r P ops Q (⟨some d,.lookup t m x true,ty,pos,af,g⟩ :: rest) (Fr n s ds) w:=pv h rfl (abm i hm l ht hk f o j c) K
theorem qK(i:Nat)(h:gA ops n s g=true)(hm:ev n s m = .map (some b))(l:ev n s x = .int k a)(ht:P.underlying t=some (.map kt e))(hk:P.underlying kt=some (.int k'))(f:TI P e sz by_ z)(o:enc default=z)(j:St bs L w)(c:L[i]? = some (gP b k enc mm))(K:WL r P ops Q rest (Fr n ((d,enc (fS mm a)) :: s) ds) w):WL r P ops Q (⟨some d,.lookup t m x false,ty,pos,af,g⟩ :: rest) (Fr n s ds) w:=pv h rfl (zP i hm l ht hk f o j c) K
end
theorem abd(i:Nat)(j:ev n s x = .map (some b))(ht:P.underlying t=some (.map kt e))(h:St bs L w)(d:L[i]? = some (gP b k enc mm)) :
 (execOp (ev n s) ⟨dd,.call ⟨.builtin .len,#[x],#[t]⟩,ty,pos,af,g⟩).run P w = .ok (.value (.int .i64 (mm.length:Int))) w:=by
 obtain⟨es,l,a,c,m,o⟩:(gP b k enc mm).holds w:=h.own _ (zg d)
 have f:es.length=mm.length:=by have:=congrArg List.length c;simpa using this
 simp[execOp,resolve,invoke,builtin,j,Builtin.len_,run_underlying ht,vY a,goInt,f]
theorem acm(i:Nat)(hm:ev n s m = .map (some b))(z:ev n s x = .int k a)(A:ev n s y=enc c)(ht:P.underlying t=some (.map kt e))(hk:P.underlying kt=some (.int k'))(q:St bs L w)(p:L[i]? = some (gP b k enc mm))(F:L.set i (gP b k enc (gr mm a c))=L') :
 ∃ w', (execOp (ev n s) ⟨dd,.mapUpdate t m x y,ty,pos,af,g⟩).run P w = .ok .skip w' /\ St bs L' w' /\ gE [b] w w' := by
 subst F
 obtain⟨es,d,o,u,E,H⟩:(gP b k enc mm).holds w:=q.own _ (zg p)
 have v:=K0 q p
 rcases F9 k k' a es mm 0 u with ⟨B,f,l,_⟩|⟨j,J, e', B,f,l,C,D,_⟩
 . have r:=xK (P:=P) (w:=w) hk f
   have hp:((es.map (mq k)).toArray.push ⟨.int k a,enc c,d⟩)=((es++[(a,enc c,d)]).map (mq k)).toArray:=by simp
   refine⟨w.putObj b (.map ((es++[(a,enc c,d)]).map (mq k)).toArray (d+1)),?_,q.GG p rfl rfl (fun w' h=>⟨_,_,h,by rw[l];simp[u],?_,?_⟩) v,Dy w _⟩
   . simp only[execOp,hm,z,A,Instr.mapUpdate,zt,run_underlying ht,zn,kn,vY o,xJ hk,r,hp,(He o).1]
   . grind
   . grind
 . have r:=xK (P:=P) (w:=w) hk C
   have G:((es.map (mq k)).toArray[j]?).map (·.key)=some (.int k a):=by simp[f,l]
   refine⟨w.putObj b (.map ((es.set j (a,enc c,e'.2.2)).map (mq k)).toArray d),?_,q.GG p rfl rfl (fun w' h=>⟨_,_,h,D c,?_,?_⟩) v,Dy w _⟩
   . simp only[execOp,hm,z,A,Instr.mapUpdate,zt,run_underlying ht,zn,kn,vY o,xJ hk,r,uA,G,Option.getD_some,aaJ]
     rw[aci f l]
     simp only[(He o).1,kn,zn]
   . have:(es.set j (a,enc c,e'.2.2)).map (fun e=>e.2.2)=es.map (fun e=>e.2.2):=by
      rw[List.map_set]
      have I:=(zp.1 f).1
      apply mS
      grind
     rw[this]
     exact E
   . grind
theorem rq(i:Nat)(l:gA ops n s g=true)(hm:ev n s m = .map (some b))(p:ev n s x = .int k a)(q:ev n s y=enc c)(ht:P.underlying t=some (.map kt e))(hk:P.underlying kt=some (.int k'))(o:St bs L w)(h:L[i]? = some (gP b k enc mm))(j:L.set i (gP b k enc (gr mm a c))=L')(K:∀ w', St bs L' w' -> WL r P ops Q rest (Fr n s ds) w'):WL r P ops Q (⟨none,.mapUpdate t m x y,ty,pos,af,g⟩ :: rest) (Fr n s ds) w:=by
 obtain⟨w', d,f,_⟩:=acm (dd:=none) (ty:=ty) (pos:=pos) (af:=af) (g:=g) i hm p q ht hk o h j
 exact Ek l rfl d (K w' f)
theorem Yd{t':TypeId}(i:Nat)(hm:ev n s m = .map (some b))(A:ev n s x = .int k a)(ht:P.underlying t=some (.map kt e))(hk:P.underlying kt=some (.int k'))(f:St bs L w)(d:L[i]? = some (gP b k enc mm))(E:L.set i (gP b k enc (jo mm a))=L') :
 ∃ w', (execOp (ev n s) ⟨dd,.call ⟨.builtin .delete,#[m,x],#[t,t']⟩,ty,pos,af,g⟩).run P w = .ok (.value (.tuple #[])) w' /\ St bs L' w' /\ gE [b] w w' := by
 subst E
 obtain⟨es,o,c,u,v,y⟩:(gP b k enc mm).holds w:=f.own _ (zg d)
 have z:=K0 f d
 rcases F9 k k' a es mm 0 u with ⟨B,q,_,r⟩|⟨j,F, e', B,q,r,C,_,D⟩
 . have l:=xK (P:=P) (w:=w) hk q
   refine⟨w.putObj b (.map (es.map (mq k)).toArray o),?_,f.GG d rfl rfl (fun w' h=>⟨_,_,h,by rw[r];exact u,v,y⟩) z,Dy w _⟩
   simp only[execOp,resolve,invoke,builtin,zt,kn,zn,Im,mh,CS,hm,A]
   simp only[Builtin.delete_]
   simp only[CG,List.getElem?_cons_zero,List.getElem?_cons_succ,zt,run_underlying ht,zn,vY c,xJ hk,l,(He c).1,kn]
 . have l:=xK (P:=P) (w:=w) hk C
   refine⟨w.putObj b (.map ((es.eraseIdx j).map (mq k)).toArray o),?_,f.GG d rfl rfl (fun w' h=>⟨_,_,h,D,v.sublist ((List.eraseIdx_sublist _ _).map _),fun p hp=>y p ((List.eraseIdx_sublist _ _).subset hp)⟩) z,Dy w _⟩
   simp only[execOp,resolve,invoke,builtin,zt,kn,zn,Im,mh,CS,hm,A]
   simp only[Builtin.delete_]
   simp only[CG,List.getElem?_cons_zero,List.getElem?_cons_succ,zt,run_underlying ht,zn,vY c,xJ hk,l,uA]
   rw[YF]
   simp only[(He c).1,kn,zn]
theorem DC{t':TypeId}(i:Nat)(j:gA ops n s g=true)(hm:ev n s m = .map (some b))(o:ev n s x = .int k a)(ht:P.underlying t=some (.map kt e))(hk:P.underlying kt=some (.int k'))(l:St bs L w)(f:L[i]? = some (gP b k enc mm))(h:L.set i (gP b k enc (jo mm a))=L')(K:∀ w', St bs L' w' -> WL r P ops Q rest (Fr n (u5 dd (.tuple #[]) s) ds) w'):WL r P ops Q (⟨dd,.call ⟨.builtin .delete,#[m,x],#[t,t']⟩,ty,pos,af,g⟩ :: rest) (Fr n s ds) w:=by
 obtain⟨w', c,d,_⟩:=Yd (dd:=dd) (ty:=ty) (pos:=pos) (af:=af) (g:=g) (t' := t') i hm o ht hk l f h
 exact Vd j rfl c (by rw[EW];exact K w' d)
end
theorem JK{xs:List Nd}{q:Nat}:∀ {c:Cx} {j:Nat} {L:List Nat},At xs c j L q->Out xs q (mw c L)->∀ (k v:Nat),(jE c j)[k]? = some v ->
 (k<c.length->(jV xs v).2=true/\(jE c j)[k+1]? = some (cE xs v).up)/\(k=c.length->jV xs v=(0,false))
 | [],j,L,h,ho,k,v,hk=>by
  cases k with
  | succ k=>simp[jE]at hk
  | zero =>
   simp[jE]at hk
   subst hk
   exact⟨fun h=>absurd h s_,fun _=>h.stop ho⟩
 | (d,g,s) :: c,j,L,h,ho,k,v,hk=>by
  obtain⟨f,i,l⟩:=h.step
  cases k with
  | zero =>
   simp[jE]at hk
   subst hk
   exact⟨fun _=>⟨by rw[f],by simp[jE,i]⟩,fun h=>absurd h s_⟩
  | succ k =>
   have m : (jE c g)[k]? = some v:=by simpa[jE]using hk
   have:=JK l ho k v m
   refine⟨fun e=>?_,fun e=>this.2 (by simpa using e)⟩
   obtain⟨a,b⟩:=this.1 (by simpa using e)
   exact⟨a,by simpa[jE]using b⟩
theorem jY.QZ{b:List Nd}{a t:Tr}{g:Nat}(h:jY b xs a O (nw d t g s) q)(c:(cE xs g).flip=false):jY b xs a ((d,g,s) :: O) t q :=
 ⟨h.rep,h.perm,h.ord,h.kl,h.other,fun f hm=>by
  rcases ze.1 hm with rfl|hm
  . exact c
  . exact h.flip f hm⟩
theorem M6{t:Tr}{w:List Nat}(h:Way i t w):∃ l r w', t = .nd l (w.headD 0) r/\w=w.headD 0 :: w' := by
 cases t with
 | nil=>exact h.elim
 | nd l j r =>
  rcases h with ⟨rfl,rfl⟩|⟨w', rfl,_⟩
  . exact⟨l,r,[],rfl,rfl⟩
  . exact⟨l,r,w', rfl,rfl⟩
theorem ahx{o:List Nd}{k:Tr}{w:List Nat}(h:jY o xs k O U q)(x:k.mem.Nodup)(c:Way i U (j :: w)) :
 (w=[]->j=i/\∃ a b,jY o (kL xs j) k O (.nd a i b) q/\(cE (kL xs j) i).flip=false)/\(w≠[]->∃ s p, jY o (kL xs j) k s p q/\Way i p w):=by
 obtain⟨l,r,w', e1,t⟩:=M6 c
 simp only[List.headD_cons]at e1 t
 subst e1
 obtain⟨l', m, v,hm,n⟩:=h.push x
 refine⟨fun e=>?_,fun e=>?_⟩
 . rcases c with ⟨rfl,_⟩|⟨y,g,c⟩
   . exact⟨rfl,l', m, hm,n⟩
   . cases g
     subst e
     rcases c with c|c<;>(obtain⟨_,_,_,_,u⟩:=M6 c;cases u)
 . rcases c with ⟨_,g⟩|⟨y,g,c⟩
   . cases g
     exact absurd rfl e
   . cases g
     have f:Way i l' w\/Way i m w:=by
      rcases v with ⟨rfl,rfl⟩|⟨rfl,rfl⟩
      . exact c
      . exact c.symm
     rcases f with f|f
     . exact⟨(true,j,m) :: O,l', jY.QZ (d:=true) hm n,f⟩
     . exact⟨(false,j,l') :: O,m, jY.QZ (d:=false) hm n,f⟩
theorem fT.push(h:fT xs)(hi:i<xs.length):fT (kL xs i)/\(kL xs i).length=xs.length:=by
 unfold kL
 split
 . simp only
   obtain⟨y0,g⟩:∃ y,y=cO xs i (fun x=>{ x with flip:=false }):=⟨_,rfl⟩
   have k:fT y0:=g▸h.iV hi fun x a b c d e=>⟨a,b,c,d,e⟩
   have r:y0.length=xs.length:=by rw[g,gd]
   rw[<-g]
   obtain⟨y1,e1⟩:∃ y,y=cO y0 i (fun x=>{ x with k0:=(cE y0 i).k1 }):=⟨_,rfl⟩
   have p:fT y1:=e1▸k.iV o_ fun x a b c d e=>⟨k.k1 i o_,b,c,d,e⟩
   have l1:y1.length=xs.length:=by rw[e1,gd,r]
   rw[<-e1]
   obtain⟨y2,j⟩:∃ y,y=cO y1 i (fun x=>{ x with k1:=(cE y0 i).k0 }):=⟨_,rfl⟩
   have q:(cE y0 i).k0<y1.length:=by
    have:=k.k0 i o_
    omega
   have f:fT y2:=by
    rw[j]
    exact p.iV o_ fun x a b c d e=>⟨a,q,c,d,e⟩
   have n:y2.length=xs.length:=by rw[j,gd,l1]
   rw[<-j]
   obtain⟨o,m⟩:∃ y,y=(if (cE y2 i).k0=0 then y2 else cO y2 (cE y2 i).k0 (fun x=>{ x with flip := !(cE y2 (cE y2 i).k0).flip })):=⟨_,rfl⟩
   have l:fT o/\o.length=xs.length:=by
    rw[m]
    split
    . exact⟨f,n⟩
    . exact⟨f.iV (f.k0 i o_) fun x a b c d e=>⟨a,b,c,d,e⟩,by rw[gd,n]⟩
   rw[<-m]
   split
   . exact l
   . exact⟨l.1.iV (by have:=f.k1 i o_;omega) fun x a b c d e=>⟨a,b,c,d,e⟩,by rw[gd];exact l.2⟩
 . exact⟨h,rfl⟩
theorem jY.out{c:List Nd}{a:Tr}(h:jY c xs a O U q)(g:Out c q a.mem):Out xs q (mw O U.mem):=by
 have hm:∀ j,j∈mw O U.mem↔j∈a.mem:=fun j=>by rw[<-qM];exact h.perm.mem_iff
 rcases g with e|⟨d,f,b⟩
 . exact .inl e
 . have e:=h.other q b
   refine .inr ⟨fun k=>d ?_,fun k=>f ?_,fun k=>b ((hm _).1 k)⟩
   . have:=(hm _).1 k
     simpa only[jD,e]using this
   . have:=(hm _).1 k
     simpa only[jD,e]using this
theorem jY.sides{r:List Nd}{k a:Tr}(h:jY r xs k O (.nd a i b) q)(t:k.mem.Nodup)(u:Out r q k.mem) :
 (O=[]/\jV xs i=(0,false))\/(∃ d p s,O=[(d,p,s)]/\jV xs i=(sd d,true)/\(cE xs i).up=p/\jV xs p=(0,false)) \/
 (∃ d p s j g o c,O=(d,p,s) :: (j, g,o) :: c/\jV xs i=(sd d,true)/\(cE xs i).up=p/\jV xs p=(sd j, true)):=by
 have e:=At.start h.rep (h.perm.nodup_iff.2 t)
 have f:=h.out u
 match O,e,f with
 | [],e,f=>exact .inl ⟨rfl,e.stop f⟩
 | [(d,p,s)],e,f =>
  obtain⟨l,m,n⟩:=e.step
  exact .inr (.inl ⟨d,p,s,rfl,l,m,n.stop f⟩)
 | (d,p,s) :: (j, g,o) :: c,e,f =>
  obtain⟨l,m,n⟩:=e.step
  exact .inr (.inr ⟨d,p,s,j, g,o, c,rfl,l,m,n.step.1⟩)
theorem ae6{a:Bool}(h:sd d=sd a):d=a := by cases d<;>cases a <;> first|rfl|cases h
section
variable{w:World}{bs:List (World×List Nat)}{L:List fJ}{R R':fJ}{k:IntKind}{v:Value}{e:TypeId}{ys:List Int}
theorem YS:∀ {L:List fJ} {i j:Nat},(jb L).Nodup->L[i]? = some R->L[j]? = some R' -> i≠j->∀ b∈R.gq,b∉R'.gq:=by
 intro L
 induction L with
 | nil=>intro i j _ h;simp at h
 | cons Q L f =>
  intro i j c hi a e b hb
  rw[nO,zo]at c
  cases i with
  | zero =>
   simp at hi;subst hi
   cases j with
   | zero=>exact absurd rfl e
   | succ j=>exact fun d => c.2.2 b hb b (tc (i:=j) (by simpa using a) d) rfl
  | succ i =>
   cases j with
   | zero=>simp at a;subst a;exact fun d => c.2.2 b d b (tc (i:=i) (by simpa using hi) hb) rfl
   | succ j=>exact f c.2.1 (by simpa using hi) (by simpa using a) o_ b hb
theorem St.aeG(h:St bs L w)(hi:L[i]? = some (iD k v e ys))(hk:∀ y∈ys,ij k y)(o:L[j]? = some R)(r:i≠j):Ints k (fun b=>b∉R.gq) w v ys:=by
 have c:w.ownsRow 0 e 1 v ys.length (ys.map (.int k)):=h.own _ (zg hi)
 rcases c.2 with ⟨rfl,l⟩|⟨a, f,cur,rfl,_,s,m,n,_⟩
 . have:ys=[]:=wo l
   subst this
   exact Sl.nil _ _ _ _
 . refine⟨_,f,rfl,m,n,fun q y d=>⟨a, 0,[.int k y],rfl,YS h.sep hi o r a (by simp[row,Value.ownBlock]),rfl,⟨rfl,hk y (zg d)⟩,fun p u hp=>?_⟩⟩
   cases p with
   | zero =>
    simp at hp
    subst hp
    have:=c.cells (g:=a) rfl q (.int k y) (by simp[d])
    rw[Addr.add_lit]at this
    simpa using this
   | succ p=>simp at hp
end
theorem T5{α:Type}{l:List α}{x:α}(h:l[i]? = some x):l.take (i+1)=l.take i++[x]:=by rw[nY,h];rfl
theorem fT.rotate(h:fT xs)(hi:i<xs.length):fT (iR xs i)/\(iR xs i).length=xs.length:=by
 have hp:=h.up i hi
 have j:=h.up _ hp
 unfold iR
 simp only
 obtain⟨y1,e1⟩:∃ y,y=(if (jV xs (cE xs i).up).2=true then jj xs (cE xs (cE xs i).up).up (jV xs (cE xs i).up).1 i else cO xs i (fun x=>{ x with up:=(cE xs (cE xs i).up).up })):=⟨_,rfl⟩
 have f:fT y1/\y1.length=xs.length:=by
  rw[e1]
  split
  . exact⟨h.lD j hi,Gc _ _ _ _⟩
  . exact⟨h.iV hi fun x a b c d e=>⟨a,b,j,d,e⟩,gd⟩
 rw[<-e1]
 obtain⟨k,g⟩:∃ k,k=(if (jV xs i).1=0 then(cE y1 i).k1 else(cE y1 i).k0):=⟨_,rfl⟩
 have n:k<y1.length:=by
  rw[g]
  split
  . exact f.1.k1 i o_
  . exact f.1.k0 i o_
 rw[<-g]
 have l:fT (jj y1 (cE xs i).up (jV xs i).1 k):=f.1.lD o_ n
 have o:(jj y1 (cE xs i).up (jV xs i).1 k).length=xs.length:=by rw[Gc];exact f.2
 have m:fT (jj (jj y1 (cE xs i).up (jV xs i).1 k) i (1-(jV xs i).1) (cE xs i).up):=l.lD o_ o_
 have p:(jj (jj y1 (cE xs i).up (jV xs i).1 k) i (1-(jV xs i).1) (cE xs i).up).length=xs.length:=by rw[Gc];exact o
 exact⟨(m.mJ o_).mJ (by rw[G4];omega),by rw[G4,G4];exact p⟩
theorem DZ(h:fT xs)(hi:i<xs.length):(iR xs i).length=xs.length:=(h.rotate hi).2
def mz(xs:List Nd)(P:List Nat)(k:Nat):List Nd:=(P.reverse.take k).foldl kL xs
theorem S9(xs:List Nd)(P:List Nat):mz xs P 0=xs:=by simp[mz]
theorem S8{P:List Nat}{k:Nat}(h:P.reverse[k]? = some j):mz xs P (k+1)=kL (mz xs P k) j:=by
 unfold mz
 rw[T5 h,EH]
 rfl
theorem fT.mz(h:fT xs){P:List Nat}(d:∀ j∈P,j<xs.length):∀ k,fT (Go.Sx.mz xs P k)/\(Go.Sx.mz xs P k).length=xs.length:=by
 intro k
 induction k with
 | zero=>rw[S9];exact⟨h,rfl⟩
 | succ k c =>
  cases hk:P.reverse[k]? with
  | none =>
   have:Go.Sx.mz xs P (k+1)=Go.Sx.mz xs P k:=by
    unfold Go.Sx.mz
    rw[nY,hk]
    simp
   rw[this]
   exact c
  | some j =>
   rw[S8 hk]
   have e:j∈P:=by simpa using zg hk
   obtain⟨a,b⟩:=c.1.push (i:=j) (by rw[c.2];exact d j e)
   exact⟨a,by rw[b,c.2]⟩
theorem ahv{d:List Nd}{c:Tr}(f:c.mem.Nodup):∀ (w:List Nat) (xs:List Nd) (O:Cx) (U:Tr),jY d xs c O U q->Way i U w->∃ e a b,jY d (w.foldl kL xs) c e (.nd a i b) q/\(cE (w.foldl kL xs) i).flip=false:=by
 intro w
 induction w with
 | nil =>
  grind [M6]
 | cons j w m =>
  intro xs O U h g
  obtain⟨k,l⟩:=ahx h f g
  by_cases hw0:w=[]
  . grind
  . grind
theorem adN{c:Cx}{a:Tr}(e:gR xs (kK c (.nd a i b)) q)(f:(kK c (.nd a i b)).mem.Nodup){k:Nat}(hk:k=(jE c i).length):∃ O a' d, jY xs (mz xs (jE c i) k) (kK c (.nd a i b)) O (.nd a' i d) q/\(cE (mz xs (jE c i) k) i).flip=false:=by
 have:=ahv f _ xs [] _ (jY.start e) (ahw c a i b)
 unfold mz
 rw[AP (by simp[hk])]
 exact this
theorem ac9{c:Cx}{a:Tr}(e:gR xs (kK c (.nd a i b)) q):∀ j∈jE c i,j<xs.length:=by
 intro j d
 refine(e.rm j ?_).2
 rw[qM]
 refine DM.2 ?_
 rcases ze.1 d with rfl|d
 . exact .inl (by simp[Tr.mem])
 . obtain⟨f,g,rfl⟩:=zq.1 d
   exact .inr (K7 g)
theorem P4:∀ (c:Cx) (L:List Nat),c.length+L.length<=(mw c L).length
 | [],L=>by simp[mw]
 | (d,g,s) :: c,L=>by
  have:=P4 c (kH d L g s)
  rw[mw]
  cases d<;>simp only[kH,cond_true,cond_false,zk,zb]at * <;> omega
theorem ac8{c:Cx}{a:Tr}:(jE c i).length=c.length+1/\c.length+1<=(kK c (.nd a i b)).mem.length:=by
 refine⟨by simp[jE],?_⟩
 rw[qM]
 have:=P4 c (Tr.nd a i b).mem
 simp only[Tr.mem,zk,zb]at *
 omega
section
variable{c:Cx}{k v s:Nat}
theorem Xm(h:At xs c i L q)(a:Out xs q (mw c L))(hk:(jE c i)[k]? = some v)(hs:jV xs v=(s,false)):k=c.length:=by
 have b:=JK h a k v hk
 grind [jE]
theorem PO(h:At xs c i L q)(a:Out xs q (mw c L))(hk:(jE c i)[k]? = some v)(hs:jV xs v=(s,true)):k<c.length/\(jE c i)[k+1]? = some (cE xs v).up:=by
 grind [JK,jE]
end
abbrev gi(P:List Nat):List Int:=P.map (fun(x:Nat)=>(x:Int))
theorem Li{P:List Nat}{k:Nat}(h:P[k]? = some j):gi (P.take k)++[(j:Int)]=gi (P.take (k+1)):=by
 rw[T5 h,gi,gi,ni]
 rfl
theorem GN{m:Nat}{P:List Nat}(h:∀ j∈P,j<m)(hm:m<=1000001):∀ y∈gi P,ij .i64 y:=by
 intro y b
 obtain⟨j,a,rfl⟩:=zq.1 b
 have:=h j a
 show (-9223372036854775808:Int)<=_/\_<=(9223372036854775807:Int)
 omega
theorem acu{P:List Nat}{k:Nat}{x:Int}(hk:k<(gi P).length)(h:(gi P)[(gi P).length-1-k]? = some x):∃ j,P.reverse[k]? = some j/\x=(j:Int):=by
 grind
instance:Inhabited (Value×List Nat):=⟨(.slice none 0 0,[])⟩
abbrev IM:=List (Int×(Value×List Nat))
def j4(e:TypeId)(m:IM):fJ:=fN (m.map fun p=>iD .i64 p.2.1 e (gi p.2.2))
theorem Lc{γ:Type}(m:List (Int×γ))(a:Int)(x:γ):(gr m a x).Perm ((a,x) :: jo m a):=by
 induction m with
 | nil=>exact List.Perm.refl _
 | cons p m b =>
  obtain⟨c,y⟩:=p
  unfold gr jo
  split
  . rename_i h
    exact List.Perm.refl _
  . rename_i h
    exact(List.Perm.cons _ b).trans (List.Perm.swap _ _ _)
theorem Lb{γ:Type}{m:List (Int×γ)}{x:γ}(h:iC m a=some x):m.Perm ((a,x) :: jo m a):=by
 induction m with
 | nil=>simp[iC]at h
 | cons p m d =>
  obtain⟨c,y⟩:=p
  unfold iC at h
  unfold jo
  split at h
  . rename_i b
    rw[if_pos b]
    cases h
    rw[b]
  . rename_i b
    rw[if_neg b]
    exact(List.Perm.cons _ (d h)).trans (List.Perm.swap _ _ _)
theorem R1{γ:Type}{m:List (Int×γ)}(h:iC m a=none):jo m a=m:=by
 induction m with
 | nil=>rfl
 | cons p m d =>
  obtain⟨c,y⟩:=p
  unfold iC at h
  unfold jo
  split at h
  . cases h
  . rename_i b
    rw[if_neg b,d h]
section
variable{bs:List (World×List Nat)}{L:List fJ}{w:World}{e:TypeId}{m:IM}
theorem St.zI{a:IM}(h:St bs (j4 e m :: L) w)(hp:m.Perm a):St bs (j4 e a :: L) w :=
 St.pack _ _ ((St.unpack h).perm ((hp.map _).append_right _))
theorem St.Qo{p:Int×(Value×List Nat)}(h:St bs (j4 e (p :: m) :: L) w):St bs (iD .i64 p.2.1 e (gi p.2.2) :: j4 e m :: L) w:=by
 have a:St bs (([iD .i64 p.2.1 e (gi p.2.2)]++m.map fun p=>iD .i64 p.2.1 e (gi p.2.2))++L) w:=St.unpack h
 rw[z6]at a
 have b:=a.perm (L' := (m.map fun p=>iD .i64 p.2.1 e (gi p.2.2))++([iD .i64 p.2.1 e (gi p.2.2)]++L)) (by
  rw[<-z6,<-z6]
  exact List.Perm.append_right _ qx)
 exact(St.pack _ _ b).swap
theorem St.JN{p:Int×(Value×List Nat)}(h:St bs (iD .i64 p.2.1 e (gi p.2.2) :: j4 e m :: L) w):St bs (j4 e (p :: m) :: L) w:=by
 have a:St bs ((m.map fun p=>iD .i64 p.2.1 e (gi p.2.2))++(iD .i64 p.2.1 e (gi p.2.2) :: L)) w:=St.unpack h.swap
 refine St.pack _ _ (a.perm ?_)
 show List.Perm _ (iD .i64 p.2.1 e (gi p.2.2) :: ((m.map fun p=>iD .i64 p.2.1 e (gi p.2.2))++L))
 exact sA
theorem St.YP(a:Int)(h:St bs (j4 e m :: L) w):St bs (iD .i64 (fS m a).1 e (gi (fS m a).2) :: j4 e (jo m a) :: L) w:=by
 unfold fS
 cases hm:iC m a with
 | none =>
  rw[R1 hm]
  exact St.FC h e 1
 | some x=>exact(h.zI (Lb hm)).Qo
theorem St.YO{v:Value}{xs:List Nat}(h:St bs (iD .i64 v e (gi xs) :: j4 e (jo m a) :: L) w):St bs (j4 e (gr m a (v,xs)) :: L) w :=
 (St.JN (p:=(a,(v,xs))) h).zI (Lc m a (v,xs)).symm
theorem St.J3(h:St bs L w):St bs (j4 e [] :: L) w:=St.pack [] L h
end
theorem DN(i:Nat):gi (ds++[i])=gi ds++[(i:Int)]:=by simp[gi]
theorem Lg(i:Nat):(gi ds).eraseIdx i=gi (ds.eraseIdx i):=by
 rw[gi,HZ,HZ]
 simp[gi]
structure Lv where
 slot:Int
 seq:Int
 u:Int
 v:Int
 wt:Int
 t:Int
 exp:Int
structure Cf where
 win:Int
 cQ:Int
 de:Int
 lT:Int
instance:Inhabited Lv:=⟨⟨0,0,0,0,0,0,0⟩⟩
def Lv.cells(x:Lv):List Value:=[.int .i64 x.slot,.int .u64 x.seq,.int .u64 x.u,.int .u64 x.v,.int .i64 x.wt,.int .i64 x.t,.int .i64 x.exp]
structure Lv.ok (x:Lv):Prop where
 slot:ij .i64 x.slot
 seq:ij .u64 x.seq
 u:ij .u64 x.u
 v:ij .u64 x.v
 wt:ij .i64 x.wt
 t:ij .i64 x.t
 exp:ij .i64 x.exp
structure fR where
 jx:Nat
 tb:Nat
 ab:Nat
 mb:Nat
 lv:Value
 last:Int
 aw:AW
 t:TW
 live:List Lv
 im:IM
abbrev fR.A(s:fR):As:=s.aw.A
abbrev Lv.at(x:Lv)(id:Int):Prop:=x.u=id\/x.v=id
def fR.inc(s:fR)(id:Int):List Nat:=(fS s.im id).2
structure fR.ok (de cQ:Nat) (s:fR):Prop where
 n:s.A.n=cQ
 tn:s.t.A.n=de
 en:cQ<=16384
 vn:de<=4096
 lY:s.A.ok
 tok:s.t.ok
 ll:s.live.length=s.A.begun
 slot:∀ i,s.A.iw i->(cE s.live i).slot=(i:Int)
 GB:∀ i,(cE s.live i).ok
 ne:∀ i,s.A.iw i->(cE s.live i).u≠(cE s.live i).v
 mem:∀ id,s.t.mem id↔∃ i,s.A.iw i/\(cE s.live i).at id
 keys:(s.im.map Prod.fst).Nodup
 inc:∀ id i,i∈s.inc id↔s.A.iw i/\(cE s.live i).at id
 nd:∀ id,(s.inc id).Nodup
 empty:∀ id,iC s.im id=none↔s.inc id=[]
 seq:∀ i,s.A.iw i->(cE s.live i).seq<=s.last
 Ho:∀ i j,s.A.iw i->s.A.iw j->(cE s.live i).seq=(cE s.live j).seq->i=j
 ug:0<=s.last
def fR.has(s:fR)(x:Lv):Prop:=∃ i,s.A.iw i/\cE s.live i=x
noncomputable def TW.cnt(t:TW)(id:Int):Nat:=by
 classical
 exact if t.mem id then 0 else 1
theorem TW.BC{t:TW}{id:Int}(h:t.mem id):t.cnt id=0:=by unfold TW.cnt;exact if_pos h
theorem TW.uP{t:TW}{id:Int}(h:¬ t.mem id):t.cnt id=1:=by unfold TW.cnt;exact if_neg h
theorem TW.pE.cnt{t:TW}{id:Int}{b:Bool}(h:t.pE id i b):t.cnt id=if b then 0 else 1:=by
 rcases h with ⟨rfl,a,c⟩|⟨rfl,_,h⟩
 . exact TW.BC ⟨i,a,c⟩
 . exact TW.uP h
noncomputable def fR.gO(s:fR)(de cQ:Nat)(u v:Int):Int:=by
 classical
 exact if u=v then 9 else if cQ<=s.A.used then 12 else if de<s.t.A.used+(s.t.cnt u+s.t.cnt v)then 11 else 0
theorem fR.PL{s:fR}{v:Int}(h:u=v):s.gO i p u v=9:=by unfold fR.gO;rw[if_pos h]
theorem fR.PK{s:fR}{v:Int}(h:u≠v)(h1:p<=s.A.used):s.gO i p u v=12:=by unfold fR.gO;rw[if_neg h,if_pos h1]
theorem fR.Dz{s:fR}{v:Int}(h:u≠v)(h1:¬ p<=s.A.used)(a:i<s.t.A.used+(s.t.cnt u+s.t.cnt v)):s.gO i p u v=11:=by unfold fR.gO;rw[if_neg h,if_neg h1,if_pos a]
theorem fR.BB{s:fR}{v:Int}(h:u≠v)(h1:¬ p<=s.A.used)(a:¬ i<s.t.A.used+(s.t.cnt u+s.t.cnt v)):s.gO i p u v=0:=by unfold fR.gO;rw[if_neg h,if_neg h1,if_neg a]
theorem fR.JI{s:fR}{v:Int}(h:s.gO i p u v=0):u≠v/\s.A.used<p/\s.t.A.used+(s.t.cnt u+s.t.cnt v)<=i:=by
 grind [fR.PL,fR.PK,fR.Dz]
def zZ(ls:List Lv)(i:Nat)(x:Lv):List Lv:=cO (if i=ls.length then ls++[default]else ls) i (fun _=>x)
variable{ls:List Lv}{im:IM}
theorem adQ{x:Lv}(h:i<=ls.length)(j:Nat):cE (zZ ls i x) j=if i=j then x else cE ls j:=by
 grind [zZ,jH,cE]
theorem adR{x:Lv}(h:i<=ls.length):(zZ ls i x).length=if i=ls.length then ls.length+1 else ls.length:=by
 unfold zZ
 rw[gd]
 split<;>simp
section
variable{de cQ:Nat}{s:fR}
theorem fR.ok.ins(h:s.ok de cQ){e:Lv}{l:AW}{p:TW}(hp:AW.put s.A l.A i)(q:l.A.ok)(R:p.ok)(J:e.slot=(i:Int))(w:e.seq=s.last+1)(I:e.ok)(N:e.u≠e.v)(ht:∀ x,p.mem x↔(s.t.mem x\/x=e.u)\/x=e.v)(Q:p.A.n=s.t.A.n){lv2 G:Value}(E:ls=zZ s.live i e){im2:IM}(C:im2=gr (gr s.im e.u (G,s.inc e.u++[i])) e.v (v2,s.inc e.v++[i])) :
 fR.ok de cQ ⟨s.jx,s.tb,s.ab,s.mb,lv2,s.last+1,l,p,ls,im2⟩/\∀ x,fR.has ⟨s.jx,s.tb,s.ab,s.mb,lv2,s.last+1,l,p,ls,im2⟩ x↔s.has x\/x=e:=by
 have T:=h.ll
 have D:i<=s.live.length:=by
  rcases hp.p8 with c|c<;>omega
 have r:∀ j,cE ls j=if i=j then e else cE s.live j:=by rw[E];exact adQ D
 have M:ls.length=if i=s.live.length then s.live.length+1 else s.live.length:=by rw[E];exact adR D
 have f:=hp.iw
 have F:=hp.new
 have O:∀ j,s.A.iw j->i≠j:=fun j d e=>F (e▸d)
 have g:∀ j,s.A.iw j->cE ls j=cE s.live j:=fun j d=>by rw[r,if_neg (O j d)]
 have m:cE ls i=e:=by rw[r,if_pos rfl]
 have B:∀ id,iC im2 id=if e.v=id then some (v2,s.inc e.v++[i])else if e.u=id then some (G,s.inc e.u++[i])else iC s.im id:=by
  intro id
  rw[C,xx,xx]
 have y:∀ id,(fS im2 id).2=if e.v=id then s.inc e.v++[i]else if e.u=id then s.inc e.u++[i]else s.inc id:=by
  intro id
  unfold fS
  rw[B]
  split
  . rfl
  . split
    . rfl
    . rfl
 have P:∀ id,i∉s.inc id:=fun id hi=>F ((h.inc id i).1 hi).1
 refine⟨⟨?_,?_,h.en,h.vn,q,R,?_,?_,?_,?_,?_,?_,?_,?_,?_,?_,?_,?_⟩,fun x=>⟨?_,?_⟩⟩
 . exact hp.n.trans h.n
 . exact Q.trans h.tn
 . show ls.length=l.A.begun
   rw[M]
   rcases hp.p8 with c|c
   . rw[if_neg o_];omega
   . rw[if_pos o_];omega
 . intro j d
   show (cE ls j).slot=(j:Int)
   rcases(f j).1 d with c|rfl
   . rw[g j c];exact h.slot j c
   . rw[m];exact J
 . intro j
   show (cE ls j).ok
   rw[r]
   split
   . exact I
   . exact h.GB j
 . intro j d
   show (cE ls j).u≠(cE ls j).v
   rcases(f j).1 d with c|rfl
   . rw[g j c];exact h.ne j c
   . rw[m];exact N
 . intro id
   show p.mem id↔∃ j,l.A.iw j/\(cE ls j).at id
   rw[ht,h.mem]
   constructor
   . rintro((⟨j,d,k⟩|rfl)|rfl)
     . grind
     . grind
     . grind
   . rintro⟨j,d,k⟩
     rcases(f j).1 d with c|rfl
     . grind
     . grind
 . show (im2.map Prod.fst).Nodup
   rw[C]
   exact DO (DO h.keys _ _) _ _
 . intro id j
   show j∈(fS im2 id).2↔l.A.iw j/\(cE ls j).at id
   rw[y,f]
   have S:=h.inc id j
   grind [cE]
 . intro id
   show (fS im2 id).2.Nodup
   rw[y]
   have z:∀ id,(s.inc id++[i]).Nodup:=fun id=>zo.2 ⟨h.nd id,s_,fun a q b hb=>by
    rw[z8]at hb
    subst hb
    rintro rfl
    exact P id q⟩
   split
   . exact z _
   . split
     . exact z _
     . exact h.nd id
 . intro id
   show iC im2 id=none↔(fS im2 id).2=[]
   rw[y,B]
   split
   . simp
   . split
     . simp
     . exact h.empty id
 . intro j d
   show (cE ls j).seq<=s.last+1
   rcases(f j).1 d with c|rfl
   . rw[g j c];have:=h.seq j c;omega
   . rw[m,w];omega
 . intro a b K L
   show (cE ls a).seq=(cE ls b).seq->a=b
   rcases(f a).1 K with c|c<;>rcases(f b).1 L with o|o
   . rw[g a c,g b o];exact h.Ho a b c o
   . rw[g a c,o,m,w];intro H;have:=h.seq a c;omega
   . rw[g b o,c,m,w];intro H;have:=h.seq b o;omega
   . intro _;omega
 . show 0<=s.last+1
   have:=h.ug
   omega
 . rintro⟨j,d,k⟩
   change cE ls j=x at k
   rcases(f j).1 d with c|c
   . rw[g j c]at k;exact .inl ⟨j,c,k⟩
   . rw[c,m]at k;exact .inr k.symm
 . rintro(⟨j,d,k⟩|rfl)
   . exact⟨j,(f j).2 (.inl d),by show cE ls j=x;rw[g j d];exact k⟩
   . exact⟨i,(f i).2 (.inr rfl),m⟩
end
structure TW.A9 (t t2:TW) (id:Int):Prop where
 mem:∀ x,t2.mem x↔t.mem x\/x=id
 n:t2.A.n=t.A.n
 used:t2.A.used=t.A.used+t.cnt id
theorem TW.Tv{t:TW}(h:t.A.used+t.cnt u<=t.A.n):t.mem u\/t.A.used<t.A.n:=by
 grind [TW.uP]
theorem TW.A9.room{t a:TW}{v:Int}(p:TW.A9 t a u)(h:t.A.used+(t.cnt u+t.cnt v)<=t.A.n):a.mem v\/a.A.used<a.A.n:=by
 by_cases hm:a.mem v
 . exact .inl hm
 . have c:¬ t.mem v:=fun b=>hm ((p.mem v).2 (.inl b))
   rw[TW.uP c]at h
   rw[p.used,p.n]
   exact .inr o_
theorem uW{γ:Type}[Inhabited γ]{m:List (Int×γ)}{a c:Int}{x:γ}(h:a≠c):fS (gr m a x) c=fS m c:=by
 unfold fS
 rw[xx,if_neg h]
theorem kZ(h:-9223372036854775808<=a/\a<=9223372036854775807):ij .i64 a:=h
theorem qc(h:0<=a/\a<=18446744073709551615):ij .u64 a:=h
theorem fR.ok.Kv{s:fR}(h:s.ok i p)(id:Int):(s.inc id).length<=65536:=by
 refine kS (B7 s.A.begun _ (h.nd id) fun j a=>((h.inc id j).1 a).1.1) ?_
 have:=h.lY.le
 have:=h.n
 have:=h.en
 omega
structure nk (im:IM) (t:TW) (im2:IM) (t2:TW) (id:Int) (i:Nat):Prop where
 get:∀ c j,j∈(fS im2 c).2↔j∈(fS im c).2/\(c=id->j≠i)
 nd:(∀ c,(fS im c).2.Nodup)->∀ c,(fS im2 c).2.Nodup
 none:(∀ c,iC im c=none↔(fS im c).2=[])->∀ c,iC im2 c=none↔(fS im2 c).2=[]
 keys:(im.map Prod.fst).Nodup->(im2.map Prod.fst).Nodup
 mem:∀ x,t2.mem x↔t.mem x/\(x=id->(fS im2 id).2≠[])
 n:t2.A.n=t.A.n
theorem ab9{γ:Type}[Inhabited γ]{m:List (Int×γ)}{a c:Int}{x:γ}:fS (gr m a x) c=if a=c then x else fS m c:=by
 unfold fS
 rw[xx]
 split<;>rfl
theorem ab8{m:IM}(b:(m.map Prod.fst).Nodup){c:Int}:fS (jo m a) c=if a=c then default else fS m c:=by
 unfold fS
 rw[La b]
 split<;>rfl
theorem Ll{xs:List Nat}(d:xs.Nodup){a b:Nat}(c:a<xs.length)(hb:b<xs.length)(e:xs[a]=xs[b]):a=b:=by
 rcases Nat.lt_trichotomy a b with h|h|h
 . exact absurd e (yB.1 d a b c hb h)
 . exact h
 . exact absurd e.symm (yB.1 d b a hb c h)
theorem Ql{xs:List Nat}{k:Nat}(f:xs.Nodup)(hk:xs[k]? = some i)(j:Nat):j∈xs.eraseIdx k↔j∈xs/\j≠i:=by
 obtain⟨e,d⟩:=zp.1 hk
 rw[List.mem_eraseIdx_iff_getElem]
 constructor
 . grind [Ll]
 . rintro⟨b,g⟩
   obtain⟨a,c,rfl⟩:=AT b
   grind
theorem nk.keep{t:TW}{id:Int}{k:Nat}{v:Value}(d:(fS im id).2.Nodup)(hk:(fS im id).2[k]? = some i)(b:(fS im id).2.eraseIdx k≠[]):nk im t (gr im id (v,(fS im id).2.eraseIdx k)) t id i:=by
 have a:∀ c,(fS (gr im id (v,(fS im id).2.eraseIdx k)) c).2=if id=c then(fS im id).2.eraseIdx k else(fS im c).2:=fun c=>by rw[ab9];split<;>rfl
 refine⟨fun c j=>?_,fun h c=>?_,fun h c=>?_,fun h=>DO h _ _,fun x=>⟨fun h=>⟨h,fun _=>?_⟩,fun h=>h.1⟩,rfl⟩
 . grind [Ql]
 . grind
 . grind [xx]
 . rw[a,if_pos rfl];exact b
theorem nk.drop{t a:TW}{id:Int}{k:Nat}(e:(im.map Prod.fst).Nodup)(f:(fS im id).2.Nodup)(hk:(fS im id).2[k]? = some i)(b:(fS im id).2.eraseIdx k=[])(ht:∀ x,a.mem x↔t.mem x/\x≠id)(g:a.A.n=t.A.n):nk im t (jo im id) a id i:=by
 have l:∀ c,(fS (jo im id) c).2=if id=c then[]else(fS im c).2:=fun c=>by rw[ab8 e];split<;>rfl
 have d:=Ql f hk
 rw[b]at d
 refine⟨fun c j=>?_,fun h c=>?_,fun h c=>?_,fun h=>Sm h _,fun x=>?_,g⟩
 . grind
 . grind
 . grind [La]
 . grind
section
variable{de cQ:Nat}{s:fR}
theorem fR.ok.rem(h:s.ok de cQ)(hi:s.A.iw i){g:AW}(hd:AW.del s.A g.A i)(I:g.A.ok){z im2:IM}{p:TW}(O:p.ok)(o1:nk s.im s.t z G (cE s.live i).u i)(l:nk z G im2 p (cE s.live i).v i){lv2:Value}(F:ls=cO s.live i (fun _=>default)) :
 fR.ok de cQ ⟨s.jx,s.tb,s.ab,s.mb,lv2,s.last,g,p,ls,im2⟩/\∀ x,fR.has ⟨s.jx,s.tb,s.ab,s.mb,lv2,s.last,g,p,ls,im2⟩ x↔s.has x/\x.slot≠(i:Int):=by
 have M:=h.ll
 have K:i<s.live.length:=by have:=hi.1;omega
 have B:∀ j,cE ls j=if i=j then default else cE s.live j:=by rw[F];exact fun j=>jH K
 have k:=hd.iw
 have Q:=h.ne i hi
 have C:∀ c j,j∈(fS im2 c).2↔j∈s.inc c/\(c=(cE s.live i).u->j≠i)/\(c=(cE s.live i).v->j≠i):=by
  intro c j
  rw[l.get,o1.get,and_assoc]
  rfl
 have y:∀ c j,j∈(fS im2 c).2↔g.A.iw j/\(cE ls j).at c:=by
  intro c j
  rw[C,k,h.inc]
  constructor
  . grind
  . grind
 have m:∀ j,g.A.iw j->cE ls j=cE s.live j:=fun j d=>by rw[B,if_neg (fun e=>((k j).1 d).2 e.symm)]
 refine⟨⟨hd.n.trans h.n,(l.n.trans o1.n).trans h.tn,h.en,h.vn,I,O,?_,?_,?_,?_,?_,l.keys (o1.keys h.keys),y,l.nd (o1.nd h.nd),l.none (o1.none h.empty),?_,?_,h.ug⟩,fun x=>⟨?_,?_⟩⟩
 . show ls.length=g.A.begun
   rw[F,gd,hd.p8]
   exact M
 . intro j d
   show (cE ls j).slot=(j:Int)
   rw[m j d]
   exact h.slot j ((k j).1 d).1
 . intro j
   show (cE ls j).ok
   rw[B]
   split
   . exact⟨kZ (by show _/\_;decide),qc (by show _/\_;decide),qc (by show _/\_;decide),qc (by show _/\_;decide),kZ (by show _/\_;decide),kZ (by show _/\_;decide),kZ (by show _/\_;decide)⟩
   . exact h.GB j
 . intro j d
   show (cE ls j).u≠(cE ls j).v
   rw[m j d]
   exact h.ne j ((k j).1 d).1
 . intro x
   show p.mem x↔∃ j,g.A.iw j/\(cE ls j).at x
   rw[l.mem,o1.mem]
   have J:(∃ j,g.A.iw j/\(cE ls j).at x)↔(fS im2 x).2≠[]:=by
    constructor
    . rintro⟨j,d⟩ e
      have:=(y x j).2 d
      rw[e]at this
      simp at this
    . intro N
      obtain⟨j,d⟩:=H8 _ N
      exact⟨j,(y x j).1 d⟩
   rw[J]
   constructor
   . rintro⟨⟨f,w⟩,q⟩
     by_cases hv:x=(cE s.live i).v
     . rw[hv];exact q hv
     . by_cases hu:x=(cE s.live i).u
       . have H:=w hu
         intro e
         obtain⟨j,d⟩:=H8 _ H
         have:j∈(fS im2 x).2:=(l.get x j).2 ⟨by rw[hu];exact d,fun r=>absurd r hv⟩
         rw[e]at this
         simp at this
       . obtain⟨j,d,P⟩:=(h.mem x).1 f
         grind
   . intro f
     obtain⟨j,d⟩:=H8 _ f
     have w:=(C x j).1 d
     have q:=(h.inc x j).1 w.1
     refine⟨⟨(h.mem x).2 ⟨j,q.1,q.2⟩,fun e=>?_⟩,fun e=>by rw[<-e];exact f⟩
     intro r
     have:j∈(fS z x).2:=((l.get x j).1 d).1
     rw[e,r]at this
     simp at this
 . intro j d
   show (cE ls j).seq<=s.last
   rw[m j d]
   exact h.seq j ((k j).1 d).1
 . intro a b D E
   show (cE ls a).seq=(cE ls b).seq->a=b
   rw[m a D,m b E]
   exact h.Ho a b ((k a).1 D).1 ((k b).1 E).1
 . rintro⟨j,d,o⟩
   change cE ls j=x at o
   rw[m j d]at o
   have f:=(k j).1 d
   refine⟨⟨j,f.1,o⟩,?_⟩
   rw[<-o,h.slot j f.1]
   intro e
   exact f.2 o_
 . rintro⟨⟨j,d,o⟩,hs⟩
   have L:j≠i:=by
    rintro rfl
    rw[<-o,h.slot j d]at hs
    exact hs rfl
   have f:=(k j).2 ⟨d,L⟩
   exact⟨j,f,by show cE ls j=x;rw[m j f];exact o⟩
end
theorem Ks{xs:List Nat}(h:i∈xs)(d:xs.Nodup):∃ k,xs[k]? = some i/\(gi xs)[k]? = some (i:Int)/\∀ (j:Nat) (y:Int),j<k->(gi xs)[j]? = some y->y≠(i:Int):=by
 obtain⟨k,a,e⟩:=AT h
 refine⟨k,by rw[zy a,e],by simp[gi,lU,zy a,e],fun j y c b f=>?_⟩
 simp only[gi,lU,Option.map_eq_some_iff]at b
 grind [Ll]
theorem Lh{xs:List Nat}(h:∀ j∈xs,j<65536):∀ y∈gi xs,ij .i64 y:=by
 grind [kZ]
theorem Ku{s:fR}(h:s.ok i p){id:Int}{P:Nat->Prop}(hs:∀ j,P j->j∈s.inc id)(a:P j):j<65536:=by
 have b:=((h.inc id j).1 (hs j a)).1.1
 have:=h.lY.le
 have:=h.n
 have:=h.en
 omega
theorem inc_le{s:fR}(h:s.ok p q){a:IM}{d:TW}{id:Int}(o:nk s.im s.t a d id i)(c:Int):(fS a c).2.length<=65536:=by
 refine kS (B7 s.A.begun _ (o.nd h.nd c) fun j b=>((h.inc c j).1 ((o.get c j).1 b).1).1.1) ?_
 have:=h.lY.le
 have:=h.n
 have:=h.en
 omega
theorem fR.uX{t:TW}(c:aw.A=As.new p)(f:t.ok)(g:∀ x,¬ t.mem x)(e:t.A.n=i)(d:p<=16384)(hv:i<=4096)(jx tb ab mb:Nat) :
 fR.ok i p ⟨jx,tb,ab,mb,.slice none 0 0,0,aw,t,[],[]⟩/\∀ x,¬ fR.has ⟨jx,tb,ab,mb,.slice none 0 0,0,aw,t,[],[]⟩ x:=by
 have b:∀ j,¬ aw.A.iw j:=fun j a=>by rw[c]at a;exact absurd a.1 (by simp[As.new])
 have hd:∀ j,cE ([]:List Lv) j=⟨0,0,0,0,0,0,0⟩:=fun j=>rfl
 refine⟨⟨?_,e,d,hv,?_,f,?_,?_,?_,?_,?_,?_,?_,?_,?_,?_,?_,?_⟩,fun x ⟨j,a,_⟩=>b j a⟩
 . show aw.A.n=p;rw[c];rfl
 . grind [As.uX]
 . show ([]:List Lv).length=aw.A.begun;rw[c];rfl
 . exact fun j a=>absurd a (b j)
 . intro j
   show Lv.ok (⟨0,0,0,0,0,0,0⟩:Lv)
   exact⟨kZ (by show _/\_;decide),qc (by show _/\_;decide),qc (by show _/\_;decide),qc (by show _/\_;decide),kZ (by show _/\_;decide),kZ (by show _/\_;decide),kZ (by show _/\_;decide)⟩
 . exact fun j a=>absurd a (b j)
 . grind
 . exact yE
 . exact fun id j=>⟨fun h=>(by cases h),fun h=>absurd h.1 (b j)⟩
 . exact fun id=>yE
 . exact fun id=>⟨fun _=>rfl,fun _=>rfl⟩
 . exact fun j a=>absurd a (b j)
 . exact fun j _ a=>absurd a (b j)
 . exact AV 0
theorem zV:∀ (L M:List Int),L.Nodup->(∀ j∈L,j∈M)->L.length<=M.length
 | [],_,_,_=>by simp
 | x :: L,M,hn,h=>by
  have b:=h x s_
  have c:=zV L (M.erase x) (zu.1 hn).2 (fun j a=>(List.mem_erase_of_ne (fun e=>(zu.1 hn).1 (by rw[<-e];exact a))).2 (h j (by simp[a])))
  rw[H9 b]at c
  have:=Ic b
  simp only[zb]
  omega
def TW.vN(t:TW):List Int:=(t.A.list t.A.begun).map (cE t.ids)
theorem TW.Kr{t:TW}(c:t.A.ok)(x:Int):x∈t.vN↔t.mem x:=by
 unfold TW.vN TW.mem
 rw[zq]
 exact⟨fun⟨i,a,b⟩=>⟨i,(c.qh i).1 a,b⟩,fun⟨i,a,b⟩=>⟨i,(c.qh i).2 a,b⟩⟩
theorem TW.QW{t:TW}(a:t.A.ok):t.vN.length=t.A.used:=by rw[TW.vN,zm,a.BX]
theorem Lp{α β:Type}{f:α->β}:∀ {l:List α},l.Nodup->(∀ x∈l,∀ y∈l,f x=f y->x=y)->(l.map f).Nodup
 | [],_,_=>yE
 | a :: l,h,hf=>by
  rw[mh,zu]
  refine⟨fun hm=>?_,Lp (zu.1 h).2 fun x c y d=>hf x (by simp[c]) y (by simp[d])⟩
  obtain⟨b,hb,e⟩:=zq.1 hm
  have:=hf b (by simp[hb]) a s_ e
  subst this
  exact(zu.1 h).1 hb
theorem TW.QX{t:TW}(h:t.ok)(a:t.A.ok):t.vN.Nodup :=
 Lp ((t.A.DK _).imp fun h=>AY h) fun x b y c e=>h.uniq x y ((a.qh x).1 b) ((a.qh y).1 c) e
theorem TW.JB{t:TW}(h:t.ok)(b:t.A.ok){v:Int}(e:u≠v):∃ K:List Int,K.Nodup/\K.length=t.A.used+(t.cnt u+t.cnt v)/\∀ x,x∈K↔t.mem x\/x=u\/x=v:=by
 have c:=TW.QX h b
 have d:=TW.QW b
 have hm:=TW.Kr b
 by_cases hu:t.mem u<;>by_cases hv:t.mem v
 . grind [TW.BC]
 . rw[TW.BC hu,TW.uP hv]
   refine⟨v :: t.vN,zu.2 ⟨fun a=>hv ((hm v).1 a),c⟩,by simp;omega,fun x=>?_⟩
   rw[ze,hm]
   constructor
   . grind
   . grind
 . rw[TW.uP hu,TW.BC hv]
   refine⟨u :: t.vN,zu.2 ⟨fun a=>hu ((hm u).1 a),c⟩,by simp;omega,fun x=>?_⟩
   rw[ze,hm]
   constructor
   . grind
   . grind
 . rw[TW.uP hu,TW.uP hv]
   refine⟨u :: v :: t.vN,zu.2 ⟨fun a=>?_,zu.2 ⟨fun a=>hv ((hm v).1 a),c⟩⟩,by simp;omega,fun x=>?_⟩
   . grind
   . grind
section
variable{de cQ:Nat}{s s1 s2:fR}
theorem fR.ok.BO(h:s.ok de cQ){x:Lv}(a:s.has x):∃ i:Nat,x.slot=(i:Int)/\s.A.iw i/\cE s.live i=x/\i<cQ:=by
 obtain⟨i,hi,rfl⟩:=a
 refine⟨i,h.slot i hi,hi,rfl,?_⟩
 have:=hi.1
 have:=h.lY.le
 have:=h.n
 omega
theorem fR.ok.Mm(h:s.ok de cQ){x y:Lv}(a:s.has x)(b:s.has y)(e:x.slot=y.slot):x=y:=by
 obtain⟨i,f,_,g,_⟩:=h.BO a
 obtain⟨j,c,_,d,_⟩:=h.BO b
 grind
theorem fR.ok.TG(h:s.ok de cQ){x:Lv}(a:s.has x):x.seq<=s.last:=by
 obtain⟨i,hi,rfl⟩:=a
 exact h.seq i hi
theorem fR.ok.BN(h:s.ok de cQ){x:Lv}(a:s.has x):x.ok/\x.u≠x.v:=by
 obtain⟨i,hi,rfl⟩:=a
 exact⟨h.GB i,h.ne i hi⟩
theorem fR.ahc(h1:s1.ok de cQ)(a:s2.ok de cQ)(hs:∀ x,s1.has x->s2.has x):s1.A.used<=s2.A.used:=by
 rw[<-h1.lY.BX,<-a.lY.BX]
 refine DQ _ _ ((s1.A.DK _).imp fun h=>AY h) fun i hi=>?_
 have b:=(h1.lY.qh i).1 hi
 obtain⟨j,c,e⟩:=hs _ ⟨i,b,rfl⟩
 have d:=a.slot j c
 rw[e,h1.slot i b]at d
 have:i=j:=by omega
 subst this
 exact(a.lY.qh i).2 c
theorem fR.Xf(h1:s1.ok de cQ)(g:s1.t.A.ok)(b:s2.ok de cQ)(h:s2.t.A.ok)(hs:∀ x,s1.has x->s2.has x){v:Int}(hc:s2.gO de cQ u v=0):s1.gO de cQ u v=0:=by
 obtain⟨a,o,p⟩:=fR.JI hc
 have w:=fR.ahc h1 b hs
 obtain⟨c,k1,y,n⟩:=TW.JB h1.tok g a
 obtain⟨d,q,r,f⟩:=TW.JB b.tok h a
 have s:c.length<=d.length:=zV c d k1 fun x m=>(f x).2 ((n x).1 m |>.imp_left fun hm=>by
  obtain⟨i,hi,k⟩:=(h1.mem x).1 hm
  obtain⟨j,l,e⟩:=hs _ ⟨i,hi,rfl⟩
  exact(b.mem x).2 ⟨j,l,by rw[e];exact k⟩)
 exact fR.BB a o_ o_
structure fR.lX (s:fR) (L:List Lv):Prop where
 mem:∀ x,x∈L↔s.has x
 kN:L.Pairwise fun a b=>a.seq<b.seq
theorem fR.lX.nodup{L:List Lv}(h:s.lX L):L.Nodup:=h.kN.imp fun {a b} c e=>by rw[e]at c;omega
theorem fR.lX.slots{L:List Lv}(a:s.lX L)(h:s.ok de cQ):(L.map Lv.slot).Nodup :=
 Lp a.nodup fun x b y c e=>h.Mm ((a.mem x).1 b) ((a.mem y).1 c) e
theorem fR.lX.len{L:List Lv}(a:s.lX L)(h:s.ok de cQ):L.length<=cQ:=by
 have b:(L.map Lv.slot).length<=((List.range cQ).map fun i:Nat=>(i:Int)).length:=zV _ _ (a.slots h) fun j c=>by
  obtain⟨x,d,rfl⟩:=zq.1 c
  obtain⟨i,e,_,_,hi⟩:=h.BO ((a.mem x).1 d)
  grind
 simpa using b
theorem fR.abN{ys:List Lv}(h:s.ok de cQ)(hp:ys.Perm ((s.A.list s.A.begun).map (cE s.live)))(hs:ys.Pairwise fun a b=>a.seq<=b.seq):s.lX ys:=by
 refine⟨fun x=>?_,?_⟩
 . rw[hp.mem_iff,zq]
   exact⟨fun⟨i,c,d⟩=>⟨i,(h.lY.qh i).1 c,d⟩,fun⟨i,c,d⟩=>⟨i,(h.lY.qh i).2 c,d⟩⟩
 . have c:((s.A.list s.A.begun).map (cE s.live)).Pairwise fun a b=>a.seq≠b.seq:=by
    rw[Ij]
    refine(s.A.DK _).imp_of_mem fun {a b} f hb j e=>?_
    have:=h.Ho a b ((h.lY.qh a).1 f) ((h.lY.qh b).1 hb) e
    omega
   have d:ys.Pairwise fun a b=>a.seq≠b.seq:=hp.symm.pairwise c fun {a b} g e=>g e.symm
   exact(hs.and d).imp fun {a b} h=>by have:=h.1;have:=h.2;omega
theorem Cj{α β:Type}[Inhabited α]{l:List α}(f:α->β){k:Nat}(hk:k<l.length):(l.take (k+1)).map f=(l.take k).map f++[f (cE l k)]:=by
 have a:l[k]? = some (cE l k):=fW hk
 rw[nY,a]
 simp
end
structure QS where
 iv:Value
 pv:Value
 ps:List (Option Nat)
 dQ:List gC
 pl:List Nat
structure QS.ok (n:Nat) (s:QS):Prop where
 hp:Hp n s.dQ s.pl
 gX:jN n s.ps s.pl
 ord:Ord s.dQ
theorem QS.ok.free{n:Nat}{s:QS}(h:s.ok n)(hi:i<n)(d:∀ e∈s.dQ,e.ix≠i):cE s.pl i=0:=by
 rcases AL (cE s.pl i)with a|a
 . exact a
 . obtain⟨b,c⟩:=h.hp.of i (cE s.pl i-1) hi o_
   exact absurd c (d _ (tf.2 ⟨_,b,rfl⟩))
theorem QS.ok.lt{n:Nat}{s:QS}(h:s.ok n){e:gC}(a:e∈s.dQ):e.ix<n:=by
 obtain⟨p,hp,rfl⟩:=tf.1 a
 exact h.hp.ix p hp
theorem QS.ok.inj{n:Nat}{s:QS}(h:s.ok n){e f:gC}(a:e∈s.dQ)(b:f∈s.dQ)(d:e.ix=f.ix):e=f:=by
 obtain⟨p,hp,rfl⟩:=tf.1 a
 obtain⟨q,c,rfl⟩:=tf.1 b
 rw[h.hp.inj hp c d]
structure vt (s0 s:List gC) (ds:List Nat) (now:Int):Prop where
 rest:∀ e,e∈s↔e∈s0/\e.ix∉ds
 uS:∀ i∈ds,∃ e∈s0,e.ix=i/\e.key<=now
 nd:ds.Nodup
 len:s.length+ds.length=s0.length
theorem vt.start(s:List gC)(now:Int):vt s s [] now:=⟨fun e=>by simp,fun i hi=>by simp at hi,yE,s_⟩
theorem vt.step{s s1:List gC}{ds:List Nat}{now:Int}(h:vt zs s ds now)(f:0<s.length)(hk:(cE s 0).key<=now)(hm:∀ e,e∈s1↔e∈s/\e.ix≠(cE s 0).ix)(k:s1.length+1=s.length):vt zs s1 (ds++[(cE s 0).ix]) now:=by
 have j:cE s 0∈s:=tf.2 ⟨0,f,rfl⟩
 have d:=(h.rest _).1 j
 refine⟨fun e=>?_,fun i hi=>?_,?_,?_⟩
 . rw[hm,h.rest,zj,z8,not_or,and_assoc]
 . rcases zj.1 hi with c|c
   . exact h.uS i c
   . rw[z8]at c
     subst c
     exact⟨_,d.1,rfl,hk⟩
 . refine zo.2 ⟨h.nd,s_,?_⟩
   intro a g b hb
   rw[z8]at hb
   subst hb
   rintro rfl
   exact d.2 g
 . have:=h.len
   rw[zk]
   simp
   omega
structure sE (n:Nat) (s0 s:QS) (ds:List Nat) (now:Int):Prop where
 ok:s.ok n
 rest:∀ e,e∈s.dQ↔e∈s0.dQ/\now<e.key
 out:∀ i,i∈ds↔∃ e∈s0.dQ,e.ix=i/\e.key<=now
 nd:ds.Nodup
 len:ds.length<=n
variable{s0:QS}
theorem vt.fin{n:Nat}{s:QS}{ds:List Nat}{now:Int}(h:vt s0.dQ s.dQ ds now)(d:s0.ok n)(h1:s.ok n)(hd:s.dQ.length=0\/now<(cE s.dQ 0).key):sE n s0 s ds now:=by
 have g:∀ e∈s.dQ,now<e.key:=by
  intro e a
  rcases hd with c|c
  . rw[Ey]at c;rw[c]at a;simp at a
  . have:=h1.ord.min a
    unfold iQ at this
    omega
 have m:∀ e,e∈s.dQ↔e∈s0.dQ/\now<e.key:=by
  intro e
  constructor
  . intro a;exact⟨((h.rest e).1 a).1,g e a⟩
  . rintro⟨a,l⟩
    refine(h.rest e).2 ⟨a,fun b=>?_⟩
    obtain⟨f,j,k,o⟩:=h.uS _ b
    have:=d.inj a j k.symm
    subst this
    omega
 refine⟨h1,m,fun i=>⟨h.uS i,?_⟩,h.nd,?_⟩
 . rintro⟨e,a,rfl,l⟩
   by_cases b:e.ix∈ds
   . exact b
   . have:=g e ((h.rest e).2 ⟨a,b⟩)
     omega
 . have:=h.len
   have:=d.hp.len
   omega
structure Ed where
 a:Nat
 b:Nat
 exp:Int
 tree:Bool
 deriving Inhabited
def Ed.enc(e:Ed):Value:=.agg #[.int .i64 (e.a:Int),.int .i64 (e.b:Int),.int .i64 e.exp,.bool e.tree]
structure GW where
 fb:Nat
 nb:Nat
 hb:Nat
 mb:Nat
 trees:Int
 q:QS
 m:List (Int×Ed)
structure Ed.In (de:Nat) (e:Ed):Prop where
 a:e.a<de
 b:e.b<de
 exp:ij .i64 e.exp
structure GW.ok (de cQ:Nat) (g:GW):Prop where
 v2:2<=de
 vn:de<=4096
 en:cQ<=16384
 ed:∀ p∈g.m,p.2.In de
theorem GW.ok.get{g:GW}(h:g.ok i p)(k:Int):(fS g.m k).In i:=by
 unfold fS
 cases hm:iC g.m k with
 | none=>exact⟨qA d_ h.v2,qA d_ h.v2,⟨d_,d_⟩⟩
 | some x=>exact h.ed _ (R8 hm)
theorem GW.ok.put{cQ:Nat}{g:GW}(h:g.ok i cQ){k:Int}{e:Ed}(b:e.In i){fb hb mb:Nat}{c:Int}{q:QS}:GW.ok i cQ ⟨fb,j,hb,mb,c,q,gr g.m k e⟩ :=
 ⟨h.v2,h.vn,h.en,fun p hp=>by
  rcases ze.1 ((Lc g.m k e).mem_iff.1 hp)with rfl|a
  . exact b
  . exact h.ed p ((K4 g.m k).subset a)⟩
theorem GW.ok.del{cQ:Nat}{g:GW}(h:g.ok i cQ){k:Int}{fb hb mb:Nat}{q:QS}:GW.ok i cQ ⟨fb,j,hb,mb,a,q,jo g.m k⟩ :=
 ⟨h.v2,h.vn,h.en,fun p hp=>h.ed p ((K4 g.m k).subset hp)⟩
theorem GW.ok.same{g:GW}(h:g.ok i p){fb hb mb:Nat}{q:QS}:GW.ok i p ⟨fb,j,hb,mb,a,q,g.m⟩:=⟨h.v2,h.vn,h.en,h.ed⟩
def qZ(a b:Int):Int×Int:=if -9223372036854775808<=a+b/\a+b<=9223372036854775807 then(a+b,0)else(0,7)
theorem yW{b:Int}(h:-9223372036854775808<=a+b/\a+b<=9223372036854775807):qZ a b=(a+b,0):=if_pos h
theorem OR{b:Int}(h:¬ (-9223372036854775808<=a+b/\a+b<=9223372036854775807)):qZ a b=(0,7):=if_neg h
def sX(win now to:Int):Int:=if to<now then 10 else(qZ to win).2
end Go.Sx
