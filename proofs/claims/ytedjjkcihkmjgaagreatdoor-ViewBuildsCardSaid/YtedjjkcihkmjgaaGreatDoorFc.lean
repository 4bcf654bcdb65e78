/- Plain lemmas. No conditions. -/
import Derived.Test.YtedjjkcihkmjgaaGreatDoorFb
import Derived.Laws.BitsAllLaws
import Derived.Sort.Row
import Derived.Lib.TrailingZeros
import Derived.Sort.Grow
import Derived.Deep.Draws
import Derived.Shelf.GgSortFunc.InsertionK
import Derived.Shelf.SlSortCmp.Whole1
set_option linter.unusedVariables false
set_option linter.unusedSectionVars false
set_option linter.unusedSimpArgs false
namespace Go.Sx
open Go
structure WC where
 win:Int
 cQ:Nat
 de:Nat
 lT:Int
structure WW where
 cb:Nat
 ub:Nat
 sb:Nat
 hb:Nat
 ob:Nat
 now:Int
 q:QS
 u:fR
 g:GW
 added:Int
 oS:Int
def EY(u:fR)(q:QS):Prop:=∀ e:gC,e∈q.dQ↔∃ x,u.has x/\x.slot=(e.ix:Int)/\x.exp=e.key
structure WW.ok (c:WC) (s:WW):Prop where
 w1:1<=c.win
 wi:c.win<=1000000
 e1:1<=c.cQ
 en:c.cQ<=16384
 v2:2<=c.de
 vn:c.de<=4096
 n0:0<=s.now
 n1:s.now<=1000000
 a0:0<=s.added
 a1:s.added<=1000000
 ex:ij .u64 s.oS
 la:s.u.last<=s.added
 Cg:EY s.u s.q
 live:∀ x,s.u.has x->x.t<=s.now/\s.now<x.exp/\x.exp=x.t+c.win/\0<=x.t
 ord:∀ x y,s.u.has x->s.u.has y->x.seq<y.seq->x.t<=y.t
structure pH (u u2:fR) (ds:List Nat):Prop where
 has:∀ x,u2.has x↔u.has x/\∀ i∈ds,x.slot≠(i:Int)
 last:u2.last=u.last
theorem pH.start(u:fR):pH u u []:=⟨fun x=>by simp,rfl⟩
variable{n k i y j:Nat}{lb ds:List Nat}{B L:List (Int×Nat)}{a W:List Int}{u z iv:Value}{x T:Int}{bs:List (World×List Nat)}{p:Int×Nat}{cs:List Value}{s:fR}{w w':World}{L0:List fJ}{H:List (Value×List Nat)}{cf:Nat->List Value}{k1:IntKind}{q:Nat->Bool}{Q:Exit->Act->World->Prop}{s2 s3:WW}{K:IM}{xs:Array Value}{C:QS}(m:Nat)(E:List Nat)
theorem pH.next{u d e:fR}(h:pH u d ds)(f:∀ x,e.has x↔d.has x/\x.slot≠(i:Int))(g:e.last=d.last):pH u e (ds++[i]) :=
 ⟨fun x=>by
  rw[f,h.has,and_assoc]
  refine and_congr_right fun _=>⟨fun⟨a,b⟩ j c=>?_,fun h=>⟨fun j c=>h j (by simp[c]),h i s_⟩⟩
  rcases zj.1 c with c|c
  . exact a j c
  . rw[z8]at c;subst c;exact b,g.trans h.last⟩
theorem pH.fin{de cQ:Nat}{u d:fR}{q r:QS}{t:Int}(h:pH u d ds)(hs:EY u q)(c:u.ok de cQ)(hd:sE n q r ds t):∀ x,d.has x↔u.has x/\t<x.exp:=by
 intro x
 rw[h.has]
 refine and_congr_right fun a=>?_
 obtain⟨i,hi,_,_,_⟩:=c.BO a
 have g:(⟨i,x.exp⟩:gC)∈q.dQ:=(hs _).2 ⟨x,a,hi,rfl⟩
 constructor
 . intro b
   by_cases h2:t<x.exp
   . exact h2
   . exact absurd hi (b i ((hd.out i).2 ⟨_,g,rfl,Int.not_lt.1 h2⟩))
 . intro b j m e
   obtain⟨f,k,l,s⟩:=(hd.out j).1 m
   obtain⟨y,o,p,v⟩:=(hs f).1 k
   have:x=y:=c.Mm a o (by rw[e,p,l])
   subst this
   omega
theorem pH.can{de cQ:Nat}{u b:fR}{q:QS}{t:Int}(h:pH u b (ds.take k))(hs:EY u q)(w:b.ok de cQ)(hd:sE n q C ds t)(hk:ds[k]? = some i):b.A.iw i:=by
 obtain⟨v,s⟩:=zp.1 hk
 obtain⟨f,m,o,D⟩:=(hd.out i).1 (zg hk)
 obtain⟨x,y,B,E⟩:=(hs f).1 m
 rw[o]at B
 have z:b.has x:=(h.has x).2 ⟨y,fun j d e=>by
  obtain⟨a,g,c⟩:=AT d
  have l:a<k/\a<ds.length:=by
   rw[zw]at g
   omega
  rw[List.getElem_take]at c
  have p:j=i:=by omega
  have:=Ll hd.nd l.2 v (by rw[c,s,p])
  omega⟩
 obtain⟨j,d,r,_,_⟩:=w.BO z
 have:j=i:=by omega
 subst this
 exact r
section
variable{c:WC}{s:WW}
theorem WW.ok.tick(h:s.ok c)(o:s.now<=T)(i:T<=1000000){a:fR}{f:QS}{g2:GW}{ex:Int}(j:ij .u64 ex)(hd:sE n s.q f ds T)(b:∀ x,a.has x↔s.u.has x/\T<x.exp)(k:a.last=s.u.last) :
 WW.ok c ⟨s.cb,s.ub,s.sb,s.hb,s.ob,T,f,a,g2,s.added,ex⟩:=by
 have p:=h.n0
 refine⟨h.w1,h.wi,h.e1,h.en,h.v2,h.vn,by show 0<=T;omega,i,h.a0,h.a1,j,by show a.last<=_;rw[k];exact h.la,fun e=>?_,fun x d=>?_,fun x y d l=>h.ord x y ((b x).1 d).1 ((b y).1 l).1⟩
 . show e∈f.dQ↔∃ x,a.has x/\_
   rw[hd.rest,h.Cg]
   constructor
   . grind
   . grind
 . have g:=(b x).1 d
   have m:=h.live x g.1
   grind
theorem WW.ok.free(h:s.ok c)(k:s.u.ok c.de c.cQ){d:fR}(l:d.ok c.de c.cQ){e:Lv}(g:e.slot=(i:Int))(n:e.seq=s.u.last+1)(a:∀ y,d.has y↔s.u.has y\/y=e):∀ f∈s.q.dQ,f.ix≠i:=by
 intro f j e1
 obtain⟨x,b,m,_⟩:=(h.Cg f).1 j
 have:x=e:=l.Mm ((a x).2 (.inl b)) ((a e).2 (.inr rfl)) (by rw[m,g,e1])
 subst this
 have:=k.TG b
 omega
theorem WW.ok.ins(h:s.ok c)(z:s.u.ok c.de c.cQ){d:fR}{n:QS}{g2:GW}{e:Lv}(v:e.slot=(i:Int))(E:e.seq=s.u.last+1)(F:e.t=s.now)(D:e.exp=s.now+c.win)(j:∀ y,d.has y↔s.u.has y\/y=e)(G:d.last=s.u.last+1)(w:∀ f,f∈n.dQ↔f∈s.q.dQ\/f=⟨i,e.exp⟩)(B:s.added<1000000):WW.ok c ⟨s.cb,s.ub,s.sb,s.hb,s.ob,s.now,n,d,g2,s.added+1,s.oS⟩:=by
 have C:=h.a0
 have H:=h.la
 have I:=h.n0
 have J:=h.w1
 refine⟨h.w1,h.wi,h.e1,h.en,h.v2,h.vn,h.n0,h.n1,by show 0<=s.added+1;omega,by show s.added+1<=_;omega,h.ex,by show d.last<=s.added+1;omega,fun f=>?_,fun x k=>?_,fun x y k p=>?_⟩
 . show f∈n.dQ↔∃ x,d.has x/\_
   rw[w,h.Cg]
   constructor
   . rintro(⟨x,l,m⟩|rfl)
     . exact⟨x,(j x).2 (.inl l),m⟩
     . exact⟨e,(j e).2 (.inr rfl),v,rfl⟩
   . rintro⟨x,l,m,r⟩
     rcases(j x).1 l with g|rfl
     . exact .inl ⟨x,g,m,r⟩
     . right
       obtain⟨a,b⟩:=f
       grind
 . show x.t<=s.now/\s.now<x.exp/\_
   rcases(j x).1 k with g|rfl
   . exact h.live x g
   . exact⟨o_,o_,o_,o_⟩
 . change d.has x at k
   change d.has y at p
   rcases(j x).1 k with g|rfl<;>rcases(j y).1 p with o|rfl
   . exact h.ord x y g o
   . intro _
     have:=(h.live x g).1
     omega
   . have:=z.TG o
     intro A
     omega
   . intro _;omega
end
theorem WW.uX{c:WC}(w1:1<=c.win)(wi:c.win<=1000000)(e1:1<=c.cQ)(en:c.cQ<=16384)(v2:2<=c.de)(vn:c.de<=4096){u:fR}{q:QS}{g:GW}(a:∀ y,¬ u.has y)(d:u.last=0)(b:q.dQ=[])(cb ub sb hb ob:Nat):WW.ok c ⟨cb,ub,sb,hb,ob,0,q,u,g,0,0⟩ :=
 ⟨w1,wi,e1,en,v2,vn,AV 0,by show (0:Int)<=1000000;decide,AV 0,by show (0:Int)<=1000000;decide,qc ⟨AV 0,by show (0:Int)<=18446744073709551615;decide⟩,by show u.last<=0;omega,fun e=>⟨fun h=>by change e∈q.dQ at h;rw[b]at h;simp at h,fun⟨x,h,_⟩=>absurd h (a x)⟩,fun x h=>absurd h (a x),fun x y h=>absurd h (a x)⟩
structure WW.Step (s s2:WW) (r:Lv):Prop where
 now:s2.now=s.now\/s2.now=r.t
 added:s2.added<=s.added+1
 has:∀ x,s2.u.has x->s.u.has x\/(x.u=r.u/\x.v=r.v/\x.wt=r.wt)
theorem WW.Step.same(s:WW)(r:Lv):WW.Step s s r:=⟨.inl rfl,o_,fun x h=>.inl h⟩
theorem aao(x:Int):ij .u64 (IntKind.u64.wrap x):=by
 rw[IntKind.wrap_u64]
 exact qc o_
theorem PJ{now t:Int}(h1:now<=t)(a:-9223372036854775808<=t+x/\t+x<=9223372036854775807):sX x now t=0:=by
 grind [sX,yW]
theorem sE.acU{q a t:QS}{now:Int}(h:sE n a t ds now)(e:a.dQ=q.dQ):sE n q t ds now :=
 ⟨h.ok,by rw[<-e];exact h.rest,by rw[<-e];exact h.out,h.nd,h.len⟩
theorem TW.pE.lt{t:TW}{id:Int}{z:Nat}{b:Bool}(h:t.pE id z b)(a:t.ok)(hp:0<t.A.n):z<t.A.n:=by
 rcases h with ⟨_,h,_⟩|⟨_,rfl,_⟩
 . exact qA h.1 a.p8
 . exact hp
def Room(c:WC)(s:WW)(x:Lv):Prop:=∀ a:fR,a.ok c.de c.cQ->a.t.A.ok->(∀ y,a.has y↔s.u.has y/\x.t<y.exp)->a.gO c.de c.cQ x.u x.v=0
theorem Room.of{c:WC}{s:WW}{x:Lv}{a:fR}(d:a.ok c.de c.cQ)(e:a.t.A.ok)(hc:a.gO c.de c.cQ x.u x.v=0)(hs:∀ y,s.u.has y/\x.t<y.exp->a.has y):Room c s x :=
 fun i b f g=>fR.Xf b f d e (fun y h=>hs y ((g y).1 h)) hc
abbrev Vr(s:WW):Int:=IntKind.u64.wrap (s.added+s.oS)
structure qX (c:WC) (s:WW) (k:Nat):Prop where
 now:s.now<=3*(k:Int)
 added:s.added<=(k:Int)
 ids:∀ x,s.u.has x->(0<=x.u/\x.u<12)/\0<=x.v/\x.v<12
 wt:∀ x,s.u.has x -> -128<=x.wt/\x.wt<=127
theorem qX.next{c:WC}{s:WW}{r:Lv}(h:qX c s k)(hs:WW.Step s s2 r)(ht:r.t<=s.now+3)(f:0<=r.u/\r.u<12)(hv:0<=r.v/\r.v<12)(g:-128<=r.wt/\r.wt<=127):qX c s2 (k+1):=by
 have i:=h.now
 have j:=h.added
 have l:=hs.added
 refine⟨?_,o_,fun x b=>?_,fun x b=>?_⟩
 . rcases hs.now with e|e<;>omega
 . rcases hs.has x b with a|⟨a,d,_⟩
   . exact h.ids x a
   . rw[a,d];exact⟨f,hv⟩
 . rcases hs.has x b with a|⟨_,_,a⟩
   . exact h.wt x a
   . rw[a];exact g
structure Mv where
 u:Int
 v:Int
 wt:Int
 af:Int
instance:Inhabited Mv:=⟨⟨0,0,0,0⟩⟩
structure Mv.ok (x:Mv):Prop where
 u:0<=x.u/\x.u<=255
 v:0<=x.v/\x.v<=255
 wt : -128<=x.wt/\x.wt<=127
 af:0<=x.af/\x.af<=255
theorem qX.start{c:WC}{s:WW}(h1:s.now=0)(d:s.added=0)(b:∀ y,¬ s.u.has y):qX c s 0 :=
 ⟨by rw[h1];decide,by rw[d];decide,fun x a=>absurd a (b x),fun x a=>absurd a (b x)⟩
def Mv.zF(now:Int)(x:Mv):Lv:=⟨0,0,x.u%12,x.v%12,x.wt,now+x.af%4,0⟩
theorem Mv.ok.zF{x:Mv}(h:x.ok){now:Int}(a:0<=now)(h1:now<=1000):(x.zF now).ok:=by
 have b:=h.wt
 unfold Mv.zF
 exact⟨kZ (by show _/\_;dsimp only;omega),qc (by show _/\_;dsimp only;omega),qc (by show _/\_;dsimp only;omega),qc (by show _/\_;dsimp only;omega),kZ (by show _/\_;dsimp only;omega),kZ (by show _/\_;dsimp only;omega),kZ (by show _/\_;dsimp only;omega)⟩
section
variable{ys xs:List Int}
def nr(ys:List Int)(i:Nat):Prop:=∀ p q,p<q->q<i->cE ys p<=cE ys q
def uF(ys:List Int)(i j:Nat):Prop:=∀ p q,p<q->q<=i->q≠j->cE ys p<=cE ys q
def D5(ys:List Int)(j:Nat):List Int:=cO (cO ys j fun _=>cE ys (j-1)) (j-1) fun _=>cE ys j
theorem T2(a:0<j)(h:j<ys.length):(D5 ys j).Perm ys:=by
 grind [cE,iW,D5,cO]
theorem T1(a:0<j)(h:j<ys.length)(k:Nat):cE (D5 ys j) k=if k=j then cE ys (j-1)else if k=j-1 then cE ys j else cE ys k:=by
 grind [D5,jH,gd]
theorem nr.zero:nr ys 1:=fun p q a b=>by omega
theorem nr.at(h:nr ys i):uF ys i i:=fun p q a b c=>h p q a o_
theorem uF.swap(h:uF ys i j)(b:0<j)(e:j<=i)(f:i<ys.length)(g:cE ys j<cE ys (j-1)):uF (D5 ys j) i (j-1):=by
 intro p q d a c
 rw[T1 b o_,T1 b o_]
 by_cases hqj:q=j
 . rw[if_pos hqj]
   by_cases hp:p=j-1
   . rw[if_neg o_,if_pos hp];omega
   . rw[if_neg o_,if_neg hp]
     exact h p (j-1) o_ o_ o_
 . rw[if_neg hqj,if_neg c]
   by_cases hpj:p=j
   . rw[if_pos hpj]
     exact h (j-1) q o_ a hqj
   . rw[if_neg hpj]
     by_cases hp:p=j-1
     . rw[if_pos hp]
       exact h j q o_ a hqj
     . rw[if_neg hp]
       exact h p q d a hqj
theorem uF.Qe(h:uF ys i 0):nr ys (i+1):=fun p q a b=>h p q a o_ o_
theorem uF.done(h:uF ys i j)(b:0<j)(d:j<=i)(e:¬ cE ys j<cE ys (j-1)):nr ys (i+1):=by
 intro p q a c
 by_cases hq:q=j
 . subst hq
   by_cases hp:p=q-1
   . subst hp;omega
   . have:=h p (q-1) o_ o_ o_
     omega
 . exact h p q a o_ hq
theorem nr.kN(h:nr ys ys.length)(f:ys.Nodup):ys.Pairwise fun a b=>a<b:=by
 have e:ys.Pairwise fun a b=>a<=b:=by
  rw[yB]
  intro p q hp d g
  have c:=h p q g d
  rw[iW (zy hp),iW (zy d)]at c
  exact c
 exact(e.and f).imp fun {a b} h=>by have:=h.1;have:=h.2;omega
theorem FE{α:Type}{r:α->α->Prop}(hi:∀ a,¬ r a a)(ht:∀ a b,r a b->¬ r b a):∀ {a b:List α},a.Pairwise r->b.Pairwise r->(∀ x,x∈a↔x∈b)->a=b
 | [],[],_,_,_=>rfl
 | [],y :: b,_,_,h=>by have:=(h y).2 s_;cases this
 | x :: a,[],_,_,h=>by have:=(h x).1 s_;cases this
 | x :: a,y :: b,ha,hb,h=>by
  have j:x=y:=by
   rcases ze.1 ((h x).1 s_)with e|c
   . exact e
   . rcases ze.1 ((h y).2 s_)with e|f
     . exact e.symm
     . exact absurd ((qz.1 ha).1 y f) (ht _ _ ((qz.1 hb).1 x c))
  subst j
  have g:=(qz.1 ha).1
  have i:=(qz.1 hb).1
  congr 1
  refine FE hi ht (qz.1 ha).2 (qz.1 hb).2 fun z=>⟨fun d=>?_,fun d=>?_⟩
  . rcases ze.1 ((h z).1 (by simp[d]))with e|c
    . subst e;exact absurd (g z d) (hi z)
    . exact c
  . rcases ze.1 ((h z).2 (by simp[d]))with e|c
    . subst e;exact absurd (i z d) (hi z)
    . exact c
theorem O3{b:List Int}(c:a.Pairwise fun x y=>x<y)(hb:b.Pairwise fun x y=>x<y)(h:∀ x,x∈a↔x∈b):a=b :=
 FE (fun a=>Int.lt_irrefl a) (fun a b h=>by omega) c hb h
theorem fR.lX.uniq{a b:List Lv}(c:s.lX a)(hb:s.lX b):a=b :=
 FE (r:=fun x y:Lv=>x.seq<y.seq) (fun a=>Int.lt_irrefl _) (fun a b h=>by omega) c.kN hb.kN fun x=>(c.mem x).trans (hb.mem x).symm
structure n9 (ys:List Int) (x:Int) (i j:Nat):Prop where
 lo:∀ p,p<i->cE ys p<x
 hi:∀ p,j<=p->p<ys.length->x<=cE ys p
theorem n9.start:n9 ys x 0 ys.length:=⟨fun p h=>by omega,fun p a b=>by omega⟩
theorem Dt(h:ys.Pairwise fun a b=>a<b){p q:Nat}(e:p<q)(c:q<ys.length):cE ys p<cE ys q:=by
 have d:=(yB.1 h) p q o_ c e
 rw[iW (zy (show p<ys.length by omega)),iW (zy c)]
 exact d
theorem n9.up(h:n9 ys x i j)(hs:ys.Pairwise fun a b=>a<b)(hk:k<ys.length)(c:cE ys k<x):n9 ys x (k+1) j :=
 ⟨fun p hp=>by
  by_cases e:p=k
  . subst e;exact c
  . have:=Dt hs (show p<k by omega) hk
    omega,h.hi⟩
theorem n9.down(h:n9 ys x i j)(hs:ys.Pairwise fun a b=>a<b)(f:¬ cE ys k<x):n9 ys x i k :=
 ⟨h.lo,fun p d c=>by
  by_cases e:p=k
  . subst e;omega
  . have:=Dt hs (show k<p by omega) c
    omega⟩
def gX(ys:List Int)(x:Int):Nat:=(ys.filter fun y=>decide (y<x)).length
theorem n9.gX(h:n9 ys x i i)(hi:i<=ys.length):i=gX ys x:=by
 have d:(ys.take i).filter (fun y=>decide (y<x))=ys.take i:=vq.2 fun y c=>by
  obtain⟨p,hp,e⟩:=AT c
  rw[zw]at hp
  rw[List.getElem_take]at e
  have a:=h.lo p o_
  rw[iW (zy o_),e]at a
  exact decide_eq_true a
 have a:(ys.drop i).filter (fun y=>decide (y<x))=[]:=EB.2 fun y c=>by
  obtain⟨p,hp,e⟩:=AT c
  rw[CM]at hp
  rw[List.getElem_drop]at e
  have b:=h.hi (i+p) o_ o_
  rw[iW (zy o_),e]at b
  simp
  omega
 have b:ys.filter (fun y=>decide (y<x))=ys.take i:=by
  conv=>lhs;rw[<-wA i ys]
  grind
 unfold Go.Sx.gX
 rw[b,zw]
 omega
theorem zY(hs:ys.Pairwise fun a b=>a<b)(f:x∈ys):gX ys x<ys.length/\cE ys (gX ys x)=x:=by
 obtain⟨k,c,e⟩:=AT f
 have e1:cE ys k=x:=iW (by rw[zy c,e])
 have hb:n9 ys x k k:=⟨fun p hp=>by have:=Dt hs hp c;omega,fun p g d=>by
  by_cases h3:k=p
  . subst h3;omega
  . have:=Dt hs (show k<p by omega) d
    omega⟩
 rw[<-hb.gX o_]
 exact⟨c,e1⟩
structure Ge where
 u:Nat
 v:Nat
 w:Int
instance:Inhabited Ge:=⟨⟨0,0,0⟩⟩
def Ge.cells(x:Ge):List Value:=[.int .i64 x.u,.int .i64 x.v,.int .i64 x.w]
structure ND (ids:List Int) (x:Lv) (e:Ge):Prop where
 ul:e.u<ids.length
 vl:e.v<ids.length
 u:cE ids e.u=x.u
 v:cE ids e.v=x.v
 w:e.w=x.wt
structure mE (ids:List Int) (L:List Lv) (es:List Ge) (k:Nat):Prop where
 len:es.length=L.length
 fst:∀ i,i<k->ND ids (cE L i) (cE es i)
theorem mE.start{L:List Lv}:mE a L (List.replicate L.length ⟨0,0,0⟩) 0:=⟨by rw[oK],fun i h=>by omega⟩
variable{es:List Ge}
theorem mE.next{ids:List Int}{L:List Lv}(h:mE ids L es k)(hk:k<L.length)(hs:ids.Pairwise fun a b=>a<b)(c:(cE L k).u∈ids)(hv:(cE L k).v∈ids) :
 mE ids L (cO es k fun _=>⟨gX ids (cE L k).u,gX ids (cE L k).v,(cE L k).wt⟩) (k+1):=by
 have d:=h.len
 refine⟨by rw[gd];exact d,fun i hi=>?_⟩
 rw[jH o_]
 by_cases e:k=i
 . subst e
   rw[if_pos rfl]
   exact⟨(zY hs c).1,(zY hs hv).1,(zY hs c).2,(zY hs hv).2,rfl⟩
 . rw[if_neg e]
   exact h.fst i o_
structure fR.oc (s:fR) (K:List Int):Prop where
 kN:K.Pairwise fun a b=>a<b
 mem:∀ x,x∈K↔s.t.mem x
theorem fR.oc.uniq{b:List Int}(c:s.oc a)(hb:s.oc b):a=b:=O3 c.kN hb.kN fun x=>(c.mem x).trans (hb.mem x).symm
theorem fR.oc.ends{de cQ:Nat}{K:List Int}{L:List Lv}(h:s.oc K)(a:s.ok de cQ)(b:s.lX L)(hk:k<L.length):(cE L k).u∈K/\(cE L k).v∈K:=by
 obtain⟨i,hi,e⟩:=(b.mem _).1 (zg (fW hk))
 exact⟨(h.mem _).2 ((a.mem _).2 ⟨i,hi,.inl (by rw[e])⟩),(h.mem _).2 ((a.mem _).2 ⟨i,hi,.inr (by rw[e])⟩)⟩
theorem fR.oc.len{de cQ:Nat}{K:List Int}(h:s.oc K)(d:s.ok de cQ)(c:s.t.A.ok):K.length<=de:=by
 have f:K.length<=s.t.vN.length:=zV K _ (h.kN.imp fun {a b} k e=>by omega) fun x g=>(TW.Kr c x).2 ((h.mem x).1 g)
 rw[TW.QW c]at f
 have i:=d.tok.ul
 have j:=d.tn
 omega
structure Mw where
 wa:Bool
 u:Int
 v:Int
 wt:Int
 af:Int
instance:Inhabited Mw:=⟨⟨false,0,0,0,0⟩⟩
def Mw.cells(x:Mw):List Value:=[.bool x.wa,.int .u8 x.u,.int .u8 x.v,.int .i8 x.wt,.int .u8 x.af]
def Mw.mv(x:Mw):Mv:=⟨x.u,x.v,x.wt,x.af⟩
abbrev cG:WC:=⟨20,40,10,60⟩
theorem qX.tick{c:WC}{s:WW}(h:qX c s k)(g:s2.now=T)(ht:T<=s.now+3)(f:s2.added=s.added)(b:∀ y,s2.u.has y↔s.u.has y/\T<y.exp):qX c s2 (k+1):=by
 have d:=h.now
 have e:=h.added
 exact⟨o_,o_,fun x a=>h.ids x ((b x).1 a).1,fun x a=>h.wt x ((b x).1 a).1⟩
end
structure Ds where
 uv:Value
 lv:Value
 sv:Value
 up:List Nat
 le:List Nat
 sz:List Int
 cnt:Int
 lb:List Nat
structure Ds.xC (d:Nat->Nat) (n:Nat) (s:Ds):Prop where
 ul:s.up.length=n
 ll:s.le.length=n
 sl:s.sz.length=n
 bl:s.lb.length=n
 ub:∀ i,i<n->cE s.up i<n
 xw:∀ i,i<n->cE s.lb (cE s.up i)=cE s.lb i
 dec:∀ i,i<n->cE s.up i≠i->d (cE s.up i)<d i
 xV:∀ i j,i<n->j<n->cE s.up i=i->cE s.up j=j->cE s.lb i=cE s.lb j->i=j
 gJ:∀ i,i<n->cE s.up i=i->cE s.le i=cE s.lb i
 low:∀ i,i<n->cE s.lb i<=i
 oB:∀ i,i<n->cE s.lb (cE s.lb i)=cE s.lb i
 Mx:∀ x∈s.sz,ij .i64 x
def Ds.ok(n:Nat)(s:Ds):Prop:=(∃ d,s.xC d n)/\ij .i64 s.cnt
def jg(lb:List Nat)(x y:Nat):List Nat:=lb.map fun z=>if z=max x y then min x y else z
theorem GM{x:Nat}:(jg lb x y).length=lb.length:=by simp[jg]
theorem Le{x:Nat}:jg lb x x=lb:=by
 unfold jg
 conv=>rhs;rw[<-List.map_id lb]
 exact wB fun z _=>by simp;intro h;exact h.symm
theorem rV{x:Nat}(h:i<lb.length):cE (jg lb x y) i=if cE lb i=max x y then min x y else cE lb i:=by
 obtain⟨z,a⟩:=oT h
 grind [iW,jg]
theorem mY(h:i<n):cE (List.range n) i=i:=iW (pg h)
theorem xz{α:Type}[Inhabited α]{x:α}{n i:Nat}(h:i<n):cE (List.replicate n x) i=x:=iW (by rw[sw,if_pos h])
theorem aaq:ij .i64 1:=by unfold ij;decide
theorem Ds.uX{l s:Value}{c:Int}(hc:ij .i64 c):Ds.ok n ⟨u,l,s,List.range n,List.range n,List.replicate n 1,c,List.range n⟩ :=
 ⟨⟨fun _=>0,s_,s_,s_,s_,fun i h=>by show cE (List.range n) i<n;rw[mY h];exact h,fun i h=>by show cE (List.range n) (cE (List.range n) i)=_;rw[mY h,mY h],fun i h a=>absurd (mY h) a,
  fun i j hi b _ _ h=>by have a:cE (List.range n) i=cE (List.range n) j:=h;rwa [mY hi,mY b]at a,fun i _ _=>rfl,fun i h=>by show cE (List.range n) i<=i;rw[mY h];exact zh _,fun i h=>by show cE (List.range n) (cE (List.range n) i)=_;rw[mY h,mY h],fun x d=>by rw[(CI.1 d).2];exact aaq⟩,hc⟩
structure tI (n k:Nat) (up le:List Nat) (sz:List Int):Prop where
 u:up=(List.range k)++List.replicate (n-k) 0
 l:le=(List.range k)++List.replicate (n-k) 0
 s:sz=List.replicate k 1++List.replicate (n-k) 0
theorem Az{α:Type}[Inhabited α]{a b:List α}{x y:α}{f:α->α}(c:f x=y):cO (a++x :: b) a.length f=a++y :: b:=by
 unfold cO
 rw[iW (x:=x) s_,c,List.set_append_right _ _ (zh _)]
 simp
theorem tI.start:tI n 0 (List.replicate n 0) (List.replicate n 0) (List.replicate n 0):=⟨s_,s_,s_⟩
theorem Cc{α:Type}{x:α}(h:k<n):List.replicate (n-k) x=x :: List.replicate (n-(k+1)) x:=by
 rw[show n-k=(n-(k+1))+1 by omega];rfl
theorem tI.next{sz:List Int}(h:tI n k lb ds sz)(hk:k<n):tI n (k+1) (cO lb k fun _=>k) (cO ds k fun _=>k) (cO sz k fun _=>1):=by
 obtain⟨rfl,rfl,rfl⟩:=h
 have c:cO (List.range k++List.replicate (n-k) 0) k (fun _=>k)=List.range (k+1)++List.replicate (n-(k+1)) 0:=by
  have:=Az (a:=List.range k) (b:=List.replicate (n-(k+1)) 0) (x:=0) (y:=k) (f:=fun _=>k) rfl
  rw[mD]at this
  rw[Cc hk,this,rA]
  simp
 refine⟨c,c,?_⟩
 have:=Az (a:=List.replicate k (1:Int)) (b:=List.replicate (n-(k+1)) 0) (x:=0) (y:=1) (f:=fun _=>1) rfl
 rw[oK]at this
 rw[Cc hk,this,List.replicate_succ']
 simp
theorem tI.fin{sz:List Int}(h:tI n n lb ds sz):lb=List.range n/\ds=List.range n/\sz=List.replicate n 1:=by
 obtain⟨rfl,rfl,rfl⟩:=h
 simp
theorem tI.len{sz:List Int}(h:tI n k lb ds sz)(hk:k<=n):lb.length=n/\ds.length=n/\sz.length=n:=by
 obtain⟨rfl,rfl,rfl⟩:=h
 simp
 omega
def fQ(x:Int):List Value:=[.int .i64 x]
def Ds.wu(s:Ds)(up:List Nat):Ds:={ s with up:=up }
structure qW (d:Nat->Nat) (n:Nat) (s:Ds) (a0:Nat) (up:List Nat) (a:Nat):Prop where
 ok:(s.wu up).xC d n
 an:a<n
 la:cE s.lb a=cE s.lb a0
 ro:∀ i,i<n->cE s.up i=i->cE up i=i
theorem qW.start{d:Nat->Nat}{a:Nat}{s:Ds}(h:s.xC d n)(b:a<n):qW d n s a s.up a:=⟨h,b,rfl,fun _ _ h=>h⟩
theorem qW.half{d:Nat->Nat}{a0 a:Nat}{s:Ds}{up:List Nat}(h:qW d n s a0 up a)(w:cE up a≠a) :
 qW d n s a0 (cO up a fun _=>cE up (cE up a)) (cE up (cE up a))/\cE (cO up a fun _=>cE up (cE up a)) a=cE up (cE up a)/\d (cE up (cE up a))<d a:=by
 obtain⟨b,f,v,A⟩:=h
 have x:up.length=n:=b.ul
 have m:∀ i,i<n->cE up i<n:=b.ub
 have g:∀ i,i<n->cE s.lb (cE up i)=cE s.lb i:=b.xw
 have t:∀ i,i<n->cE up i≠i->d (cE up i)<d i:=b.dec
 have hp:=m a f
 have o:=m _ hp
 have k:∀ i,cE (cO up a fun _=>cE up (cE up a)) i=if a=i then cE up (cE up a)else cE up i:=fun i=>jH o_
 have y:=t a f w
 have r:d (cE up (cE up a))<=d (cE up a):=by
  grind
 have z:cE up (cE up a)≠a:=fun e=>by rw[e]at r;omega
 have l:∀ i,cE (cO up a fun _=>cE up (cE up a)) i=i->cE up i=i:=by
  grind
 refine⟨⟨⟨by show (cO up a fun _=>cE up (cE up a)).length=n;rw[gd];exact x,b.ll,b.sl,b.bl,?_,?_,?_,?_,?_,b.low,b.oB,b.Mx⟩,o,by rw[g _ hp,g _ f];exact v,?_⟩,by rw[k,if_pos rfl],o_⟩
 . intro i hi
   show cE (cO up a fun _=>cE up (cE up a)) i<n
   rw[k]
   split
   . exact o
   . exact m i hi
 . intro i hi
   show cE s.lb (cE (cO up a fun _=>cE up (cE up a)) i)=cE s.lb i
   rw[k]
   split
   . grind
   . exact g i hi
 . intro i hi
   show cE (cO up a fun _=>cE up (cE up a)) i≠i->d (cE (cO up a fun _=>cE up (cE up a)) i)<d i
   grind
 . intro i j hi u c p q
   exact b.xV i j hi u (l i c) (l j p) q
 . intro i hi c
   exact b.gJ i hi (l i c)
 . grind
theorem qW.QM{d:Nat->Nat}{a:Nat}{s:Ds}(h:qW d n s k lb a)(b:cE lb a≠a) :
 qW d n s k (cO lb a fun _=>cE lb (cE lb a)) (cE (cO lb a fun _=>cE lb (cE lb a)) a)/\d (cE (cO lb a fun _=>cE lb (cE lb a)) a)<d a:=by
 rw[h.half b |>.2.1]
 exact⟨(h.half b).1,(h.half b).2.2⟩
theorem Ds.join{d:Nat->Nat}{x:Nat}{s:Ds}{sz:List Int}{m:Nat}{c:Int}(h:s.xC d n)(f:x<n)(b:y<n)(r:cE s.up x=x)(o:cE s.up y=y)(B:x≠y)(hs:sz.length=n)(hk:∀ z∈sz,ij .i64 z)(hm:m=min (cE s.le x) (cE s.le y))(hc:ij .i64 c):Ds.ok n ⟨s.uv,s.lv,s.sv,cO s.up y fun _=>x,cO s.le x fun _=>m,sz,c,jg s.lb (cE s.lb x) (cE s.lb y)⟩:=by
 have F:cE s.lb x≠cE s.lb y:=fun e=>B (h.xV x y f b r o e)
 have l:∀ i,cE (cO s.up y fun _=>x) i=if y=i then x else cE s.up i:=fun i=>jH (by rw[h.ul];exact b)
 have A:∀ i,cE (cO s.le x fun _=>m) i=if x=i then m else cE s.le i:=fun i=>jH (by rw[h.ll];exact f)
 have hb:∀ i,i<n->cE (jg s.lb (cE s.lb x) (cE s.lb y)) i=if cE s.lb i=max (cE s.lb x) (cE s.lb y)then min (cE s.lb x) (cE s.lb y)else cE s.lb i:=fun i hi=>rV (by rw[h.bl];exact hi)
 refine⟨⟨fun i=>d i+if cE s.lb i=cE s.lb y then d x+1 else 0,by show (cO s.up y fun _=>x).length=n;rw[gd];exact h.ul,by show (cO s.le x fun _=>m).length=n;rw[gd];exact h.ll,hs,by show (jg s.lb (cE s.lb x) (cE s.lb y)).length=n;rw[GM];exact h.bl,?_,?_,?_,?_,?_,?_,?_,hk⟩,hc⟩
 . intro i hi
   show cE (cO s.up y fun _=>x) i<n
   rw[l]
   split
   . exact f
   . exact h.ub i hi
 . intro i hi
   show cE (jg s.lb (cE s.lb x) (cE s.lb y)) (cE (cO s.up y fun _=>x) i)=cE (jg s.lb (cE s.lb x) (cE s.lb y)) i
   rw[l,hb i hi]
   by_cases e:y=i
   . grind
   . rw[if_neg e,hb _ (h.ub i hi),h.xw i hi]
 . intro i hi
   show cE (cO s.up y fun _=>x) i≠i->d (cE (cO s.up y fun _=>x) i)+_<d i+_
   rw[l]
   by_cases e:y=i
   . grind
   . rw[if_neg e,h.xw i hi]
     intro g
     have:=h.dec i hi g
     omega
 . intro i j hi q g u v
   have a : cE (cO s.up y fun _=>x) i=i:=g
   have k : cE (cO s.up y fun _=>x) j=j:=u
   have w : cE (jg s.lb (cE s.lb x) (cE s.lb y)) i=cE (jg s.lb (cE s.lb x) (cE s.lb y)) j:=v
   rw[l]at a k
   rw[hb i hi,hb j q]at w
   have p:y≠i:=fun e=>by rw[if_pos e]at a; omega
   have t:y≠j:=fun e=>by rw[if_pos e]at k; omega
   rw[if_neg p]at a
   rw[if_neg t]at k
   have I:=h.xV i y hi b a o
   have K:=h.xV j y q b k o
   have J:=h.xV i j hi q a k
   grind
 . intro i hi g
   show cE (cO s.le x fun _=>m) i=cE (jg s.lb (cE s.lb x) (cE s.lb y)) i
   have a : cE (cO s.up y fun _=>x) i=i:=g
   rw[l]at a
   rw[A,hb i hi,hm,h.gJ x f r,h.gJ y b o]
   have p:y≠i:=fun e=>by rw[if_pos e]at a; omega
   rw[if_neg p]at a
   by_cases e:x=i
   . subst e
     rw[if_pos rfl]
     split<;>omega
   . rw[if_neg e,h.gJ i hi a, if_neg]
     intro E
     have a1:=h.xV i x hi f a r
     have a2:=h.xV i y hi b a o
     grind [cE]
 . intro i hi
   show cE (jg s.lb (cE s.lb x) (cE s.lb y)) i<=i
   rw[hb i hi]
   have:=h.low i hi
   split<;>omega
 . intro i hi
   show cE (jg s.lb (cE s.lb x) (cE s.lb y)) (cE (jg s.lb (cE s.lb x) (cE s.lb y)) i)=cE (jg s.lb (cE s.lb x) (cE s.lb y)) i
   have bi:=h.low i hi
   have bx:=h.low x f
   have D:=h.low y b
   have ix:=h.oB x f
   have H:=h.oB y b
   have C:=h.oB i hi
   rw[hb i hi]
   split
   . have G:min (cE s.lb x) (cE s.lb y)<n:=by omega
     grind
   . rename_i e
     rw[hb _ o_,C,if_neg e]
theorem qW.two{d:Nat->Nat}{a b x:Nat}{s:Ds}{h f:List Nat}(h1:qW d n s a h x)(k:cE h x=x)(c:qW d n (s.wu h) b f y)(j:cE f y=y) :
 (s.wu f).xC d n/\cE f x=x/\cE f y=y/\x<n/\y<n/\cE s.lb x=cE s.lb a/\cE s.lb y=cE s.lb b/\(x=y↔cE s.lb a=cE s.lb b):=by
 have i:=c.ro x h1.an k
 refine⟨c.ok,i,j,h1.an,c.an,h1.la,c.la,fun e=>?_,fun e=>?_⟩
 . have e1:=h1.la
   have g:cE s.lb y=cE s.lb b:=c.la
   rw[<-e1,<-g,e]
 . have e1:=h1.la
   have g:cE s.lb y=cE s.lb b:=c.la
   exact c.ok.xV x y h1.an c.an i j (e1.trans (e.trans g.symm))
theorem Ld{x:Nat}:jg lb x y=jg lb y x:=by unfold jg;rw[Nat.max_comm,Nat.min_comm]
theorem Sd{x a b:Nat}(h1:x=a)(c:y=b):jg lb x y=jg lb a b:=by rw[h1,c]
theorem UQ{k:IntKind}{zs:List Int}{f:Int->Int}(h:∀ z∈zs,ij k z)(b:ij k (f (cE zs i))):∀ z∈cO zs i f,ij k z:=fun z c=>by
 rcases Nn c with a|a
 . exact h z a
 . exact a▸b
theorem GL{a b:Nat}:(if (b:Int)<(a:Int)then(b:Int)else(a:Int))=((min a b:Nat):Int):=by split<;>omega
theorem RZ{a b:Nat}:(if (a:Int)<(b:Int)then(b:Int)else(a:Int))=((max a b:Nat):Int):=by split<;>omega
theorem HO(x:Int):ij .i64 (IntKind.i64.wrap x):=by
 rw[IntKind.wrap_i64]
 show (-9223372036854775808:Int)<=_/\_<=(9223372036854775807:Int)
 omega
theorem aeI(v:Value){e:TypeId}:cL fL v e 1 (List.replicate n 0)=cL fQ v e 1 (List.replicate n 0):=by
 unfold cL
 have h:(List.replicate n (0:Nat)).flatMap fL=(List.replicate n (0:Int)).flatMap fQ:=by
  induction n with
  | zero=>rfl
  | succ n a=>rw[List.replicate_succ,List.replicate_succ,zz,zz,a];rfl
 grind
def ji(es:List Ge):List Nat:=es.flatMap fun e=>[e.u,e.v]
theorem uQ(es:List Ge):(ji es).length=2*es.length:=by
 induction es with
 | nil=>rfl
 | cons e es a=>simp only[ji,zz,zk,zb,zd]at *;omega
variable{es:List Ge}
theorem BI(h:i<es.length):(ji es)[2*i]? = some (cE es i).u/\(ji es)[2*i+1]? = some (cE es i).v:=by
 induction es generalizing i with
 | nil=>simp at h
 | cons e es a =>
  grind [cE,ji]
theorem Ys(h:i<es.length):ji (es.take (i+1))=ji (es.take i)++[(cE es i).u,(cE es i).v]:=by
 have a:es.take (i+1)=es.take i++[cE es i]:=by rw[nY,fW h];rfl
 rw[a]
 simp[ji]
def pM(E:List Nat)(v:Nat):Nat:=E.count v
def uh(E:List Nat)(v:Nat):Nat:=E.countP fun x=>decide (x<v)
theorem KT(v:Nat):uh E (v+1)=uh E v+pM E v:=by
 unfold uh pM
 induction E with
 | nil=>rfl
 | cons x E a =>
  grind
theorem abF:uh E 0=0:=by unfold uh;rw[List.countP_eq_zero];simp
theorem KS(v:Nat):uh E v<=E.length:=List.countP_le_length
theorem PX(v:Nat):pM E v<=E.length:=AR
theorem XJ{E:List Nat}{v:Nat}(h:E[k]? = some v):pM (E.take k) v<pM E v:=by
 have a:k<E.length:=(zp.1 h).1
 have b:E=E.take k++v :: E.drop (k+1):=by
  conv=>lhs;rw[<-wA k E]
  rw[Eu a,(zp.1 h).2]
 grind [pM]
theorem XI{E:List Nat}{v:Nat}(h:E[k]? = some v)(x:Nat):pM (E.take (k+1)) x=pM (E.take k) x+if v=x then 1 else 0:=by
 unfold pM
 rw[nY,h,List.count_append]
 simp[List.count_cons]
def o6(n:Nat)(E:List Nat):List Nat:=0 :: (List.range n).map (pM E)
theorem xN{E:List Nat}:(o6 n E).length=n+1:=by simp[o6]
theorem Hi{v:Nat}{E:List Nat}(h:v<n):cE (o6 n E) (v+1)=pM E v:=iW (by simp[o6,pg h])
theorem B0{α:Type}[Inhabited α]{xs ys:List α}(h:xs.length=ys.length)(a:∀ i,i<xs.length->cE xs i=cE ys i):xs=ys:=by
 apply mS
 grind [fW]
theorem afd:List.replicate (n+1) 0=o6 n []:=by
 refine B0 (by simp[o6]) fun i hi=>?_
 rw[oK]at hi
 rw[xz hi]
 cases i with
 | zero=>rfl
 | succ i=>rw[Hi o_];rfl
theorem TL{v:Nat}{E:List Nat}(h:v<n):cO (o6 n E) (v+1) (fun _=>cE (o6 n E) (v+1)+1)=o6 n (E++[v]):=by
 refine B0 (by rw[gd,xN,xN]) fun i hi=>?_
 rw[gd,xN]at hi
 rw[jH (by rw[xN];omega)]
 cases i with
 | zero=>rw[if_neg o_];rfl
 | succ i =>
  grind [Hi,pM]
def oJ(n:Nat)(E:List Nat)(k:Nat):List Nat:=(List.range (n+1)).map fun j=>if j<=k then uh E j else pM E (j-1)
theorem Hj{E:List Nat}:(oJ n E k).length=n+1:=by simp[oJ]
theorem Hl{E:List Nat}(h:j<=n):cE (oJ n E k) j=if j<=k then uh E j else pM E (j-1):=iW (by rw[oJ,lU,pg o_];rfl)
theorem aff{E:List Nat}:o6 n E=oJ n E 0:=by
 refine B0 (by rw[xN,Hj]) fun i hi=>?_
 rw[xN]at hi
 rw[Hl o_]
 cases i with
 | zero=>rw[if_pos o_,abF];rfl
 | succ i=>rw[if_neg o_,Hi o_];rfl
theorem afe{E:List Nat}(h:k<n):cO (oJ n E k) (k+1) (fun _=>cE (oJ n E k) (k+1)+cE (oJ n E k) k)=oJ n E (k+1):=by
 grind [B0,gd,Hj,jH,Hl,KT]
def nD(n:Nat)(es:List Ge):List Nat:=oJ n (ji es) n
theorem Mr(h:j<=n):cE (nD n es) j=uh (ji es) j:=by rw[nD,Hl h,if_pos h]
theorem xO:(nD n es).length=n+1:=Hj
def pS(n:Nat)(E:List Nat)(k:Nat):List Nat:=(List.range (n+1)).map fun v=>uh E v+pM (E.take k) v
theorem GX{E:List Nat}:(pS n E k).length=n+1:=by simp[pS]
theorem Lr{v:Nat}{E:List Nat}(h:v<=n):cE (pS n E k) v=uh E v+pM (E.take k) v:=iW (by rw[pS,lU,pg o_];rfl)
theorem acQ:nD n es=pS n (ji es) 0:=by
 grind [B0,xO,GX,Mr,Lr,pM]
theorem Sq{v:Nat}{E:List Nat}(hv:v<n)(h:E[k]? = some v):cO (pS n E k) v (fun _=>cE (pS n E k) v+1)=pS n E (k+1):=by
 grind [B0,gd,GX,jH,Lr,XI]
theorem Sp{v:Nat}{E:List Nat}(hv:v<n)(h:E[k]? = some v):cE (pS n E k) v<E.length:=by
 rw[Lr o_]
 have a:=XJ h
 have b:=KT E v
 have c:=KS E (v+1)
 omega
def ri(n:Nat)(E:List Nat):Nat->List Nat
 | 0=>List.replicate E.length 0
 | k+1=>cO (ri n E k) (cE (pS n E k) (cE E k)) fun _=>k / 2
theorem GC{n:Nat}{E:List Nat}:∀ k,(ri n E k).length=E.length
 | 0=>by simp[ri]
 | k+1=>by rw[ri,gd];exact GC k
theorem RH{n m:Nat}{E:List Nat}(c:E.length=2*m):∀ k,k<=2*m->∀ x∈ri n E k,x<m
 | 0,_,x,hx=>by
  have a:=CI.1 (show x∈List.replicate E.length 0 from hx)
  have b:=a.1
  have d:=a.2
  omega
 | k+1,hk,x,hx=>by
  rcases Nn hx with a|a
  . exact RH c k o_ x a
  . have b:x=k / 2:=a
    omega
def zR(n:Nat)(es:List Ge):List Nat:=ri n (ji es) (2*es.length)
theorem KU:(zR n es).length=2*es.length:=by rw[zR,GC,uQ]
theorem abH:∀ x∈zR n es,x<es.length:=RH (uQ es) _ (zh _)
def lP(n:Nat)(es:List Ge):Prop:=∀ e∈es,e.u<n/\e.v<n/\e.u≠e.v
theorem lP.at(h:lP n es){i:Nat}(hi:i<es.length):(cE es i).u<n/\(cE es i).v<n/\(cE es i).u≠(cE es i).v:=h _ (zg (fW hi))
theorem abI(h:i<es.length):ri n (ji es) (2*i+1)=cO (ri n (ji es) (2*i)) (cE (pS n (ji es) (2*i)) (cE es i).u) fun _=>i:=by
 rw[ri,iW (BI h).1,show 2*i / 2=i by omega]
theorem abJ(h:i<es.length):ri n (ji es) (2*(i+1))=cO (ri n (ji es) (2*i+1)) (cE (pS n (ji es) (2*i+1)) (cE es i).v) fun _=>i:=by
 rw[show 2*(i+1)=2*i+1+1 by omega,ri,iW (BI h).2,show (2*i+1) / 2=i by omega]
structure Gr where
 ev:Value
 sv:Value
 lv:Value
theorem TM{E:List Nat}(h:j<=n):cE (o6 n E) j<=E.length:=by
 cases j with
 | zero=>exact ko _
 | succ j=>rw[Hi o_];exact PX _ _
theorem TN{E:List Nat}(h:j<=n):cE (oJ n E k) j<=E.length:=by
 grind [Hl,KS,PX]
theorem St.u6{L:List fJ}{R R':fJ}(j:Nat)(h:St bs L w)(hi:L[j]? = some R)(e:R=R'):St bs (L.set j R') w:=by
 subst e
 rwa [show L.set j R=L from by
  apply mS
  intro i
  rw[wD]
  split
  . rename_i e
    subst e
    split
    . exact hi.symm
    . rename_i a
      rw[nW o_]at hi
      cases hi
  . rfl]
section
variable{L LL:List fJ}
theorem St.bR{α:Type}[Inhabited α]{cf:α->List Value}{e:TypeId}{sz b c:Nat}{z0:α}(i:Nat)(h:St bs L w)(hi:L[i]? = some (blk b e ((List.replicate c z0).flatMap cf)):=by exact rfl)(d:∀ x:α,(cf x).length=sz:=by exact fun _=>rfl)(hc:c<=maxLen:=by simp only[maxLen];omega)(a:L.set i (cL cf (.slice (some ⟨b,0,none⟩) c c) e sz (List.replicate c z0))=LL:=by first|(dsimp only[List.set];exact rfl)|(dsimp only[List.set];done)|exact rfl):St bs LL w:=a▸St.Jr h hi d (zh _) hc
theorem St.bZ{α:Type}[Inhabited α]{cf:α->List Value}{e:TypeId}{sz b c:Nat}{z0:α}(i:Nat)(h:St bs L w)(hi:L[i]? = some (blk b e ((List.replicate c z0).flatMap cf)):=by exact rfl)(d:∀ x:α,(cf x).length=sz:=by exact fun _=>rfl)(hc:c<=maxLen:=by simp only[maxLen];omega)(a:L.set i (cL cf (.slice (some ⟨b,0,none⟩) (0:Nat) c) e sz [])=LL:=by first|(dsimp only[List.set];exact rfl)|(dsimp only[List.set];done)|exact rfl):St bs LL w:=a▸St.Jr h hi d (ko _) hc
theorem St.xR{α:Type}{cf:α->List Value}{v:Value}{e:TypeId}{sz:Nat}{xs ys:List α}(j:Nat)(h:St bs L w)(hi:L[j]? = some (cL cf v e sz xs))(q:xs=ys):St bs (L.set j (cL cf v e sz ys)) w:=St.u6 j h hi (congrArg _ q)
end
section
variable{α:Type}[Inhabited α]{cf:α->List Value}{sz:Nat}{L LL:List fJ}{ys:List α}{m:Nat}{v:Value}{t e:TypeId}{c:α}
variable{r:Option Nat}{P:Program}{ops:Array Oper}{rest:List Oper}{s:List (Nat×Value)}{ds:List Deferred}
variable{d:Nat}{ty:TypeId}{pos:String}{af:Array Edge}{g:Option (Nat×Bool)}{x y:Operand}{by_:Nat}
theorem P5{b cap:Nat}:jL sz (.slice (some ⟨b,0,none⟩) m cap) 0 k = .slice (some ⟨b,0,none⟩) k cap:=by
 simp only[jL,EM,Nat.zero_mul,CO,Addr.add_lit,sD]
 split<;>rfl
theorem Wa(i:Nat)(U:gA ops n s g=true)(H:ev n s x=jL sz v 0 k)(hy:ev n s y=u)(ht:P.underlying t=some (.slice e))(hi:TI P e sz by_ z)(G:St bs L w)(C:L[i]? = some (cL cf v e sz ys))(hs:Src w u sz 1 (cf c))(ae:0<sz)(h1:∀ x∈cf c,x.oneCell' = true)(l:∀ x:α,(cf x).length=sz)(hk:k<ys.length)(J:L.set i (cL cf v e sz (cO ys k fun _=>c))=LL)(K:∀ w', St bs LL w' -> WL r P ops Q rest (Fr n ((d,jL sz v 0 (k+1)) :: s) ds) w') :
 WL r P ops Q (⟨some d,.call ⟨.builtin .append,#[x,y],#[t,t]⟩,ty,pos,af,g⟩ :: rest) (Fr n s ds) w:=by
 have Z:w.ownsRow 0 e sz v ys.length (ys.flatMap cf):=G.own _ (zg C)
 obtain⟨f,V,rfl,rfl,hz⟩:=hi.get
 obtain⟨a,I,rfl,ac,E⟩:=hs
 rcases Z.2 with ⟨rfl,h0⟩|⟨b,m,cur,rfl,ab,q,N,O,D,R⟩
 . omega
 . rw[P5]at H
   obtain⟨A,rfl,_⟩:=E 0 (cf c)[0] (by rw[zy])
   have X : ∀ j x,(cf c)[j]? = some x->w.cell? (A.add j)=some x:=fun j x W=>by
    obtain⟨aa, e1,h⟩:=E j x W
    cases e1;exact h
   have S:k*f.size+(cf c).length<=cur.size:=by
    rw[D,l]
    have:(k+1)*f.size<=m*f.size:=AS _ o_
    rw[tE]at this;omega
   have F:=run_append_room (P:=P) w t ty e f ht V b k m cur q A 1 I (cf c) o_ X h1 o_ S
   have B:cur.toList=ys.flatMap cf++cur.toList.drop (ys.length*f.size):=by
    rw[<-R,wA]
   have T:k*f.size+(cf c).length<=(ys.flatMap cf).length:=by
    rw[pP l,l]
    have:(k+1)*f.size<=ys.length*f.size:=AS _ o_
    rw[tE]at this;omega
   have Y:cur.toList.take (k*f.size)++cf c++cur.toList.drop (k*f.size+(cf c).length)=(cO ys k fun _=>c).flatMap cf++cur.toList.drop (ys.length*f.size):=by
    have e1:cur.toList.take (k*f.size)++cf c++cur.toList.drop (k*f.size+(cf c).length)=setAt cur.toList (k*f.size) (cf c):=by unfold setAt;simp
    rw[e1]
    conv=>lhs;rw[B]
    rw[Me T]
    have:=QD (cf:=cf) (sz:=f.size) l ys k 0 (cE ys k) c (cf c) (fW hk) (by unfold setAt;rw[List.take_zero,pX,Ib (by rw[l,l];omega),sC]) (by rw[l];omega)
    rw[sD]at this
    rw[this]
    rfl
   rw[Y]at F
   refine pv U rfl (v:=jL f.size (.slice (some ⟨b,0,none⟩) ys.length m) 0 (k+1)) (w' := _) (by rw[P5];simp only[execOp,resolve,invoke,builtin,zt,kn,zn,Im,mh,CS,H,hy,F];rfl) (K _ ?_)
   subst J
   have M:=(su.1 q).1
   refine G.iV C (gE.setRow w b _) (fun c o=>.inl o) (by simp[row,Value.ownBlock]) (fun c o=>?_) ?_
   . simp[row,Value.ownBlock]at o
     subst o
     simpa using M
   . refine⟨by rw[gd,pP l,gd],.inr ⟨b,m,_,by rw[gd],ko _,setRow_heap w b cur _ e (0,0) q,by rw[gd];exact N,O,?_,?_⟩⟩
     . rw[<-D]
       have p:=congrArg List.length B
       simp only[List.size_toArray,zk]at p ⊢
       rw[pP l]at p
       rw[pP l,gd,<-p,ux]
     . rw[gd]
       have:((cO ys k fun _=>c).flatMap cf).length=ys.length*f.size:=by rw[pP l,gd]
       simp[List.take_append,this]
end
theorem Qv(a k:Nat)(m:Nat)(h:k<=m):(a:Int).fdiv (2 ^ (min ((k:Nat):Int).toNat m))=((a / 2 ^ k:Nat):Int):=by
 rw[nX,uz h]
 rw[Int.fdiv_eq_ediv_of_nonneg _ (Int.pow_nonneg d_)]
 simp
section
variable{r:Option Nat}{P:Program}{ops:Array Oper}{rest:List Oper}{d:Nat}{s:List (Nat×Value)}{ds:List Deferred}{ty:TypeId}{pos:String}{af:Array Edge}{g:Option (Nat×Bool)}
theorem aal{x y:Operand}{t:TypeId}{k:IntKind}{b:ByteArray}{i:Int}(e:gA ops n s g=true)(f:ev n s x = .string b)(h:ev n s y = .int k i)(ht:P.underlying t=some .string)(hm:b.size=m)(a:0<=i)(hi:i<m)(K:∀ c:UInt8,c.toNat<256->WL r P ops Q rest (Fr n ((d,.int .u8 c.toNat) :: s) ds) w):WL r P ops Q (⟨some d,.index t x y,ty,pos,af,g⟩ :: rest) (Fr n s ds) w :=
 aak e f h ht a (getElem?_pos b i.toNat (by show i.toNat<b.size;omega)) (K _ (UInt8.toNat_lt _))
end
inductive BT where
 | nil
 | nd (b:Nat) (l:BT) (x:Int) (t:Nat) (r:BT)
instance:Inhabited BT:=⟨.nil⟩
namespace BT
def kv:BT->List (Int×Nat)
 | nil=>[]
 | nd _ l x t r=>l.kv++(x,t) :: r.kv
def sz:BT->Nat
 | nil=>0
 | nd _ l _ t r=>t+l.sz+r.sz
def dc:BT->Nat
 | nil=>0
 | nd _ l _ _ r=>1+l.dc+r.dc
def ht:BT->Nat
 | nil=>0
 | nd _ l _ _ r=>max l.ht r.ht+1
def ptr:BT->Value
 | nil=>.pointer none
 | nd b _ _ _ _=>.pointer (some ⟨b,0,none⟩)
theorem BR:∀ t:BT,t.ht<=t.dc
 | nil=>zh _
 | nd _ l _ _ r=>by
  have a:=BR l
  have b:=BR r
  show max l.ht r.ht+1<=1+l.dc+r.dc
  omega
end BT
def mW(L:List (Int×Nat)):Nat:=(L.map (·.2)).sum
theorem abO{A:List (Int×Nat)}:mW (A++B)=mW A+mW B:=by simp[mW]
theorem rU:mW (p :: B)=p.2+mW B:=rfl
theorem BT.lG:∀ t:BT,t.sz=mW t.kv
 | nil=>rfl
 | nd _ l x t r=>by
  show t+l.sz+r.sz=mW (l.kv++(x,t) :: r.kv)
  rw[abO,rU,lG l,lG r]
  show t+mW l.kv+mW r.kv=mW l.kv+(t+mW r.kv)
  omega
theorem BT.zB:∀ t:BT,t.dc=t.kv.length
 | nil=>rfl
 | nd _ l x t r=>by
  show 1+l.dc+r.dc=(l.kv++(x,t) :: r.kv).length
  rw[zk,zb,zB l,zB r]
  omega
def jq(L:List (Int×Nat)):Prop:=(L.Pairwise fun a b=>a.1<b.1)/\∀ p∈L,0<p.2
theorem jq.len(h:jq L):L.length<=mW L:=by
 have a:=h.2
 clear h
 induction L with
 | nil=>exact zh _
 | cons p L b =>
  grind [rU]
theorem jq.left{A:List (Int×Nat)}(h:jq (A++p :: B)):jq A:=⟨(EE.1 h.1).1,fun q a=>h.2 q (sj _ a)⟩
theorem jq.right{A:List (Int×Nat)}(h:jq (A++p :: B)):jq B:=⟨(qz.1 (EE.1 h.1).2.1).2,fun q a=>h.2 q (yC _ (zx _ a))⟩
theorem jq.lo{A:List (Int×Nat)}(h:jq (A++p :: B)):∀ q∈A,q.1<p.1:=fun q a=>(EE.1 h.1).2.2 q a p za
theorem jq.hi{A:List (Int×Nat)}(h:jq (A++p :: B)):∀ q∈B,p.1<q.1:=fun q a=>(qz.1 (EE.1 h.1).2.1).1 q a
def j5(f:Nat->Nat)(x:Int):List (Int×Nat)->List (Int×Nat)
 | []=>if f 0=0 then[]else[(x,f 0)]
 | p :: L=>if x<p.1 then(if f 0=0 then p :: L else(x,f 0) :: p :: L)else if p.1<x then p :: j5 f x L else if f p.2=0 then L else(x,f p.2) :: L
variable{f:Nat->Nat}{A:List (Int×Nat)}
theorem RM(b:∀ q∈A,q.1<p.1)(h:x<p.1):j5 f x (A++p :: B)=j5 f x A++p :: B:=by
 induction A with
 | nil =>
  grind [j5]
 | cons a A c =>
  grind [j5]
theorem RQ(b:∀ q∈A,q.1<x)(h:p.1<x):j5 f x (A++p :: B)=A++p :: j5 f x B:=by
 induction A with
 | nil =>
  grind [j5]
 | cons a A c =>
  grind [j5]
theorem RO(b:∀ q∈A,q.1<p.1):j5 f p.1 (A++p :: B)=A++(if f p.2=0 then B else(p.1,f p.2) :: B):=by
 induction A with
 | nil =>
  grind [j5]
 | cons a A c =>
  grind [j5]
theorem RP(a:∀ q∈A,q.1<p.1)(h:f p.2≠0):j5 f p.1 (A++p :: B)=A++(p.1,f p.2) :: B:=by rw[RO a,if_neg h]
theorem abP(a:∀ q∈A,q.1<p.1)(h:f p.2=0):j5 f p.1 (A++p :: B)=A++B:=by rw[RO a,if_pos h]
theorem RN:∀ {L:List (Int×Nat)} {q:Int×Nat},q∈j5 f x L->q∈L\/(q=(x,f 0)/\f 0≠0)\/(q.1=x/\q.2≠0/\∃ y,(x,y)∈L/\q.2=f y)
 | [],q,h=>by
  unfold j5 at h
  split at h
  . cases h
  . next hn=>exact .inr (.inl ⟨z8.1 h,hn⟩)
 | p :: L,q,h=>by
  unfold j5 at h
  split at h
  . split at h
    . exact .inl h
    . next hn =>
      rcases ze.1 h with h|h
      . exact .inr (.inl ⟨h,hn⟩)
      . exact .inl h
  . next h1 =>
    split at h
    . rcases ze.1 h with h|h
      . exact .inl (h▸za)
      . rcases RN h with h|h|⟨h,a,y,b,c⟩
        . exact .inl (zx _ h)
        . exact .inr (.inl h)
        . exact .inr (.inr ⟨h,a,y,zx _ b,c⟩)
    . next a =>
      split at h
      . exact .inl (zx _ h)
      . next hn =>
        have d:p.1=x:=by omega
        rcases ze.1 h with h|h
        . subst h
          exact .inr (.inr ⟨rfl,hn,p.2,d▸za,rfl⟩)
        . exact .inl (zx _ h)
theorem rj:∀ {L:List (Int×Nat)},jq L->jq (j5 f x L)
 | [],h=>by
  unfold j5
  split
  . exact h
  . next hn=>exact⟨List.pairwise_singleton _ _,fun q a=>by rw[z8.1 a];exact Nat.pos_of_ne_zero hn⟩
 | p :: L,h=>by
  have b:=qz.1 h.1
  have c:jq L:=⟨b.2,fun q a=>h.2 q (zx _ a)⟩
  have hp:=h.2 p za
  unfold j5
  split
  . next hx =>
    split
    . exact h
    . next hn =>
      refine⟨qz.2 ⟨fun q a=>?_,h.1⟩,fun q a=>?_⟩
      . rcases ze.1 a with rfl|a
        . exact hx
        . have:=b.1 q a
          show x<q.1
          omega
      . rcases ze.1 a with rfl|a
        . exact Nat.pos_of_ne_zero hn
        . exact h.2 q a
  . next hx =>
    split
    . next hx2 =>
      have d:=rj c
      refine⟨qz.2 ⟨fun q a=>?_,d.1⟩,fun q a=>?_⟩
      . rcases RN a with a|a|a
        . exact b.1 q a
        . rw[a.1];exact hx2
        . rw[a.1];exact hx2
      . rcases ze.1 a with rfl|a
        . exact hp
        . exact d.2 q a
    . split
      . exact c
      . next hn =>
        have e:x=p.1:=by omega
        refine⟨qz.2 ⟨fun q a=>by have:=b.1 q a;show x<q.1;omega,b.2⟩,fun q a=>?_⟩
        rcases ze.1 a with rfl|a
        . exact Nat.pos_of_ne_zero hn
        . exact c.2 q a
def lex(L:List (Int×Nat)):List Int:=L.flatMap fun p=>List.replicate p.2 p.1
theorem zN:lex (p :: L)=List.replicate p.2 p.1++lex L:=rfl
theorem KR:∀ {L:List (Int×Nat)},(lex L).length=mW L
 | []=>rfl
 | p :: L=>by rw[zN,zk,oK,KR];rfl
theorem vR(h:jq L):x∈lex L↔∃ p∈L,p.1=x:=by
 unfold lex
 rw[qw]
 constructor
 . grind
 . rintro⟨p,hp,rfl⟩
   exact⟨p,hp,CI.2 ⟨by have:=h.2 p hp;omega,rfl⟩⟩
theorem KQ:∀ {L:List (Int×Nat)} {x:Int},(lex (j5 (· + 1) x L)).Perm (x :: lex L)
 | [],x=>by
  unfold j5
  rw[if_neg o_]
  exact List.Perm.refl _
 | p :: L,x=>by
  unfold j5
  split
  . rw[if_neg o_]
    exact List.Perm.refl _
  . split
    . rw[zN,zN]
      exact((KQ (L:=L) (x:=x)).append_left _).trans sA
    . rw[if_neg o_]
      have a:x=p.1:=by omega
      subst a
      exact List.Perm.refl _
theorem Gz:∀ {L:List (Int×Nat)} {x:Int},jq L->x∈lex L->(lex L).Perm (x :: lex (j5 (· - 1) x L))
 | [],x,_,h=>by cases h
 | p :: L,x,hb,h=>by
  have b:=qz.1 hb.1
  have c:jq L:=⟨b.2,fun q a=>hb.2 q (zx _ a)⟩
  have hp:=hb.2 p za
  obtain⟨q,a,d⟩:=(vR hb).1 h
  unfold j5
  rcases ze.1 a with rfl|a
  . subst d
    rw[if_neg o_,if_neg o_]
    have e:List.replicate q.2 q.1=q.1 :: List.replicate (q.2-1) q.1:=by
     obtain⟨k,g⟩:=Nat.exists_eq_succ_of_ne_zero (Nat.pos_iff_ne_zero.1 hp)
     rw[g]
     rfl
    rw[zN,e]
    split
    . next h0 =>
      have f:q.2-1=0:=h0
      rw[f]
      exact List.Perm.refl _
    . exact List.Perm.refl _
  . have i:=b.1 q a
    rw[if_neg o_,if_pos o_,zN,zN]
    exact((Gz c ((vR c).2 ⟨q,a,d⟩)).append_left _).trans sA
def mV(L:List (Int×Nat)):Nat:=(L.map fun p=>p.1.toNat*p.1.toNat*p.2).sum
def ue(l:List Int):Nat:=(l.map fun x=>x.toNat*x.toNat).sum
theorem aax{b:List Int}:ue (a++b)=ue a+ue b:=by simp[ue]
theorem aay{b:List Int}(h:a.Perm b):ue a=ue b:=(h.map _).sum_nat
theorem Q0{x:Int}:∀ n:Nat,ue (List.replicate n x)=x.toNat*x.toNat*n
 | 0=>rfl
 | n+1=>by
  show x.toNat*x.toNat+ue (List.replicate n x)=_
  rw[Q0 n,Nat.mul_succ,Nat.add_comm]
theorem RK:∀ L:List (Int×Nat),mV L=ue (lex L)
 | []=>rfl
 | p :: L=>by
  rw[zN,aax,Q0,<-RK L]
  rfl
theorem abL{A:List (Int×Nat)}:mV (A++B)=mV A+mV B:=by simp[mV]
theorem RJ:mV (p :: B)=p.1.toNat*p.1.toNat*p.2+mV B:=rfl
def s9(L:List (Int×Nat)):Int:=(L.getLast?.map (·.1)).getD 0
theorem abq(h:jq L)(b:L≠[]):s9 L∈lex L/\∀ y∈lex L,y<=s9 L:=by
 rcases List.eq_nil_or_concat L with rfl|⟨A,p,rfl⟩
 . exact absurd rfl b
 . rw[List.concat_eq_append]at h ⊢
   have e:s9 (A++[p])=p.1:=by simp[s9]
   rw[e]
   refine⟨(vR h).2 ⟨p,s_,rfl⟩,fun y c=>?_⟩
   obtain⟨q,a,rfl⟩:=(vR h).1 c
   rcases zj.1 a with a|a
   . exact Int.le_of_lt ((EE.1 h.1).2.2 q a p s_)
   . grind
theorem abp{A:List (Int×Nat)}(h:B≠[]):s9 (A++p :: B)=s9 B:=by
 grind [s9]
theorem abo{A:List (Int×Nat)}:s9 (A++[p])=p.1:=by simp[s9]
abbrev tV(l r:BT)(x:Int)(t:Nat):List Value:=[l.ptr,r.ptr,.int .i64 x,.int .i64 (t:Int),.int .i64 ((t+l.sz+r.sz:Nat):Int),.int .i64 ((1+l.dc+r.dc:Nat):Int),.int .i64 ((max l.ht r.ht+1:Nat):Int)]
def gw(T:TypeId):BT->fJ
 | .nil=>fN []
 | .nd b l x t r=>fN [blk b T (tV l r x t),gw T l,gw T r]
inductive BF where
 | fl (b:Nat) (x:Int) (t:Nat) (r:BT)
 | fr (b:Nat) (l:BT) (x:Int) (t:Nat)
def BF.put:BF->BT->BT
 | .fl b x t r,h=>.nd b h x t r
 | .fr b l x t,h=>.nd b l x t h
def FM:List BF->BT->BT
 | [],t=>t
 | f :: c,t=>FM c (f.put t)
def WR(T:TypeId):BF->BT->List fJ
 | .fl b x t r,h=>[blk b T (tV h r x t),gw T r]
 | .fr b l x t,h=>[blk b T (tV l h x t),gw T l]
def qJ(T:TypeId):List BF->BT->fJ
 | [],_=>fN []
 | f :: c,t=>fN (WR T f t++[qJ T c (f.put t)])
section
variable{L:List fJ}{T:TypeId}{b t:Nat}{l r:BT}{c:List BF}
theorem St.Jw(h:St bs (gw T (.nd b l x t r) :: L) w):St bs (blk b T (tV l r x t) :: gw T l :: gw T r :: L) w:=St.unpack h
theorem St.Ju(h:St bs (blk b T (tV l r x t) :: gw T l :: gw T r :: L) w):St bs (gw T (.nd b l x t r) :: L) w:=St.pack [_,_,_] L h
theorem St.Jv(h:St bs L w):St bs (gw T .nil :: L) w:=St.pack [] L h
theorem St.WQ(h:St bs (gw T .nil :: L) w):St bs L w:=St.unpack h
theorem St.Vo{s:BT}(h:St bs (gw T s :: L) w):St bs (qJ T [] s :: gw T s :: L) w:=St.pack [] _ h
theorem St.ah6(h:St bs (qJ T c (.nd b l x t r) :: gw T (.nd b l x t r) :: L) w):St bs (qJ T (.fl b x t r :: c) l :: gw T l :: L) w:=by
 have a:=(St.Jw h.swap).perm (L' := blk b T (tV l r x t) :: gw T r :: qJ T c (.nd b l x t r) :: gw T l :: L) ((((List.Perm.swap _ _ _).trans ((List.Perm.swap _ _ _).cons _)).trans (List.Perm.refl _)).cons _)
 exact St.pack [_,_,_] _ a
theorem St.Vp(h:St bs (qJ T c (.nd b l x t r) :: gw T (.nd b l x t r) :: L) w):St bs (qJ T (.fr b l x t :: c) r :: gw T r :: L) w:=by
 have a:=(St.Jw h.swap).perm (L' := blk b T (tV l r x t) :: gw T l :: qJ T c (.nd b l x t r) :: gw T r :: L) (((List.Perm.swap _ _ _).cons _).cons _)
 exact St.pack [_,_,_] _ a
theorem St.EN:∀ {c:List BF} {s:BT},St bs (qJ T c s :: gw T s :: L) w->St bs (gw T (FM c s) :: L) w
 | [],s,h=>St.unpack (A:=[]) h
 | .fl b x t r :: c,s,h=>by
  have a:St bs (blk b T (tV s r x t) :: gw T r :: qJ T c (.nd b s x t r) :: gw T s :: L) w:=St.unpack h
  have d:=a.perm (L' := blk b T (tV s r x t) :: gw T s :: gw T r :: qJ T c (.nd b s x t r) :: L) ((((List.Perm.swap _ _ _).cons _).trans (List.Perm.swap _ _ _)).cons _)
  exact St.EN (c:=c) (St.Ju d).swap
 | .fr b l x t :: c,s,h=>by
  have a:St bs (blk b T (tV l s x t) :: gw T l :: qJ T c (.nd b l x t s) :: gw T s :: L) w:=St.unpack h
  have d:=a.perm (L' := blk b T (tV l s x t) :: gw T l :: gw T s :: qJ T c (.nd b l x t s) :: L) (((List.Perm.swap _ _ _).cons _).cons _)
  exact St.EN (c:=c) (St.Ju d).swap
end
def BT.cnt(x:Int):BT->Nat
 | nil=>0
 | nd _ l y t r=>if y=x then t else if x<y then l.cnt x else r.cnt x
theorem BT.BD{x:Int}:∀ {t:BT},jq t.kv->x∈lex t.kv->0<t.cnt x
 | nil,_,h=>by cases h
 | nd b l y t r,hb,h=>by
  obtain⟨p,hp,rfl⟩:=(vR hb).1 h
  have a : jq (l.kv++(y,t) :: r.kv):=hb
  unfold BT.cnt
  rcases zj.1 (show p∈l.kv++(y,t) :: r.kv from hp)with c|c
  . have e:=a.lo p c
    have d:p.1<y:=e
    rw[if_neg o_,if_pos d]
    exact BD a.left ((vR a.left).2 ⟨p,c,rfl⟩)
  . rcases ze.1 c with rfl|c
    . rw[if_pos rfl]
      exact a.2 (y,t) s_
    . have d:y<p.1:=a.hi p c
      rw[if_neg o_,if_neg o_]
      exact BD a.right ((vR a.right).2 ⟨p,c,rfl⟩)
theorem BT.acR{t:BT}(h:0<t.cnt x):∃ b l y k r,t=BT.nd b l y k r:=by
 rcases t with _|⟨b,l,y,k,r⟩
 . exact absurd h (Nat.lt_irrefl 0)
 . exact⟨b,l,y,k,r,rfl⟩
theorem BT.XK{y:Int}{b t:Nat}{l r:BT}(h:0<(BT.nd b l y t r).cnt x)(a:x<y):0<l.cnt x:=by
 grind [BT.cnt]
theorem BT.XM{y:Int}{b t:Nat}{l r:BT}(h:0<(BT.nd b l y t r).cnt x)(a:y<x):0<r.cnt x:=by
 grind [BT.cnt]
theorem BT.q8{t:BT}(h:jq t.kv):t.dc<=t.sz:=by
 rw[t.zB,t.lG]
 exact h.len
theorem BT.acV{t:BT}(h:0<t.sz):∃ b l y k r,t=BT.nd b l y k r:=by
 rcases t with _|⟨b,l,y,k,r⟩
 . exact absurd h (Nat.lt_irrefl 0)
 . exact⟨b,l,y,k,r,rfl⟩
def BT.mx:BT->Int
 | nil=>0
 | nd _ _ x _ r=>if r.sz=0 then x else r.mx
theorem BT.Sg:∀ {t:BT},jq t.kv->t.mx=s9 t.kv
 | nil,_=>rfl
 | nd b l x t r,h=>by
  have c : jq (l.kv++(x,t) :: r.kv):=h
  unfold BT.mx
  show _=s9 (l.kv++(x,t) :: r.kv)
  split
  . next h0 =>
    have a:r.kv=[]:=Ey.1 (by have:=c.right.len;rw[<-r.lG]at this;omega)
    rw[a,abo]
  . next h0 =>
    rw[abp (fun a=>h0 (by rw[r.lG,a];rfl)),Sg c.right]
section
variable{P:Program}{v:Value}{xs:List Int}{e:TypeId}{f:FuncId}
theorem aae{b cap:Nat}{cur:Array Value}(d:w.heap[b]? = some (.cells cur e (0,0)))(f:cur.toList.take xs.length=xs.map (Value.int .i64)):Go.Sort.Holds (Value.int .i64) w b 0 xs.toArray:=by
 intro j g
 have a : j<xs.length:=by simpa using g
 have c:(cur.toList.take xs.length)[j]? = some (Value.int .i64 xs[j]):=by rw[f];simp[a]
 rw[Ew a]at c
 refine⟨?_,?_⟩
 . simp only[World.cell?,d]
   have e1:xs.toArray[j]! = xs[j]:=by simp[a]
   rw[e1]
   simpa using c
 . simp[World.frozen?,d]
theorem X6(s:Own (iD .i64 v e xs) w)(hi:i<xs.length)(t:∀ b cap,Go.Sort.Holds (Value.int .i64) w b 0 xs.toArray->xs.length<=cap->cap<=9223372036854775807 ->
  Calls P f #[.slice (some ⟨b,0,none⟩) xs.length cap,.int .i64 (i:Int),.int .i64 ((i+1:Nat):Int)] w fun en w' => en = .returned (.slice (some ⟨b,0,none⟩) (xs.length-(i+1-i)) cap) /\
   ∃ q,w' = Go.Sort.putRow (Value.int .i64) (Go.Sort.ahead w q) b 0 (xs.take i++xs.drop (i+1)++List.replicate (i+1-i) 0).toArray) :
 CR P f #[v,.int .i64 (i:Int),.int .i64 ((i+1:Nat):Int)] w (fun r w' => fP (iD .i64 v e xs) w w' (iD .i64 r e (xs.eraseIdx i))):=by
 have H:w.ownsRow 0 e 1 v xs.length (xs.map (Value.int .i64)):=s.holds
 rcases H.2 with ⟨_,L⟩|⟨a, cap,cur,rfl,hb,g,o,k,l,m⟩
 . omega
 . have p : cur.toList.take xs.length=xs.map (Value.int .i64):=by rw[tF]at m;simpa using m
   refine Calls.mono (t a cap (aae (cap:=cap) g p) o (by simpa[maxLen]using k)) ?_
   rintro en w' ⟨rfl,q,rfl⟩
   refine⟨_,rfl,?_⟩
   have z:xs.eraseIdx i=xs.take i++xs.drop (i+1):=HZ xs i
   have E:(xs.eraseIdx i).length=xs.length-(i+1-i):=by rw[List.length_eraseIdx_of_lt hi];omega
   have A:a < w.heap.size:=(su.1 g).1
   obtain⟨d,hd⟩:∃ d,d=(xs.take i++xs.drop (i+1)++List.replicate (i+1-i) 0).toArray:=⟨_,rfl⟩
   rw[<-hd]
   have y:d.size=xs.length:=by rw[hd];simp;omega
   have F:(Go.Sort.putRow (Value.int .i64) (Go.Sort.ahead w q) a 0 d).heap[a]? = some (.cells (Go.Sort.putCells (Value.int .i64) 0 d cur) e (0,0)):=by
    simp only[Go.Sort.putRow,Go.Sort.mapBlock,Go.Sort.ahead,EC,if_pos,g]
    rfl
   have G:∀ b,b≠a -> (Go.Sort.putRow (Value.int .i64) (Go.Sort.ahead w q) a 0 d).heap[b]? = w.heap[b]? := by
    intro b hb
    simp only[Go.Sort.putRow,Go.Sort.mapBlock,Go.Sort.ahead,EC]
    rw[if_neg (fun e=>hb e.symm)]
   have n:(Go.Sort.putRow (Value.int .i64) (Go.Sort.ahead w q) a 0 d).heap.size=w.heap.size:=by simp[Go.Sort.putRow,Go.Sort.mapBlock,Go.Sort.ahead]
   have I:(Go.Sort.putCells (Value.int .i64) 0 d cur).size=cur.size:=by simp[Go.Sort.putCells]
   have J:(Go.Sort.putCells (Value.int .i64) 0 d cur).toList.take (xs.eraseIdx i).length=(xs.eraseIdx i).map (Value.int .i64):=by
    apply mS
    intro j
    rw[yD,lU]
    split
    . rename_i h
      have B:j<xs.length:=by omega
      have C:j<cur.size:=by
       have:xs.length<=cur.size:=by rw[l];omega
       omega
      have x:d[j]! = (xs.eraseIdx i)[j]:=by
       have u:d=(xs.eraseIdx i++List.replicate (i+1-i) 0).toArray:=by rw[hd,z]
       rw[u]
       have D:j<(xs.eraseIdx i++List.replicate (i+1-i) 0).toArray.size:=by simp only[List.size_toArray,zk];omega
       rw[getElem!_pos _ j D,List.getElem_toArray,List.getElem_append_left h]
      simp only[Go.Sort.putCells,AQ,Ns,ko,true_and,uA,EM]
      rw[wz C]
      simp only[CO]
      rw[if_pos (by rw[y];exact B),x]
      simp[h]
    . rename_i h
      rw[nW o_]
      rfl
   refine⟨?_,⟨rfl,rfl,rfl,Nat.le_of_eq n.symm,fun b hb K=>G b (fun e=>K (by simp[row,Value.ownBlock,e]))⟩,fun b c => .inl (by simpa[row,Value.ownBlock]using c),by simp[row,Value.ownBlock],fun b c => ?_⟩
   . refine⟨s_,.inr ⟨a, cap,_,by rw[E],hb,F,o_,k,by rw[I];exact l,?_⟩⟩
     rw[tF]
     simpa using J
   . simp[row,Value.ownBlock]at c
     subst c
     rw[n]
     exact A
end
variable{P:Program}{t:TypeId}
theorem aeX{a b:Field}{ys:Array Value}{f g y2:Value}{c d:Bool}(ht:P.underlying t = some (.struct #[a, b]))(hs:P.stoodInHeld t = false)(n1:a.name ≠ "_")(h:b.name ≠ "_")(i:(part a.type xs a.offset).run P w = .ok f w)(j:(part a.type ys a.offset).run P w = .ok iv w)(p2:(part b.type xs b.offset).run P w = .ok g w)(k:(part b.type ys b.offset).run P w = .ok y2 w)(e1:(Op.equalIn 9999 a.type f iv).run P w = .ok c w)(e:(Op.equalIn 9999 b.type g y2).run P w = .ok d w):(Op.equal t (.agg xs) (.agg ys)).run P w = .ok (c&&d) w:=by
 show (Op.equalIn (9999+1) t _ _).run P w=_
 unfold Op.equalIn
 simp[run_underlying ht,hs,n1,h,i,j,p2,k,e1,e]
 cases c<;>cases d<;>simp[e]
theorem aeT{e:TypeId}{k:IntKind}(ht:P.underlying t=some (.array 2 e))(f:P.underlying e=some (.int k))(hi:TI P e 1 n z)(a0 a1 b0 b1:Int) :
 (Op.equal t (.agg #[.int k a0,.int k a1]) (.agg #[.int k b0,.int k b1])).run P w = .ok (decide (a0=b0/\a1=b1)) w:=by
 have p:∀ (c d:Value),(part e #[c,d] 0).run P w = .ok c w/\(part e #[c,d] 1).run P w = .ok d w:=fun c d=>⟨qQ f _ _ _ rfl,qQ f _ _ _ rfl⟩
 have q:=fun a b=>vg (P:=P) (w:=w) 9998 f a b
 simp only[Nat.reduceAdd]at q
 show (Op.equalIn 10000 t _ _).run P w=_
 unfold Op.equalIn
 simp only[zt,run_underlying ht,zn,hi.size,Std.Legacy.Range.forIn_eq_forIn_range', Std.Legacy.Range.size]
 simp only[show List.range' 0 ((2-0+1-1) / 1) 1=[0,1] from rfl,List.forIn_cons,List.forIn_nil,zt,tF,(p _ _).1,(p _ _).2,zn,q]
 by_cases h0:a0=b0
 . by_cases h1:a1=b1
   . simp[h0,h1,p,q,Result.andThen]
   . simp[h0,h1,p,q,Result.andThen]
 . simp[h0,p,q,Result.andThen]
theorem TB(a:P.underlying t=some .bool)(xs:Array Value)(i:Nat)(v:Value)(h:xs[i]? = some v):(part t xs i).run P w = .ok v w:=by
 simp[part,vZ a,kJ,h]
section
variable{r:Option Nat}{ops:Array Oper}{rest:List Oper}{s:List (Nat×Value)}{ds:List Deferred}
variable{d:Nat}{dd:Option Nat}{ty t':TypeId}{pos:String}{af:Array Edge}{g:Option (Nat×Bool)}{x y:Operand}{ys:Array Value}{c:Bool}
theorem acw(d:ev n s x = .agg xs)(e:ev n s y = .agg ys)(b:P.eqGuardType P.depth t=false)(a:∀ w,(Op.equal t (.agg xs) (.agg ys)).run P w = .ok c w) :
 (execOp (ev n s) ⟨dd,.binOp .neq t x y t', ty,pos,af,g⟩).run P w = .ok (.value (.bool (!c))) w:=by
 simp only[execOp,d,e,zt,run_eqGuard_agg .neq b,zn]
 simp only[binOp,zt,a,zn,kn]
theorem GP(b:gA ops n s g=true)(f:ev n s x = .agg xs)(h:ev n s y = .agg ys)(e:P.eqGuardType P.depth t=false)(a:∀ w,(Op.equal t (.agg xs) (.agg ys)).run P w = .ok c w)(K:WL r P ops Q rest (Fr n ((d,.bool (!c)) :: s) ds) w):WL r P ops Q (⟨some d,.binOp .neq t x y t', ty,pos,af,g⟩ :: rest) (Fr n s ds) w:=pw b (fun _=>acw f h e a) K
theorem Yu(b:gA ops n s g=true)(f:ev n s x = .agg xs)(h:ev n s y = .agg ys)(e:P.eqGuardType P.depth t=false)(a:∀ w,(Op.equal t (.agg xs) (.agg ys)).run P w = .ok c w)(K:WL r P ops Q rest (Fr n ((d,.bool c) :: s) ds) w):WL r P ops Q (⟨some d,.binOp .eql t x y t', ty,pos,af,g⟩ :: rest) (Fr n s ds) w:=by
 refine pw b (fun _=>?_) K
 simp only[execOp,f,h,zt,run_eqGuard_agg .eql e,zn]
 simp only[binOp,zt,a,zn,kn]
end
theorem ae0{sz:Nat}{a:Array Field}(ht:P.underlying t=some (.struct a))(hi:TI P t sz n z)(xs:Array Value)(i:Nat):(part t xs i).run P w = .ok (.agg (xs.extract i (i+sz))) w:=by
 simp[part,vZ ht,kJ,hi.size]
theorem aeV{h i j k:Field}{e f g:IntKind}{a b c d:Int}(n:Nat)(ht:P.underlying t = some (.struct #[h, i, j, k]))(hs:P.stoodInHeld t = false)(n1:h.name ≠ "_")(u:i.name ≠ "_")(v:j.name ≠ "_")(x:k.name ≠ "_")(o1:h.offset=0)(y:i.offset=1)(z:j.offset=2)(A:k.offset=3)(l:P.underlying h.type=some (.int k1))(m:P.underlying i.type=some (.int e))(o:P.underlying j.type=some (.int f))(p:P.underlying k.type=some (.int g)) :
 (Op.equalIn (n+1+1) t (.agg #[.int k1 a,.int e b,.int f c,.int g d]) (.agg #[.int k1 a,.int e b,.int f c,.int g d])).run P w = .ok true w:=by
 have B:=qQ (w:=w) l #[.int k1 a,.int e b,.int f c,.int g d] 0 _ rfl
 have p2:=qQ (w:=w) m #[.int k1 a,.int e b,.int f c,.int g d] 1 _ rfl
 have C:=qQ (w:=w) o #[.int k1 a,.int e b,.int f c,.int g d] 2 _ rfl
 have D:=qQ (w:=w) p #[.int k1 a,.int e b,.int f c,.int g d] 3 _ rfl
 have e1:=vg (P:=P) (w:=w) n l a a
 have q:=vg (P:=P) (w:=w) n m b b
 have r:=vg (P:=P) (w:=w) n o c c
 have s:=vg (P:=P) (w:=w) n p d d
 unfold Op.equalIn
 simp[run_underlying ht,hs,n1,u,v,x,o1,y,z,A,B,p2,C,D,e1,q,r,s]
theorem aeW{j k g l:Field}{h i:IntKind}{d e f:Int}{v2 a b c:Value}{s:Array Field}{by_:Nat}(ht:P.underlying t = some (.struct #[j, k, g, l]))(hs:P.stoodInHeld t = false)(n1:j.name ≠ "_")(u:k.name ≠ "_")(v:g.name ≠ "_")(x:l.name ≠ "_")(o1:j.offset=0)(y:k.offset=1)(A:g.offset=2)(B:l.offset=6)(o:P.underlying j.type=some (.int k1))(p:P.underlying k.type=some (.int h))(F:P.underlying g.type=some (.struct s))(hi:TI P g.type 4 by_ z)(q:P.underlying l.type=some (.int i))(r:(Op.equalIn 9999 g.type (.agg #[v2,a,b,c]) (.agg #[v2,a,b,c])).run P w = .ok true w) :
 (Op.equal t (.agg #[.int k1 d,.int h e,v2,a,b,c,.int i f]) (.agg #[.int k1 d,.int h e,v2,a,b,c,.int i f])).run P w = .ok true w:=by
 have C:=qQ (w:=w) o #[.int k1 d,.int h e,v2,a,b,c,.int i f] 0 _ rfl
 have p2:=qQ (w:=w) p #[.int k1 d,.int h e,v2,a,b,c,.int i f] 1 _ rfl
 have D:(part g.type #[.int k1 d,.int h e,v2,a,b,c,.int i f] 2).run P w = .ok (.agg #[v2,a,b,c]) w:=ae0 F hi _ _
 have E:=qQ (w:=w) q #[.int k1 d,.int h e,v2,a,b,c,.int i f] 6 _ rfl
 have e1:=vg (P:=P) (w:=w) 9998 o d d
 have m:=vg (P:=P) (w:=w) 9998 p e e
 have n:=vg (P:=P) (w:=w) 9998 q f f
 simp only[Nat.reduceAdd]at e1 m n
 show (Op.equalIn (9999+1) t _ _).run P w=_
 unfold Op.equalIn
 simp[run_underlying ht,hs,n1,u,v,x,o1,y,A,B,C,p2,D,E,e1,m,r,n]
section
variable{r:Option Nat}{ops:Array Oper}{rest:List Oper}{s:List (Nat×Value)}{ds:List Deferred}
variable{d:Nat}{ty:TypeId}{pos:String}{af:Array Edge}{g:Option (Nat×Bool)}
theorem PN{f:FuncId}{az:List Operand}{T:Array TypeId}{vl:List Value}{v:Value}(b:gA ops n s g=true)(hvs:az.map (ev n s)=vl)(a:(callFunc f vl.toArray).run P w = .ok (.value v) w)(K:WL r P ops Q rest (Fr n ((d,v) :: s) ds) w):WL r P ops Q (⟨some d,.call ⟨.value (.func f),az.toArray,T⟩,ty,pos,af,g⟩ :: rest) (Fr n s ds) w:=by
 refine pv b rfl ?_ K
 simp only[execOp,resolve,invoke,Deferred.ofValue,GH, hvs]
 simpa[ev]using a
end
variable{γ:Type}
def mP(b r:Nat)(k:IntKind)(enc:γ->Value)(m todo:List (Int×γ))(cur:Option (Int×γ)):fJ where
 gq:=[b,r]
 holds w:=∃ (es:List (Int×Value×Nat)) (a:Nat) (f:Array Nat) (c d:Nat),w.heap[b]? = some (.map (es.map (mq k)).toArray a)/\es.map (fun e=>(e.1,e.2.1))=m.map (fun p=>(p.1,enc p.2))/\(es.map (fun e=>e.2.2)).Nodup/\(∀ e∈es,e.2.2<a) /\
  w.heap[r]? = some (.mapIter (some b) c f d)/\c<=d/\c<=a/\(∀ e∈es,e.2.2<c) /\
  (es.filter fun e => !f.contains e.2.2).map (fun e=>(e.1,e.2.1))=todo.map (fun p=>(p.1,enc p.2)) /\
  ∀ p,cur=some p->d=a/\∃ (q:Array Nat) (e:Int×Value×Nat),f=q.push e.2.2/\e∈es/\e.1=p.1/\e.2.1=enc p.2
 loc w w' h hh:=by
  obtain⟨es,a,f,c,d,g,i,j,l,n,o⟩:=hh
  exact⟨es,a,f,c,d,(h b s_).trans g,i,j,l,(h r s_).trans n,o⟩
theorem YY{es:List (Int×Value×Nat)}{p:Nat->Bool}{e:Int×Value×Nat}(b:(es.map (fun e=>e.2.2)).Nodup)(a:e∈es)(hp:p e.2.2=true) :
 ∃ j,(es.filter fun x=>p x.2.2)[j]? = some e/\(es.filter fun x=>p x.2.2 && !(x.2.2==e.2.2))=(es.filter fun x=>p x.2.2).eraseIdx j:=by
 induction es with
 | nil=>simp at a
 | cons x es d =>
  simp only[mh,zu]at b
  rcases ze.1 a with rfl|a
  . refine⟨0,by simp[hp],?_⟩
    rw[CL,if_neg s_,CL,if_pos hp]
    simp only[List.eraseIdx_cons_zero]
    refine AN fun y i=>?_
    grind
  . obtain⟨j,c,f⟩:=d b.2 a
    have g:x.2.2≠e.2.2:=fun h=>b.1 (by rw[h];exact zq.2 ⟨e,a,rfl⟩)
    by_cases hx:p x.2.2=true
    . refine⟨j+1,by rw[CL,if_pos hx];simpa using c,?_⟩
      grind
    . grind
section
variable{enc:γ->Value}
variable{r:Option Nat}{ops:Array Oper}{rest l:List Oper}{s s0:List (Nat×Value)}{ds:List Deferred}{w0:World}{Nx:Value->World->Prop}
variable{d:Nat}{dd:Option Nat}{ty:TypeId}{pos:String}{af:Array Edge}{g:Option (Nat×Bool)}{x y m:Operand}{L L':List fJ}{e kt:TypeId}{b rb:Nat}{k k':IntKind}{mm todo:List (Int×γ)}{a:Int}{v:Value}{c:γ}{cur:Option (Int×γ)}
theorem Tq(i:Nat)(x:gA ops n s g=true)(hm:ev n s m = .map (some b))(ht:P.underlying t=some (.map kt e))(h:St bs L w)(f:L[i]? = some (gP b k enc mm))(K:∀ rb w', St bs (L.set i (mP b rb k enc mm mm none)) w' -> WL r P ops Q rest (Fr n ((d,.pointer (some ⟨rb,0,none⟩)) :: s) ds) w'):WL r P ops Q (⟨some d,.range t m,ty,pos,af,g⟩ :: rest) (Fr n s ds) w:=by
 obtain⟨es,a,j,l,u,o⟩:(gP b k enc mm).holds w:=h.own _ (zg f)
 have y:=K0 h f
 refine pv (v:=.pointer (some ⟨w.heap.size,0,none⟩)) (w' := w.alloc (.mapIter (some b) a #[] a)) x rfl ?_ (K _ _ ?_)
 . simp only[execOp,hm,zt,run_range_map w t kt e b _ a ht j,zn,kn]
 . refine h.iV f (gE.alloc _ w _) (fun c q=>?_) ?_ (fun c q=>?_) ?_
   . grind [mP,gP]
   . simp[mP];omega
   . simp[mP]at q
     simp only[World.alloc,Array.size_push]
     omega
   . exact⟨es,a,#[],a,a,(heap_alloc_old w _ y).trans j,l,u,o,heap_alloc_new w _,zh _,zh _,o,by rw[vq.2 s_];exact l,fun p hp=>by cases hp⟩
theorem St.RW(e:St bs L w)(d:L[i]? = some (mP b rb k enc mm todo cur)):St bs (L.set i (gP b k enc mm)) w:=by
 obtain⟨es,f,o,n,m,g,h,j,l,_⟩:(mP b rb k enc mm todo cur).holds w:=e.own _ (zg d)
 refine e.iV d (gE.refl _ w) (fun c a=>.inl ?_) (by simp[gP]) (fun c a=>?_) ⟨es,f,g,h,j,l⟩
 . simp[gP]at a
   simp[mP,a]
 . grind [tc,gP,mP]
structure Vw (P:Program) (bs:List (World×List Nat)) (L:List fJ) (i b rb:Nat) (k:IntKind) (enc:γ->Value) (mm todo todo2:List (Int×γ)) (p:Int×γ) (w w' : World):Prop where
 run:∀ ty,(Instr.next (.pointer (some ⟨rb,0,none⟩)) false ty).run P w = .ok (.tuple #[.bool true,.int k p.1,enc p.2]) w'
 st:St bs (L.set i (mP b rb k enc mm todo2 (some p))) w'
 perm:todo.Perm (p :: todo2)
theorem RX(P:Program)(n:St bs L w)(m:L[i]? = some (mP b rb k enc mm todo cur)) :
 (todo=[]/\∀ ty,(Instr.next (.pointer (some ⟨rb,0,none⟩)) false ty).run P w = .ok (.tuple #[.bool false]) w)\/∃ p ae w', Vw P bs L i b rb k enc mm todo ae p w w' := by
 obtain⟨es,d,a,f,z,s,M,A,N,o,B,C, O,g,h9⟩:(mP b rb k enc mm todo cur).holds w:=n.own _ (zg m)
 have hb:b<w.heap.size:=n.lt b (tc m (by simp[mP]))
 have aa:rb<w.heap.size:=n.lt rb (tc m (by simp[mP]))
 have W:b≠rb:=by
  rintro rfl
  rw[s]at o
  cases o
 have F:∀ x∈(es.map (mq k)).toArray.toList,x.born<f:=by
  grind
 have v:(leftOf (es.map (mq k)).toArray a).toList=(es.filter fun e => !a.contains e.2.2).map (mq k):=by
  unfold leftOf
  simp only[Array.toList_filter,List.filter_map]
  rfl
 by_cases h0:todo=[]
 . left
   subst h0
   refine⟨rfl,fun ty=>?_⟩
   have H:(leftOf (es.map (mq k)).toArray a).size=0:=by
    rw[<-ux,v,zm]
    have:=congrArg List.length g
    simpa using this
   rcases run_next_at (P:=P) w ty rb b f z a _ d o s F B with ⟨_,h⟩|⟨e,r,_⟩
   . exact h
   . grind
 . right
   have ac:∃ e∈(leftOf (es.map (mq k)).toArray a).toList,∃ w1:World,(w1=w\/w1=w.drew)/\∀ ty,(Instr.next (.pointer (some ⟨rb,0,none⟩)) false ty).run P w = .ok (.tuple #[.bool true,e.key,e.val]) (Go.ChangeMaps.setBlock w1 rb (.mapIter (some b) f (a.push e.born) d)):=by
    rcases run_next_at (P:=P) w 0 rb b f z a _ d o s F B with ⟨H,_⟩|⟨e,r,w1,y,Z⟩
    . exfalso
      rw[<-ux,v,zm]at H
      have t:=congrArg List.length g
      grind
    . exact⟨e,r,w1,y,fun ty=>Z⟩
   obtain⟨e9,E,w1,y,ab⟩:=ac
   rw[v]at E
   obtain⟨e,r,rfl⟩:=zq.1 E
   obtain⟨R,S⟩:=z7.1 r
   obtain⟨j,T,U⟩:=YY (p:=fun q => !a.contains q) A R S
   have af:=(zp.1 T).1
   have V:=congrArg List.length g
   rw[zm,zm]at V
   have hp:todo[j]? = some (todo[j]'o_):=zy o_
   generalize (todo[j]'o_)=p at hp
   have G:(e.1,e.2.1)=(p.1,enc p.2):=by
    have t:=congrArg (fun l=>l[j]?) g
    grind
   have X:e.1=p.1:=congrArg Prod.fst G
   have Y:e.2.1=enc p.2:=congrArg Prod.snd G
   have ad:w1.heap=w.heap:=by rcases y with rfl|rfl<;>rfl
   have Q:gE [] w w1:=by
    grind [gE.refl,gE.drew]
   have D:gE (mP b rb k enc mm todo cur).gq w (Go.ChangeMaps.setBlock w1 rb (.mapIter (some b) f (a.push e.2.2) d)) :=
    (Q.mono s_).trans ((Xd (b:=rb) w1 _).mono (by simp[mP]))
   refine⟨p,todo.eraseIdx j,Go.ChangeMaps.setBlock w1 rb (.mapIter (some b) f (a.push e.2.2) d),⟨fun ty=>?_,?_,?_⟩⟩
   . rw[ab ty]
     simp only[X,Y]
   . refine n.iV m D (fun c u=>.inl u) ?_ (fun c u=>?_) ?_
     . simp[mP,W]
     . exact qA (n.lt c (tc m u)) D.size
     . refine⟨es,d,a.push e.2.2,f,d,?_,M,A,N,?_,C, C, O,?_,fun q hq=>?_⟩
       . show (w1.heap.setIfInBounds rb _)[b]? = _
         grind
       . show (w1.heap.setIfInBounds rb _)[rb]? = _
         rw[ad]
         simp[aa]
       . have:(es.filter fun x => !(a.push e.2.2).contains x.2.2)=(es.filter fun x => !a.contains x.2.2 && !(x.2.2==e.2.2)):=by
          grind
         rw[this,U,<-J2,g,J2]
       . grind
   . have t:=(zp.1 hp)
     obtain⟨I,J⟩:=t
     have K:todo=todo.take j++p :: todo.drop (j+1):=by
      rw[<-J,<-Eu I,wA]
     rw[HZ]
     exact(List.Perm.of_eq K).trans sA
theorem GY(a:gA ops n s g=true)(b:ev n s x=v)(h:(Instr.next v false ty).run P w = .ok u w')(K:WL r P ops Q rest (Fr n ((d,u) :: s) ds) w'):WL r P ops Q (⟨some d,.next x false,ty,pos,af,g⟩ :: rest) (Fr n s ds) w :=
 pv a rfl (by simp only[execOp,b,zt,h,zn,kn]) K
theorem Qi{p:Int×γ}(i:Nat)(q:gA ops n s g=true)(y:ev n s x = .pointer (some ⟨rb,0,none⟩))(v:St bs L w)(l:L[i]? = some (mP b rb k enc mm todo (some p)))(K:WL r P ops Q rest (Fr n ((d,.tuple #[.int k p.1,enc p.2]) :: s) ds) w):WL r P ops Q (⟨some d,.entry x,ty,pos,af,g⟩ :: rest) (Fr n s ds) w:=by
 obtain⟨es,B,I,z,a,c,C,f,D,h,E,F, G,H,j⟩:(mP b rb k enc mm todo (some p)).holds w:=v.own _ (zg l)
 obtain⟨rfl,A,e,rfl,o,t,u⟩:=j p rfl
 have m:=run_entry_at (P:=P) w rb b z A (es.map (mq k)).toArray a (mq k e) h c (by simp only[zq];exact⟨e,o,rfl⟩) (by rw[yF];exact f)
 refine pv q rfl (by simp only[execOp,y,zt,m,zn,kn,t,u]) K
end
theorem ab7{γ:Type}{m c:List (Int×γ)}{a:Int}:iC (m++c) a=if iC m a=none then iC c a else iC m a:=by
 induction m with
 | nil=>simp[iC]
 | cons p m d =>
  obtain⟨b,y⟩:=p
  simp only[pW,iC]
  split
  . simp
  . exact d
structure qD (im0 dn todo dn2 im2:IM):Prop where
 perm:(dn++todo).Perm im0
 same:dn2.map (fun p=>(p.1,p.2.2))=dn.map (fun p=>(p.1,p.2.2))
 keys:(im2.map Prod.fst).Nodup
 get:∀ a,iC im2 a=if iC dn2 a=none then iC im0 a else iC dn2 a
theorem qD.start{b:IM}(h:(b.map Prod.fst).Nodup):qD b [] b [] b:=⟨List.Perm.refl _,rfl,h,fun a=>by simp[iC]⟩
theorem qD.Rc{c a b im2:IM}(h:qD c a K b im2):b.map Prod.fst=a.map Prod.fst:=by
 have:=congrArg (List.map Prod.fst) h.same
 rw[yF,yF]at this
 exact this
theorem qD.nodup{b a c im2:IM}(h:qD b a K c im2)(d:(b.map Prod.fst).Nodup):((a++K).map Prod.fst).Nodup:=((h.perm.map Prod.fst).nodup_iff).2 d
theorem qD.next{d b e c im2:IM}{p:Int×(Value×List Nat)}(h:qD d b K c im2)(g:(d.map Prod.fst).Nodup)(hp:K.Perm (p :: e))(v:Value) :
 qD d (b++[p]) e (c++[(p.1,(v,p.2.2))]) (gr im2 p.1 (v,p.2.2)):=by
 have j:(b++[p]++e).Perm (b++K):=by
  rw[z6]
  exact(hp.symm.append_left b)
 have f:=h.nodup g
 have i:iC c p.1=none:=by
  rw[GK,h.Rc]
  intro hm
  rw[ni,zo]at f
  exact f.2.2 _ hm p.1 (zq.2 ⟨p,hp.mem_iff.2 s_,rfl⟩) rfl
 refine⟨j.trans h.perm,?_,DO h.keys _ _,fun a=>?_⟩
 . rw[ni,ni,h.same]
   rfl
 . rw[xx,ab7,h.get]
   by_cases ha:p.1=a
   . subst ha
     simp[i,iC]
   . simp only[if_neg ha,iC]
     split<;>simp_all
theorem qD.at{a b K f c im2:IM}{p:Int×(Value×List Nat)}(h:qD a b K c im2)(d:(a.map Prod.fst).Nodup)(hp:K.Perm (p :: f)):(fS a p.1).2=p.2.2:=by
 have e:(p.1,p.2)∈a:=h.perm.mem_iff.1 (yC _ (hp.mem_iff.2 s_))
 unfold fS
 rw[Sa d e]
 rfl
theorem Sb{γ:Type}{m b:List (Int×γ)}(hp:m.Perm b)(h:(m.map Prod.fst).Nodup)(a:Int):iC m a=iC b a:=by
 have c:(b.map Prod.fst).Nodup:=((hp.map Prod.fst).nodup_iff).1 h
 cases hm:iC m a with
 | some x=>exact(Sa c (hp.mem_iff.1 (R8 hm))).symm
 | none =>
  rw[GK]at hm
  symm
  rw[GK]
  intro d
  exact hm (((hp.map Prod.fst).mem_iff).2 d)
theorem SM{γ:Type}:∀ {m c:List (Int×γ)},(m.map Prod.fst).Nodup->(c.map Prod.fst).Nodup->(∀ a,iC m a=iC c a)->m.Perm c
 | [],c,_,_,h=>by
  cases c with
  | nil=>exact List.Perm.refl _
  | cons p c=>have:=h p.1;obtain⟨b,y⟩:=p;simp[iC]at this
 | p :: m,c,h1,h2,h=>by
  obtain⟨b,y⟩:=p
  have hb:iC c b=some y:=by rw[<-h b];simp[iC]
  have g:=Lb hb
  have f:=Sm h2 b
  simp only[mh,zu]at h1
  refine(List.Perm.cons _ (SM h1.2 f fun a=>?_)).trans g.symm
  rw[La h2]
  have d:=h a
  simp only[iC]at d
  split
  . rename_i e
    subst e
    exact GK.2 h1.1
  . rename_i e
    rw[if_neg e]at d
    exact d
theorem Sc{d c:IM}(h:c.map (fun p=>(p.1,p.2.2))=d.map (fun p=>(p.1,p.2.2)))(a:Int):(iC c a=none↔iC d a=none)/\(fS c a).2=(fS d a).2:=by
 induction d generalizing c with
 | nil =>
  cases c with
  | nil=>exact⟨Iff.rfl,rfl⟩
  | cons q c=>simp at h
 | cons p d g =>
  cases c with
  | nil=>simp at h
  | cons q c =>
   simp only[mh,List.cons.injEq,Prod.mk.injEq]at h
   obtain⟨⟨e1,e⟩,f⟩:=h
   obtain⟨b,v,xs⟩:=p
   obtain⟨b2,v2,i⟩:=q
   simp only at e1 e
   subst e1 e
   have:=g f
   unfold fS at this ⊢
   simp only[iC]
   split
   . simp
   . exact this
theorem qD.fin{b d e im2:IM}(h:qD b d K e im2)(j:(b.map Prod.fst).Nodup)(ht:K=[]) :
 d.Perm b/\e.Perm im2/\(im2.map Prod.fst).Nodup/\∀ a,(iC im2 a=none↔iC b a=none)/\(fS im2 a).2=(fS b a).2:=by
 subst ht
 have hp:d.Perm b:=by simpa using h.perm
 have f:(d.map Prod.fst).Nodup:=((hp.map Prod.fst).nodup_iff).2 j
 have m:(e.map Prod.fst).Nodup:=by rw[h.Rc];exact f
 have g:∀ a,iC e a=iC im2 a:=by
  intro a
  rw[h.get]
  split
  . rename_i i
    rw[i]
    have c:=((Sc h.same a).1).1 i
    rw[Sb hp f a]at c
    exact c.symm
  . rfl
 refine⟨hp,SM m h.keys g,h.keys,fun a=>?_⟩
 have c:=Sc h.same a
 have k:=Sb hp f a
 have l:=g a
 unfold fS at c ⊢
 rw[<-l,<-k]
 exact c
theorem D0{v:Value}{e:TypeId}(b:∀ x:Nat,cf x=[.int .i64 (x:Int)])(ds:List Nat):cL cf v e 1 ds=iD .i64 v e (gi ds):=by
 have a:ds.flatMap cf=(gi ds).map (.int .i64):=by
  unfold gi
  induction ds with
  | nil=>rfl
  | cons d ds c=>simp[b,c]
 show row v e 1 ds.length _=row v e 1 (gi ds).length _
 rw[a,show (gi ds).length=ds.length by simp[gi]]
theorem St.aeH{L:List fJ}{v:Value}{e:TypeId}(a:∀ x:Nat,cf x=[.int .i64 (x:Int)])(h:St bs (iD .i64 v e (gi ds) :: L) w):St bs (cL cf v e 1 ds :: L) w:=by
 rw[D0 a]
 exact h
theorem St.Tx{L:List fJ}{v:Value}{e:TypeId}(a:∀ x:Nat,cf x=[.int .i64 (x:Int)])(h:St bs (cL cf v e 1 ds :: L) w):St bs (iD .i64 v e (gi ds) :: L) w:=by
 rw[D0 a]at h
 exact h
def l7{α:Type}(cf:α->List Value)(e:TypeId)(sz:Nat)(l:List (Value×List α)):fJ:=fN (l.map fun p=>cL cf p.1 e sz p.2)
abbrev qd{α:Type}(cf:α->List Value)(e:TypeId)(l:List (Value×List α)):fJ:=l7 cf e 1 l
abbrev zK(e:TypeId)(l:List (Value×List Nat)):fJ:=qd fL e l
theorem set_perm{α:Type}:∀ (l:List α) (i:Nat) (x:α),i<l.length->(l.set i x).Perm (x :: l.eraseIdx i)
 | y :: l,0,x,_=>List.Perm.refl _
 | y :: l,i+1,x,h=>((set_perm l i x (by simpa using h)).cons y).trans (List.Perm.swap _ _ _)
 | [],i,x,h=>by simp at h
theorem QJ{α:Type}[Inhabited α]{l:List α}{i:Nat}(h:i<l.length):l.Perm (cE l i :: l.eraseIdx i):=by
 have a:=set_perm l i (cE l i) h
 have b:l.set i (cE l i)=l:=by
  apply mS
  intro j
  rw[wD]
  split
  . rename_i c
    subst c
    exact(fW h).symm
  . rfl
 rwa [b]at a
abbrev jd{α:Type}(p:Value×List α):List Value:=[p.1]
instance {α:Type}:Inhabited (Value×List α):=⟨(.slice none 0 0,[])⟩
section
variable{α:Type}{cf:α->List Value}{L:List fJ}{e:TypeId}{l:List (Value×List α)}{sz:Nat}
theorem St.KI{a:List (Value×List α)}(h:St bs (l7 cf e sz l :: L) w)(hp:l.Perm a):St bs (l7 cf e sz a :: L) w :=
 St.pack _ _ ((St.unpack h).perm ((hp.map _).append_right _))
theorem St.aaR{p:Value×List α}(h:St bs (l7 cf e sz (p :: l) :: L) w):St bs (cL cf p.1 e sz p.2 :: l7 cf e sz l :: L) w:=by
 have a:St bs (([cL cf p.1 e sz p.2]++l.map fun p=>cL cf p.1 e sz p.2)++L) w:=St.unpack h
 rw[z6]at a
 have b:=a.perm (L' := (l.map fun p=>cL cf p.1 e sz p.2)++([cL cf p.1 e sz p.2]++L)) (by
  rw[<-z6,<-z6]
  exact List.Perm.append_right _ qx)
 exact(St.pack _ _ b).swap
theorem St.JO{p:Value×List α}(h:St bs (cL cf p.1 e sz p.2 :: l7 cf e sz l :: L) w):St bs (l7 cf e sz (p :: l) :: L) w:=by
 have a:St bs ((l.map fun p=>cL cf p.1 e sz p.2)++(cL cf p.1 e sz p.2 :: L)) w:=St.unpack h.swap
 refine St.pack _ _ (a.perm ?_)
 show List.Perm _ (cL cf p.1 e sz p.2 :: ((l.map fun p=>cL cf p.1 e sz p.2)++L))
 exact sA
theorem St.aaT(i:Nat)(h:St bs (l7 cf e sz l :: L) w)(hi:i<l.length):St bs (cL cf (cE l i).1 e sz (cE l i).2 :: l7 cf e sz (l.eraseIdx i) :: L) w :=
 (h.KI (QJ hi)).aaR
theorem St.DH{v:Value}{xs:List α}(h:St bs (cL cf v e sz xs :: l7 cf e sz (l.eraseIdx i) :: L) w)(hi:i<l.length):St bs (l7 cf e sz (cO l i (fun _=>(v,xs))) :: L) w :=
 (St.JO (p:=(v,xs)) h).KI (set_perm l i (v,xs) hi).symm
theorem St.Gl(h:St bs (cL cf (cE l i).1 e sz (cE l i).2 :: l7 cf e sz (l.eraseIdx i) :: L) w)(hi:i<l.length):St bs (l7 cf e sz l :: L) w :=
 (St.JO (p:=cE l i) h).KI (QJ hi).symm
theorem St.aaS(h:St bs L w):St bs (l7 cf e sz [] :: L) w:=St.pack [] L h
theorem St.Gm(n:Nat)(h:St bs L w):St bs (l7 cf e sz (List.replicate n (.slice none 0 0,[])) :: L) w:=by
 induction n with
 | zero=>exact h.aaS
 | succ n a=>exact St.JO (p:=(.slice none 0 0,[])) (St.FC a e sz)
theorem xh{a b v:Value}(hi:i<l.length)(hv:(cE l i).1=v):(a :: b :: l.flatMap jd)[2+i]? = some v:=by
 have h:=vL (cf:=jd) (sz:=1) (fun _=>rfl) l i 0 (cE l i) v (fW hi) (by rw[<-hv];rfl)
 rw[tF,sD]at h
 rw[Nat.add_comm]
 exact h
theorem KF{a b v:Value}{xs:List α}(hi:i<l.length):setAt (a :: b :: l.flatMap jd) (2+i) [v]=a :: b :: (cO l i (fun _=>(v,xs))).flatMap jd:=by
 have h:=G3 (cf:=jd) (sz:=1) (off:=0) (vs:=[v]) (f:=fun _=>(v,xs)) (fun _=>rfl) hi rfl (zh _)
 rw[tF,sD]at h
 have c:=TJ (a:=[a,b]) (b:=l.flatMap jd) (vs:=[v]) (o:=i)
 rw[h]at c
 exact c
theorem aaC{a b:Value}(hi:i<l.length):2+i+1<=(a :: b :: l.flatMap jd).length:=by
 rw[zb,zb,pP (sz:=1) (fun _=>rfl)]
 omega
end
section
variable{f:FuncId}{b:Nat}{k:IntKind}{enc:γ->Value}{m:List (Int×γ)}
theorem Xr(h:Own (gP b k enc m) w)(l:∀ es g,w.heap[b]? = some (.map es g)->Calls P f #[.map (some b)] w fun e w' => e = .returned (.map (some w.heap.size))/\w' = w.alloc (.map es g)) :
 CR P f #[.map (some b)] w (fun r w' => ∃ b2,r = .map (some b2)/\fP (gP b k enc m) w w' (fN [gP b k enc m,gP b2 k enc m])):=by
 obtain⟨es,d,i,j⟩:=h.holds
 have n:=St.Kx h
 refine Calls.mono (l _ _ i) ?_
 rintro e w' ⟨rfl,rfl⟩
 refine⟨_,rfl,w.heap.size,rfl,?_⟩
 have o:St [(w,(gP b k enc m).gq)] (gP w.heap.size k enc m :: [gP b k enc m]) (w.alloc (.map (es.map (mq k)).toArray d)) :=
  n.tS (gE.alloc [] w _) (fun c a=>by simp[gP]at a;omega) (by simp[gP]) (fun c a=>by simp[gP]at a;simp;omega) ⟨es,d,heap_alloc_new w _,j⟩
 exact St.Yq (o.perm (List.Perm.swap _ _ _)) za
end
section
variable{r:Option Nat}{ops:Array Oper}{rest:List Oper}{s:List (Nat×Value)}{ds:List Deferred}
variable{d:Nat}{dd:Option Nat}{ty t' e kt:TypeId}{pos:String}{af:Array Edge}{g:Option (Nat×Bool)}{x y:Operand}{a:Option Nat}{c:Bool}
theorem aeY(k:Nat)(ht:P.underlying t=some (.map kt e)):(Op.equalIn (k+1) t (.map a) (.map none)).run P w = .ok a.isNone w:=by
 cases a<;>simp[Op.equalIn,run_underlying ht]
theorem acD(b:ev n s x = .map a)(d:ev n s y = .map none)(ht:P.underlying t=some (.map kt e))(hc:(!a.isNone)=c) :
 (execOp (ev n s) ⟨dd,.binOp .neq t x y t', ty,pos,af,g⟩).run P w = .ok (.value (.bool c)) w:=by
 subst hc
 simp[execOp,b,d,eqGuard,binOp,Op.equal,Op.maxDepth,aeY 9999 ht]
theorem Si(b:gA ops n s g=true)(f:ev n s x = .map a)(h:ev n s y = .map none)(ht:P.underlying t=some (.map kt e))(hc:(!a.isNone)=c)(K:WL r P ops Q rest (Fr n ((d,.bool c) :: s) ds) w):WL r P ops Q (⟨some d,.binOp .neq t x y t', ty,pos,af,g⟩ :: rest) (Fr n s ds) w:=pw b (fun _=>acD f h ht hc) K
end
section
variable{α:Type}{cf:α->List Value}{ok:Nat->Prop}{ys:List α}{c:α}{off:Nat}
variable{r:Option Nat}{ops:Array Oper}{rest:List Oper}{s:List (Nat×Value)}{ds:List Deferred}{w0:World}
variable{d:Nat}{dd:Option Nat}{ty:TypeId}{pos:String}{af:Array Edge}{g:Option (Nat×Bool)}{v:Value}{x:Operand}{sz:Nat}
theorem acJ(e:ev n s x=j8 sz v k off)(a:gV sz cf ok w0 v ys)(d:ys[k]? = some c) :
 (execOp (ev n s) ⟨dd,.nilCheck x,ty,pos,af,g⟩).run P w = .ok (.value (j8 sz v k off)) w:=by
 obtain⟨b,o,m,f,rfl,_⟩:=a.place d
 exact Lm e
theorem B6(e:gA ops n s g=true)(f:ev n s x=j8 sz v k off)(a:gV sz cf ok w0 v ys)(b:ys[k]? = some c)(K:WL r P ops Q rest (Fr n ((d,j8 sz v k off) :: s) ds) w) :
 WL r P ops Q (⟨some d,.nilCheck x,ty,pos,af,g⟩ :: rest) (Fr n s ds) w:=pw e (fun _=>acJ f a b) K
end
def uf(es:List Ge)(i j:Nat):Prop:=(cE es i).w<(cE es j).w\/((cE es i).w=(cE es j).w/\i<j)
instance (es:List Ge) (i j:Nat):Decidable (uf es i j):=by unfold uf;infer_instance
theorem aaW(i:Nat):¬ uf es i i:=by unfold uf;omega
theorem aaV(h:uf es i j):¬ uf es j i:=by unfold uf at *;omega
structure rE (es:List Ge) (o:List Nat):Prop where
 perm:o.Perm (List.range es.length)
 Mq:o.Pairwise (uf es)
theorem rE.uniq{o o':List Nat}(h:rE es o)(c:rE es o'):o=o' :=
 FE (r:=uf es) aaW (fun a b h=>aaV h) h.Mq c.Mq fun x=>(h.perm.mem_iff).trans (c.perm.mem_iff).symm
theorem rE.len{o:List Nat}(h:rE es o):o.length=es.length:=by rw[h.perm.length_eq,mD]
theorem rE.lt{o:List Nat}(h:rE es o)(hi:i∈o):i<es.length:=lV.1 (h.perm.mem_iff.1 hi)
def ic(es:List Ge)(n:Nat)(f:List Nat):List Nat:=f.foldl (fun lb i=>jg lb (cE lb (cE es i).u) (cE lb (cE es i).v)) (List.range n)
theorem Gq{f:List Nat}:ic es n (f++[i])=jg (ic es n f) (cE (ic es n f) (cE es i).u) (cE (ic es n f) (cE es i).v):=by
 unfold ic
 rw[EH]
 rfl
theorem Gn(f:List Nat):(ic es n f).length=n:=by
 unfold ic
 rw[<-List.foldr_reverse]
 induction f.reverse with
 | nil=>exact mD
 | cons i f a=>rw[List.foldr_cons,GM];exact a
def nt(es:List Ge)(n:Nat)(f:List Nat)(i:Nat):Prop:=cE (ic es n f) (cE es i).u≠cE (ic es n f) (cE es i).v
instance (es:List Ge) (n:Nat) (f:List Nat) (i:Nat):Decidable (nt es n f i):=by unfold nt;infer_instance
def kO(es:List Ge)(n:Nat)(o:List Nat):List Nat:=o.foldl (fun f i=>if nt es n f i then f++[i]else f) []
theorem J9{o:List Nat}:kO es n (o++[i])=if nt es n (kO es n o) i then kO es n o++[i]else kO es n o:=by
 unfold kO
 rw[EH]
 rfl
theorem Gb{o:List Nat}(h:k<o.length):kO es n (o.take (k+1))=if nt es n (kO es n (o.take k)) (cE o k)then kO es n (o.take k)++[cE o k]else kO es n (o.take k):=by
 rw[<-J9,nY,fW h]
 rfl
theorem Ga(o:List Nat):(kO es n o).Sublist o:=by
 have h:∀ r:List Nat,(kO es n r.reverse).Sublist r.reverse:=by
  intro r
  induction r with
  | nil=>exact List.Sublist.refl _
  | cons i r a =>
   rw[List.reverse_cons,J9]
   split
   . exact a.append (List.Sublist.refl _)
   . exact a.trans (vp _ _)
 simpa using h o.reverse
theorem Rl{f:List Nat}:ic es n (if nt es n f i then f++[i]else f)=jg (ic es n f) (cE (ic es n f) (cE es i).u) (cE (ic es n f) (cE es i).v):=by
 split
 . exact Gq
 . rename_i h
   have e:cE (ic es n f) (cE es i).u=cE (ic es n f) (cE es i).v:=Decidable.not_not.1 h
   rw[e,Le]
structure pq (es:List Ge) (n:Nat) (f:List Nat):Prop where
 of:∃ o,rE es o/\f=kO es n o
theorem pq.uniq{f a:List Nat}(h:pq es n f)(b:pq es n a):f=a := by
 obtain⟨o,c,rfl⟩:=h
 obtain⟨e, d,rfl⟩:=b
 rw[c.uniq d]
theorem pq.lt{f:List Nat}(h:pq es n f)(hi:i∈f):i<es.length:=by
 obtain⟨o,a,rfl⟩:=h
 exact a.lt ((Ga o).subset hi)
def tj(m k:Nat):List Nat:=List.range k++List.replicate (m-k) 0
theorem aeu{m:Nat}:List.replicate m 0=tj m 0:=by simp[tj]
theorem aer{m:Nat}:tj m m=List.range m:=by simp[tj]
theorem aes{m:Nat}(h:k<=m):(tj m k).length=m:=by simp[tj];omega
theorem aet{m:Nat}(h:k<m):cO (tj m k) k (fun _=>k)=tj m (k+1):=by
 have:=Az (a:=List.range k) (b:=List.replicate (m-(k+1)) 0) (x:=0) (y:=k) (f:=fun _=>k) rfl
 rw[mD]at this
 rw[tj,Cc h,this,tj,rA]
 simp
section
variable{r:Option Nat}{ops:Array Oper}{ds:List Deferred}{s:List (Nat×Value)}{rest:List Oper}{w0:World}{d:Nat}{dd:Option Nat}{T e:TypeId}{ty:TypeId}{pos:String}{af:Array Edge}{g:Option (Nat×Bool)}{x y:Operand}{α:Type}{cf:α->List Value}{ok:Nat->Prop}{ys:List α}{c:α}{sz off off' se by_ m:Nat}{v:Value}{kk:IntKind}
theorem aaz(j:ev n s x=j8 sz v k off)(l:ev n s y = .int kk (i:Nat))(d:P.underlying T=some (.array m e))(ht:TI P e se by_ z)(q:i<m)(h:off+i*se=off')(a:gV sz cf ok w0 v ys)(f:ys[k]? = some c) :
 (execOp (ev n s) ⟨dd,.indexAddr T x y,ty,pos,af,g⟩).run P w = .ok (.value (j8 sz v k off')) w:=by
 obtain⟨b,o,r, p,rfl,_⟩:=a.place f
 subst h
 exact Q2 j l d ht ⟨o_,o_⟩ (by simp only[nX,lW])
theorem vO(j:gA ops n s g=true)(o:ev n s x=j8 sz v k off)(p:ev n s y = .int kk (i:Nat))(f:P.underlying T=some (.array m e))(ht:TI P e se by_ z)(a:i<m)(l:off+i*se=off')(b:gV sz cf ok w0 v ys)(h:ys[k]? = some c)(K:WL r P ops Q rest (Fr n ((d,j8 sz v k off') :: s) ds) w):WL r P ops Q (⟨some d,.indexAddr T x y,ty,pos,af,g⟩ :: rest) (Fr n s ds) w:=pw j (fun _=>aaz o p f ht a l b h) K
end
structure jr where
 a:Nat
 b:Nat
instance:Inhabited jr:=⟨⟨0,0⟩⟩
abbrev jr.cells(x:jr):List Value:=[.int .i64 (x.a:Int),.int .i64 (x.b:Int)]
structure Un (n:Nat) (lb:List Nat) (us:List jr):Prop where
 len:us.length=n
 bl:lb.length=n
 le:∀ i,i<n->(cE us i).a<=i
 xw:∀ i,i<n->cE lb (cE us i).a=cE lb i
 root:∀ i,i<n->(cE us i).a=i->cE lb i=i
 low:∀ i,i<n->cE lb i<=i
 oB:∀ i,i<n->cE lb (cE lb i)=cE lb i
structure vz (n:Nat) (lb:List Nat) (us0:List jr) (a0:Nat) (us:List jr) (i:Nat):Prop where
 un:Un n lb us
 nd:∀ j,(cE us j).b=(cE us0 j).b
 lt:i<n
 la:cE lb i=cE lb a0
theorem vz.start{a:Nat}{b:List jr}(h:Un n lb b)(c:a<n):vz n lb b a b a:=⟨h,fun _=>rfl,c,rfl⟩
theorem vz.half{a0:Nat}{m b us2:List jr}(h:vz n lb m a0 b i)(s:(cE b i).a≠i)(l:us2=cO b i fun x=>{ x with a:=(cE b (cE b i).a).a }) :
 vz n lb m a0 us2 (cE us2 i).a/\(cE us2 i).a<i:=by
 have hi:=h.lt
 have o:=h.un.len
 have p:=h.un.le i hi
 have hp:(cE b i).a<n:=by omega
 have q:=h.un.le _ hp
 have g:=h.un.xw i hi
 have k:=h.un.xw _ hp
 have d:∀ j,cE us2 j=if i=j then { cE b i with a:=(cE b (cE b i).a).a } else cE b j:=fun j=>by rw[l];exact jH o_
 have e1:(cE us2 i).a=(cE b (cE b i).a).a:=by rw[d,if_pos rfl]
 rw[e1]
 refine⟨⟨⟨by rw[l,gd];exact o,h.un.bl,fun j c=>?_,fun j c=>?_,fun j c f=>?_,h.un.low,h.un.oB⟩,fun j=>?_,o_,by rw[k,g];exact h.la⟩,o_⟩
 . rw[d]
   split
   . rename_i e;subst e;show (cE b (cE b i).a).a<=i;omega
   . exact h.un.le j c
 . rw[d]
   split
   . rename_i e;subst e;show cE lb (cE b (cE b i).a).a=_;rw[k,g]
   . exact h.un.xw j c
 . rw[d]at f
   split at f
   . rename_i e
     subst e
     have r:(cE b (cE b i).a).a=i:=f
     omega
   . exact h.un.root j c f
 . rw[d]
   split
   . rename_i e;subst e;exact h.nd i
   . exact h.nd j
variable{d M:List jr}
theorem vz.fin{b:List jr}(h:vz n lb d k b i)(c:(cE b i).a=i):i=cE lb k:=by rw[<-h.la,h.un.root i h.lt c]
theorem Un.join{x a b c:Nat}{f us2:List jr}(h:Un n lb f)(B:x<n)(C:y<n)(ex:cE lb x=x)(s:cE lb y=y)(A:x≠y)(m:a=min x y)(hb:b=max x y)
 (o:us2=cO (cO f b fun z=>{ z with a:=a }) a fun z=>{ z with b:=c }):Un n (jg lb x y) us2/\∀ j,(cE us2 j).b=if j=a then c else(cE f j).b:=by
 have p:=h.len
 have u:a<b:=by omega
 have v:b<n:=by omega
 have w:∀ j,cE us2 j=if a=j then { cE f a with b:=c } else if b=j then { cE f b with a:=a } else cE f j:=by
  grind [jH,gd]
 have k:∀ j,(cE us2 j).a=if b=j then a else(cE f j).a:=by
  grind
 have hm:∀ j,j<n->cE (jg lb x y) j=if cE lb j=b then a else cE lb j:=fun j d=>by rw[rV (by rw[h.bl];exact d),<-m,<-hb]
 have r:cE lb b=b:=by rcases(show b=x\/b=y by omega)with e|e<;>rw[e]<;>assumption
 have q:cE lb a=a:=by rcases(show a=x\/a=y by omega)with e|e<;>rw[e]<;>assumption
 refine⟨⟨by rw[o,gd,gd];exact p,by rw[GM];exact h.bl,fun j d=>?_,fun j d=>?_,fun j d i=>?_,fun j d=>?_,fun j d=>?_⟩,fun j=>?_⟩
 . rw[k]
   split
   . omega
   . exact h.le j d
 . rw[k,hm j d]
   split
   . grind
   . have g:=h.le j d
     rw[hm _ o_,h.xw j d]
 . rw[k]at i
   split at i
   . omega
   . rename_i e
     rw[hm j d]
     have g:=h.root j d i
     rw[g,if_neg (fun l=>e l.symm)]
 . rw[hm j d]
   have g:=h.low j d
   split<;>omega
 . have g:=h.low j d
   have t:=h.oB j d
   rw[hm j d]
   split
   . grind
   . grind
 . grind
structure nJ where
 l:List Int
 r:List Int
 p:List Int
 h:List Int
 s:List Nat
 d:List Nat
def nJ.init(n m:Nat):nJ:=⟨List.replicate m (-1),List.replicate m (-1),List.replicate m (-1),List.replicate m 0,List.replicate n 1++List.replicate (m-n) 0,List.range n⟩
def nJ.step(lb:List Nat)(e:Ge)(x:Nat)(t:nJ):nJ :=
 ⟨cO t.l x (fun _=>((cE t.d (min (cE lb e.u) (cE lb e.v)):Nat):Int)),cO t.r x (fun _=>((cE t.d (max (cE lb e.u) (cE lb e.v)):Nat):Int)),
  cO (cO t.p (cE t.d (min (cE lb e.u) (cE lb e.v))) (fun _=>(x:Int))) (cE t.d (max (cE lb e.u) (cE lb e.v))) (fun _=>(x:Int)),cO t.h x (fun _=>e.w),
  cO t.s x (fun _=>cE t.s (cE t.d (min (cE lb e.u) (cE lb e.v)))+cE t.s (cE t.d (max (cE lb e.u) (cE lb e.v)))),cO t.d (min (cE lb e.u) (cE lb e.v)) (fun _=>x)⟩
def gG(es:List Ge)(n:Nat)(f:List Nat):Nat->nJ
 | 0=>nJ.init n (n+f.length)
 | i+1=>nJ.step (ic es n (f.take i)) (cE es (cE f i)) (n+i) (gG es n f i)
def fO(es:List Ge)(n:Nat)(f:List Nat):nJ:=gG es n f f.length
theorem XO{l:List Nat}{a b:Nat}(h:a≠b):l.count a+l.count b<=l.length:=by
 induction l with
 | nil=>simp
 | cons x l c =>
  grind
theorem ack{x:Nat}(h:x≠y):(jg lb x y).count j=if j=max x y then 0 else if j=min x y then lb.count x+lb.count y else lb.count j:=by
 unfold jg
 induction lb with
 | nil=>simp
 | cons z lb a =>
  grind
structure rG (es:List Ge) (n:Nat) (f:List Nat) (i:Nat) (us:List jr):Prop where
 un:Un n (ic es n (f.take i)) us
 dd:∀ j,j<n->(cE us j).b=cE (gG es n f i).d j
 nd:∀ j,j<n->cE (gG es n f i).d j<n+i
 sz:∀ j,j<n->cE (ic es n (f.take i)) j=j->cE (gG es n f i).s (cE (gG es n f i).d j)=(ic es n (f.take i)).count j
theorem Co{es:List Ge}{n:Nat}{f:List Nat}:∀ i,(gG es n f i).l.length=n+f.length/\(gG es n f i).r.length=n+f.length/\(gG es n f i).p.length=n+f.length/\(gG es n f i).h.length=n+f.length/\(gG es n f i).s.length=n+f.length/\(gG es n f i).d.length=n
 | 0=>by simp[gG,nJ.init]
 | i+1=>by
  have h:=Co (es:=es) (n:=n) (f:=f) i
  simp only[gG,nJ.step,gd]
  exact h
theorem XN(h:j<n):(List.range n).count j=1:=by
 grind
theorem Un.init:Un n (List.range n) ((List.range n).map fun i=>⟨i,i⟩):=by
 have h:∀ i,i<n->cE ((List.range n).map fun i=>(⟨i,i⟩:jr)) i=⟨i,i⟩:=fun i hi=>iW (by rw[lU,pg hi];rfl)
 exact⟨s_,s_,fun i hi=>by rw[h i hi];exact zh _,fun i hi=>by rw[h i hi],fun i hi _=>mY hi,fun i hi=>by rw[mY hi];exact zh _,fun i hi=>by rw[mY hi,mY hi]⟩
theorem rG.start{f:List Nat}:rG es n f 0 ((List.range n).map fun i=>⟨i,i⟩):=by
 have h:∀ i,i<n->cE ((List.range n).map fun i=>(⟨i,i⟩:jr)) i=⟨i,i⟩:=fun i hi=>iW (by rw[lU,pg hi];rfl)
 refine⟨Un.init,fun j a=>?_,fun j a=>?_,fun j a _=>?_⟩
 . rw[h j a];exact(mY a).symm
 . show cE (List.range n) j<n+0
   rw[mY a];omega
 . show cE (List.replicate n 1++List.replicate (n+f.length-n) 0) (cE (List.range n) j)=(List.range n).count j
   rw[mY a,XN a]
   exact iW (by rw[Ev (by simpa using a),sw,if_pos a])
theorem rG.at{n:Nat}{f:List Nat}{i:Nat}{e:List jr}(h:rG es n f i e)(d:lP n es)(hi:i<f.length)(c:∀ k∈f,k<es.length)(b:nt es n (f.take i) (cE f i)) :
 (cE es (cE f i)).u<n/\(cE es (cE f i)).v<n/\cE (ic es n (f.take i)) (cE es (cE f i)).u<n/\cE (ic es n (f.take i)) (cE es (cE f i)).v<n/\cE (ic es n (f.take i)) (cE es (cE f i)).u≠cE (ic es n (f.take i)) (cE es (cE f i)).v:=by
 have a:=d.at (c _ (zg (fW hi)))
 have g:=h.un.low _ a.1
 have j:=h.un.low _ a.2.1
 exact⟨a.1,a.2.1,o_,o_,b⟩
theorem rG.next{f:List Nat}{us2 p:List jr}(h:rG es n f i M)(G:lP n es)(hi:i<f.length)(F:∀ k∈f,k<es.length)(D:nt es n (f.take i) (cE f i))(C:Un n (ic es n (f.take i)) us2)(hb:∀ j,j<n->(cE us2 j).b=cE (gG es n f i).d j)
 (E:p=cO (cO us2 (max (cE (ic es n (f.take i)) (cE es (cE f i)).u) (cE (ic es n (f.take i)) (cE es (cE f i)).v)) fun z=>{ z with a:=min (cE (ic es n (f.take i)) (cE es (cE f i)).u) (cE (ic es n (f.take i)) (cE es (cE f i)).v) }) (min (cE (ic es n (f.take i)) (cE es (cE f i)).u) (cE (ic es n (f.take i)) (cE es (cE f i)).v)) fun z=>{ z with b:=n+i }) :
 rG es n f (i+1) p:=by
 obtain⟨t,w,A,B,m⟩:=h.at G hi F D
 have e1:=h.un.oB _ t
 have r:=h.un.oB _ w
 have o:ic es n (f.take (i+1))=jg (ic es n (f.take i)) (cE (ic es n (f.take i)) (cE es (cE f i)).u) (cE (ic es n (f.take i)) (cE es (cE f i)).v):=by
  rw[nY,fW hi]
  exact Gq
 generalize P:cE (ic es n (f.take i)) (cE es (cE f i)).u=x at *
 generalize Q:cE (ic es n (f.take i)) (cE es (cE f i)).v=y at *
 obtain⟨L,R⟩:=Un.join (c:=n+i) C A B e1 r m rfl rfl E
 have O:=Co (es:=es) (n:=n) (f:=f) i
 have hd:∀ j,cE (gG es n f (i+1)).d j=if min x y=j then n+i else cE (gG es n f i).d j:=by
  grind [gG,nJ.step,jH]
 have hs:∀ j,cE (gG es n f (i+1)).s j=if n+i=j then cE (gG es n f i).s (cE (gG es n f i).d (min x y))+cE (gG es n f i).s (cE (gG es n f i).d (max x y))else cE (gG es n f i).s j:=by
  grind [gG,nJ.step,jH]
 have I:cE (ic es n (f.take i)) (min x y)=min x y:=by rcases EK x y with q|q<;>simp only[uz,Ip,q]<;>assumption
 have H:cE (ic es n (f.take i)) (max x y)=max x y:=by rcases EK x y with q|q<;>simp only[Nat.max_eq_left,Io,q]<;>assumption
 refine⟨o▸L,fun j g=>?_,fun j g=>?_,fun j g l=>?_⟩
 . grind
 . rw[hd]
   have:=h.nd j g
   split<;>omega
 . rw[o]at l ⊢
   rw[ack m,hd]
   rw[rV (by rw[h.un.bl];exact g)]at l
   by_cases e:min x y=j
   . rw[if_pos e,if_neg o_,if_pos e.symm,hs,if_pos rfl,h.sz _ o_ I,h.sz _ o_ H]
     grind
   . rw[if_neg e]
     have J:j≠max x y:=by
      grind
     have K:cE (ic es n (f.take i)) j=j:=by
      split at l
      . rename_i N;omega
      . exact l
     rw[if_neg J,if_neg (fun q=>e q.symm),hs,if_neg (by have:=h.nd j g;omega)]
     exact h.sz j g K
theorem Y6(o:List Nat):∀ i,i<(kO es n o).length->nt es n ((kO es n o).take i) (cE (kO es n o) i):=by
 have h:∀ r:List Nat,∀ i,i<(kO es n r.reverse).length->nt es n ((kO es n r.reverse).take i) (cE (kO es n r.reverse) i):=by
  intro r
  induction r with
  | nil=>intro i hi;simp[kO]at hi
  | cons k r a =>
   grind [J9,kO,cE,iW]
 simpa using h o.reverse
theorem pq.nt{f:List Nat}(h:pq es n f)(hi:i<f.length):nt es n (f.take i) (cE f i):=by
 obtain⟨o,_,rfl⟩:=h
 exact Y6 o i hi
theorem rG.two{f:List Nat}{z:List jr}(h:rG es n f i z)(r:lP n es)(hi:i<f.length)(p:∀ k∈f,k<es.length)(o:nt es n (f.take i) (cE f i)){x:Nat}(t:cE (ic es n (f.take i)) (cE es (cE f i)).u=x)(w:cE (ic es n (f.take i)) (cE es (cE f i)).v=y) :
 cE (gG es n f i).d (min x y)<n+i/\cE (gG es n f i).d (max x y)<n+i/\cE (gG es n f i).s (cE (gG es n f i).d (min x y))+cE (gG es n f i).s (cE (gG es n f i).d (max x y))<=n:=by
 obtain⟨j,m,a,b,g⟩:=h.at r hi p o
 have e1:=h.un.oB _ j
 have e:=h.un.oB _ m
 rw[t]at a g e1
 rw[w]at b g e
 have c:=XO (l:=ic es n (f.take i)) g
 rw[Gn]at c
 rcases EK x y with q|q
 . rw[uz q,Io q,h.sz x a e1,h.sz y b e]
   exact⟨h.nd x a,h.nd y b,c⟩
 . rw[Ip q,Nat.max_eq_left q,h.sz x a e1,h.sz y b e]
   exact⟨h.nd y b,h.nd x a,o_⟩
def oH{α:Type}(x y:α)(m k:Nat):List α:=List.replicate k x++List.replicate (m-k) y
theorem G8{α:Type}{x y:α}{m:Nat}:List.replicate m y=oH x y m 0:=by simp[oH]
theorem LX{α:Type}{x y:α}{m:Nat}:oH x y m m=List.replicate m x:=by simp[oH]
theorem Ty{α:Type}{x y:α}{m:Nat}(h:k<=m):(oH x y m k).length=m:=by simp[oH];omega
theorem G7{α:Type}[Inhabited α]{x y:α}{m k:Nat}(h:k<m):cO (oH x y m k) k (fun _=>x)=oH x y m (k+1):=by
 have:=Az (a:=List.replicate k x) (b:=List.replicate (m-(k+1)) y) (x:=y) (y:=x) (f:=fun _=>x) rfl
 rw[oK]at this
 rw[oH,Cc h,this,oH,List.replicate_succ']
 simp
def tw(n k:Nat):List jr:=((List.range k).map fun i=>⟨i,i⟩)++List.replicate (n-k) ⟨0,0⟩
theorem ahg:List.replicate n (⟨0,0⟩:jr)=tw n 0:=by simp[tw]
theorem ahd:tw n n=(List.range n).map fun i=>⟨i,i⟩:=by simp[tw]
theorem ahe(h:k<=n):(tw n k).length=n:=by simp[tw];omega
theorem ahf(h:k<n):cO (tw n k) k (fun _=>⟨k,k⟩)=tw n (k+1):=by
 have:=Az (a:=(List.range k).map fun i=>(⟨i,i⟩:jr)) (b:=List.replicate (n-(k+1)) ⟨0,0⟩) (x:=⟨0,0⟩) (y:=⟨k,k⟩) (f:=fun _=>⟨k,k⟩) rfl
 rw[zm,mD]at this
 rw[tw,Cc h,this,tw,rA]
 simp
theorem pq.len{f:List Nat}(h:pq es n f):f.length<=es.length:=by
 obtain⟨o,a,rfl⟩:=h
 have:=(Ga (es:=es) (n:=n) o).length_le
 rw[a.len]at this
 exact this
section
variable(es:List Ge)(n:Nat)(f:List Nat)
def nA(i:Nat):Nat:=min (cE (ic es n (f.take i)) (cE es (cE f i)).u) (cE (ic es n (f.take i)) (cE es (cE f i)).v)
def nB(i:Nat):Nat:=max (cE (ic es n (f.take i)) (cE es (cE f i)).u) (cE (ic es n (f.take i)) (cE es (cE f i)).v)
def nL(i:Nat):Nat:=cE (gG es n f i).d (nA es n f i)
def nR(i:Nat):Nat:=cE (gG es n f i).d (nB es n f i)
def gJ(y:Nat):Nat:=if y<n then y else nA es n f (y-n)
end
structure iN (es:List Ge) (n:Nat) (f:List Nat):Prop where
 g:lP n es
 f:pq es n f
theorem iN.MW{es:List Ge}{n:Nat}{f:List Nat}(h:iN es n f):∀ i,i<=f.length->∃ b,rG es n f i b
 | 0,_=>⟨_,rG.start⟩
 | i+1,hi=>by
  obtain⟨b,a⟩:=h.MW i o_
  exact⟨_,a.next h.g o_ (fun k c=>h.f.lt c) (h.f.nt o_) a.un a.dd rfl⟩
theorem iN.st{f:List Nat}(h:iN es n f)(hi:i<f.length) :
 nA es n f i<nB es n f i/\nB es n f i<n/\cE (ic es n (f.take i)) (nA es n f i)=nA es n f i/\cE (ic es n (f.take i)) (nB es n f i)=nB es n f i/\nL es n f i<n+i/\nR es n f i<n+i/\ic es n (f.take (i+1))=jg (ic es n (f.take i)) (nA es n f i) (nB es n f i):=by
 obtain⟨p,a⟩:=h.MW i o_
 have c:=h.f.nt hi
 obtain⟨b1,b2,b3,j,l⟩:=a.at h.g hi (fun k b=>h.f.lt b) c
 obtain⟨d,e,_⟩:=a.two h.g hi (fun k b=>h.f.lt b) c rfl rfl
 have e1:=a.un.oB _ b1
 have m:=a.un.oB _ b2
 have o:ic es n (f.take (i+1))=jg (ic es n (f.take i)) (cE (ic es n (f.take i)) (cE es (cE f i)).u) (cE (ic es n (f.take i)) (cE es (cE f i)).v):=by
  rw[nY,fW hi]
  exact Gq
 unfold nL nR nA nB
 refine⟨o_,o_,?_,?_,d,e,?_⟩
 . grind
 . grind
 . grind [cE,ic,Ld]
structure wK (es:List Ge) (n:Nat) (f:List Nat) (i:Nat):Prop where
 a:∀ x,x<n->cE (gG es n f i).l x = -1/\cE (gG es n f i).r x = -1/\cE (gG es n f i).h x=0/\cE (gG es n f i).s x=1
 b:∀ j,j<i->cE (gG es n f i).l (n+j)=(nL es n f j:Int)/\cE (gG es n f i).r (n+j)=(nR es n f j:Int)/\cE (gG es n f i).h (n+j)=(cE es (cE f j)).w /\
  cE (gG es n f i).s (n+j)=cE (gG es n f i).s (nL es n f j)+cE (gG es n f i).s (nR es n f j)/\cE (gG es n f i).p (nL es n f j)=((n+j:Nat):Int)/\cE (gG es n f i).p (nR es n f j)=((n+j:Nat):Int)
 c:∀ y,y<n+f.length->cE (gG es n f i).p y = -1\/∃ j,j<i/\cE (gG es n f i).p y=((n+j:Nat):Int)/\(y=nL es n f j\/y=nR es n f j)
 e:∀ y,y<n+f.length->cE (gG es n f i).s y<=n
 d:∀ l,l<n->cE (ic es n (f.take i)) l=l->cE (gG es n f i).p (cE (gG es n f i).d l) = -1/\gJ es n f (cE (gG es n f i).d l)=l
theorem wK.start{f:List Nat}:wK es n f 0:=by
 refine⟨fun x d=>?_,fun j c=>by omega,fun y b=>.inl ?_,fun y b=>?_,fun l a _=>?_⟩
 . show cE (List.replicate (n+f.length) (-1)) x = -1/\cE (List.replicate (n+f.length) (-1)) x = -1/\cE (List.replicate (n+f.length) 0) x=0/\cE (List.replicate n 1++List.replicate (n+f.length-n) 0) x=1
   refine⟨xz o_,xz o_,xz o_,iW ?_⟩
   grind
 . exact xz b
 . show cE (List.replicate n 1++List.replicate (n+f.length-n) 0) y<=n
   by_cases h1:y<n
   . rw[iW (x:=1) (by rw[Ev (by simpa using h1),sw,if_pos h1])];omega
   . rw[iW (x:=0) (by rw[Nk (by simp;omega),sw,if_pos (by simp;omega)])];omega
 . show cE (List.replicate (n+f.length) (-1)) (cE (List.range n) l) = -1/\gJ es n f (cE (List.range n) l)=l
   rw[mY a]
   exact⟨xz o_,if_pos a⟩
theorem wK.next{f:List Nat}(h:iN es n f)(hi:i<f.length)(v:wK es n f i):wK es n f (i+1):=by
 obtain⟨s1,s2,s3,K,s5,s6,s7⟩:=h.st hi
 obtain⟨l1,l2,l3,l4,l5,l6⟩:=Co (es:=es) (n:=n) (f:=f) i
 obtain⟨O,F⟩:=v.d _ o_ s3
 obtain⟨P,G⟩:=v.d _ s2 K
 have X:nL es n f i≠nR es n f i:=fun e=>by
  have e1:gJ es n f (nL es n f i)=nA es n f i:=F
  have m:gJ es n f (nR es n f i)=nB es n f i:=G
  rw[e,m]at e1
  omega
 have D:∀ y,cE (gG es n f (i+1)).l y=if n+i=y then(nL es n f i:Int)else cE (gG es n f i).l y:=by
  intro y
  have e1:(gG es n f (i+1)).l=cO (gG es n f i).l (n+i) (fun _=>(nL es n f i:Int)):=rfl
  rw[e1,jH o_]
 have E:∀ y,cE (gG es n f (i+1)).r y=if n+i=y then(nR es n f i:Int)else cE (gG es n f i).r y:=by
  intro y
  have e1:(gG es n f (i+1)).r=cO (gG es n f i).r (n+i) (fun _=>(nR es n f i:Int)):=rfl
  rw[e1,jH o_]
 have th:∀ y,cE (gG es n f (i+1)).h y=if n+i=y then(cE es (cE f i)).w else cE (gG es n f i).h y:=by
  intro y
  have e1:(gG es n f (i+1)).h=cO (gG es n f i).h (n+i) (fun _=>(cE es (cE f i)).w):=rfl
  rw[e1,jH o_]
 have t:∀ y,cE (gG es n f (i+1)).s y=if n+i=y then cE (gG es n f i).s (nL es n f i)+cE (gG es n f i).s (nR es n f i)else cE (gG es n f i).s y:=by
  intro y
  have e1:(gG es n f (i+1)).s=cO (gG es n f i).s (n+i) (fun _=>cE (gG es n f i).s (nL es n f i)+cE (gG es n f i).s (nR es n f i)):=rfl
  rw[e1,jH o_]
 have td:∀ y,cE (gG es n f (i+1)).d y=if nA es n f i=y then n+i else cE (gG es n f i).d y:=by
  intro y
  have e1:(gG es n f (i+1)).d=cO (gG es n f i).d (nA es n f i) (fun _=>n+i):=rfl
  rw[e1,jH o_]
 have A:∀ y,cE (gG es n f (i+1)).p y=if nR es n f i=y then((n+i:Nat):Int)else if nL es n f i=y then((n+i:Nat):Int)else cE (gG es n f i).p y:=by
  intro y
  have e1:(gG es n f (i+1)).p=cO (cO (gG es n f i).p (nL es n f i) fun _=>((n+i:Nat):Int)) (nR es n f i) fun _=>((n+i:Nat):Int):=rfl
  rw[e1,jH (by rw[gd];omega),jH o_]
 refine⟨fun x Y=>?_,fun j hj=>?_,fun y q=>?_,fun y q=>?_,fun l J z=>?_⟩
 . rw[D,E,th,t,if_neg o_,if_neg o_,if_neg o_,if_neg o_]
   exact v.a x Y
 . by_cases e:j=i
   . subst e
     refine⟨by rw[D,if_pos rfl],by rw[E,if_pos rfl],by rw[th,if_pos rfl],?_,?_,by rw[A,if_pos rfl]⟩
     . rw[t,t,t,if_pos rfl,if_neg o_,if_neg o_]
     . rw[A,if_neg (fun e=>X e.symm),if_pos rfl]
   . have R : j<i:=by omega
     obtain⟨b1,b2,b3,L,M,N⟩:=v.b j R
     obtain⟨_,_,_,_,Z,q6,_⟩:=h.st (show j<f.length by omega)
     have k1:∀ y,cE (gG es n f i).p y=((n+j:Nat):Int)->cE (gG es n f (i+1)).p y=((n+j:Nat):Int):=by
      intro y q
      rw[A,if_neg,if_neg,q]
      . intro m;rw[<-m]at q;have o:cE (gG es n f i).p (nL es n f i) = -1:=O;rw[o]at q;omega
      . intro m;rw[<-m]at q;have o:cE (gG es n f i).p (nR es n f i) = -1:=P;rw[o]at q;omega
     rw[D,E,th,t,t,t,if_neg o_,if_neg o_,if_neg o_,if_neg o_,if_neg o_,if_neg o_]
     exact⟨b1,b2,b3,L,k1 _ M,k1 _ N⟩
 . rw[A]
   by_cases e1:nR es n f i=y
   . exact .inr ⟨i,o_,by rw[if_pos e1],.inr e1.symm⟩
   . rw[if_neg e1]
     by_cases m:nL es n f i=y
     . exact .inr ⟨i,o_,by rw[if_pos m],.inl m.symm⟩
     . rw[if_neg m]
       rcases v.c y q with u|⟨j,u,H,I⟩
       . exact .inl u
       . exact .inr ⟨j,o_,H,I⟩
 . rw[t]
   split
   . obtain⟨us,u⟩:=h.MW i o_
     exact(u.two h.g hi (fun k S=>h.f.lt S) (h.f.nt hi) rfl rfl).2.2
   . exact v.e y q
 . rw[s7,rV (by rw[Gn];exact J)]at z
   have W:max (nA es n f i) (nB es n f i)=nB es n f i:=by omega
   have V:min (nA es n f i) (nB es n f i)=nA es n f i:=by omega
   rw[W,V]at z
   rw[td]
   by_cases e:nA es n f i=l
   . rw[if_pos e]
     refine⟨?_,?_⟩
     . rw[A,if_neg o_,if_neg o_]
       rcases v.c (n+i) o_ with u|⟨j,u,H,I⟩
       . exact u
       . obtain⟨_,_,_,_,Z,q6,_⟩:=h.st (show j<f.length by omega)
         omega
     . unfold gJ
       rw[if_neg o_,show n+i-n=i by omega]
       exact e
   . rw[if_neg e]
     have T:cE (ic es n (f.take i)) l=l:=by
      split at z
      . exact absurd z e
      . exact z
     have U:l≠nB es n f i:=by
      intro o
      rw[if_pos (by rw[o];exact K)]at z
      exact e z
     obtain⟨Q,B⟩:=v.d l J T
     refine⟨?_,B⟩
     rw[A,if_neg,if_neg,Q]
     . intro o
       rw[<-o]at B
       have C:gJ es n f (nL es n f i)=nA es n f i:=F
       exact e (C.symm.trans B)
     . intro o
       rw[<-o]at B
       have C:gJ es n f (nR es n f i)=nB es n f i:=G
       exact U (B.symm.trans C)
theorem iN.vK{es:List Ge}{n:Nat}{f:List Nat}(h:iN es n f):∀ i,i<=f.length->wK es n f i
 | 0,_=>wK.start
 | i+1,hi=>(h.vK i o_).next h o_
theorem iN.v{f:List Nat}(h:iN es n f):wK es n f f.length:=h.vK _ (zh _)
theorem iN.xm{f:List Nat}(h:iN es n f)(hi:i<f.length):gJ es n f (nL es n f i)=nA es n f i/\gJ es n f (nR es n f i)=nB es n f i/\gJ es n f (n+i)=nA es n f i:=by
 obtain⟨s1,s2,s3,a,b,c,e⟩:=h.st hi
 have v:=h.vK i o_
 refine⟨(v.d _ o_ s3).2,(v.d _ s2 a).2,?_⟩
 grind [gJ]
theorem pq.kN{f:List Nat}(h:pq es n f)(hi:i+1<f.length):(cE es (cE f i)).w<=(cE es (cE f (i+1))).w:=by
 obtain⟨o,a,rfl⟩:=h
 have b:=a.Mq.sublist (Ga (es:=es) (n:=n) o)
 have c:=(yB.1 b) i (i+1) o_ hi o_
 rw[iW (zy (show i<(kO es n o).length by omega)),iW (zy hi)]
 unfold uf at c
 omega
theorem abe{L:List Nat}{p:Nat->Bool}(x:Nat)(a:x∈L)(hp:p x=true)(c:q x=false)(h:∀ l∈L,q l=true->p l=true):(L.filter q).length<(L.filter p).length:=by
 induction L with
 | nil=>cases a
 | cons y L d =>
  have b:∀ M:List Nat,(∀ l∈M,q l=true->p l=true)->(M.filter q).length<=(M.filter p).length:=by
   intro M
   induction M with
   | nil=>intro _;exact zh _
   | cons z M e =>
    grind
  grind
theorem pq.room{f:List Nat}(h:pq es n f)(b:lP n es):f.length<=n:=by
 have a:iN es n f:=⟨b,h⟩
 -- each step makes one label less
 have key:∀ i,i<=f.length->i+((List.range n).filter fun l=>decide (cE (ic es n (f.take i)) l=l)).length<=n:=by
  intro i
  induction i with
  | zero=>intro _;have:=qU (fun l=>decide (cE (ic es n (f.take 0)) l=l)) (List.range n);rw[mD]at this;omega
  | succ i c =>
   intro hi
   have e:=c o_
   obtain⟨s1,s2,s3,d,p,q,r⟩:=a.st (show i<f.length by omega)
   have o:max (nA es n f i) (nB es n f i)=nB es n f i:=by omega
   have m:min (nA es n f i) (nB es n f i)=nA es n f i:=by omega
   have g:((List.range n).filter fun l=>decide (cE (ic es n (f.take (i+1))) l=l)).length<((List.range n).filter fun l=>decide (cE (ic es n (f.take i)) l=l)).length:=by
    refine abe (nB es n f i) (lV.2 s2) (by simpa using d) ?_ fun l k j=>?_
    . grind [rV,Gn]
    . grind [rV,Gn]
   omega
 have:=key f.length (zh _)
 omega
theorem iN.inner{f:List Nat}(h:iN es n f)(hi:i<f.length) :
 (fO es n f).l[n+i]? = some (nL es n f i:Int)/\(fO es n f).r[n+i]? = some (nR es n f i:Int)/\(fO es n f).h[n+i]? = some (cE es (cE f i)).w/\(fO es n f).p[nL es n f i]? = some ((n+i:Nat):Int)/\(fO es n f).p[nR es n f i]? = some ((n+i:Nat):Int) /\
 cE (fO es n f).s (n+i)=cE (fO es n f).s (nL es n f i)+cE (fO es n f).s (nR es n f i)/\cE (fO es n f).s (n+i)<=n/\nL es n f i<n+i/\nR es n f i<n+i/\nL es n f i≠nR es n f i:=by
 obtain⟨l1,o,q,t,u,x⟩:=Co (es:=es) (n:=n) (f:=f) f.length
 obtain⟨b1,b2,b3,a,c,d⟩:=h.v.b i hi
 obtain⟨s1,s2,s3,y,j,k,z⟩:=h.st hi
 obtain⟨k1,g,m⟩:=h.xm hi
 refine⟨?_,?_,?_,?_,?_,a,h.v.e _ o_,j,k,fun e=>?_⟩
 . rw[<-b1];exact fW (by show n+i<(gG es n f f.length).l.length;omega)
 . rw[<-b2];exact fW (by show n+i<(gG es n f f.length).r.length;omega)
 . rw[<-b3];exact fW (by show n+i<(gG es n f f.length).h.length;omega)
 . rw[<-c];exact fW (by show nL es n f i<(gG es n f f.length).p.length;omega)
 . rw[<-d];exact fW (by show nR es n f i<(gG es n f f.length).p.length;omega)
 . rw[e,g]at k1;omega
theorem mK{f:List Nat}:(fO es n f).l.length=n+f.length/\(fO es n f).r.length=n+f.length/\(fO es n f).p.length=n+f.length/\(fO es n f).h.length=n+f.length/\(fO es n f).s.length=n+f.length:=by
 obtain⟨l1,a,b,c,d,e⟩:=Co (es:=es) (n:=n) (f:=f) f.length
 exact⟨l1,a,b,c,d⟩
theorem iN.par{f:List Nat}(h:iN es n f)(b:y<n+f.length):(fO es n f).p[y]? = some (-1)\/∃ j,j<f.length/\(fO es n f).p[y]? = some ((n+j:Nat):Int)/\(y=nL es n f j\/y=nR es n f j):=by
 have g:=(mK (es:=es) (n:=n) (f:=f)).2.2.1
 rcases h.v.c y b with a|⟨j,a,d,e⟩
 . grind [fW,fO]
 . grind [fW,fO]
def Qu(v:Value):List Value:=[v]
def oD(es:List Ge)(n:Nat)(f:List Nat)(m k:Nat):List Nat:=(List.range k).map (gJ es n f)++List.replicate (m-k) 0
theorem aa9{m:Nat}{f:List Nat}:List.replicate m 0=oD es n f m 0:=by simp[oD]
theorem aa6{m:Nat}{f:List Nat}:oD es n f m m=(List.range m).map (gJ es n f):=by simp[oD]
theorem aa7{m:Nat}{f:List Nat}(h:k<=m):(oD es n f m k).length=m:=by simp[oD];omega
theorem Ru{m c:Nat}{f:List Nat}(hk:k<=m)(h:j<k):(cO (oD es n f m k) k fun _=>c)[j]? = some (gJ es n f j):=by
 grind [cO,oD]
theorem Rv{m c:Nat}{f:List Nat}(h:k<m)(hc:c=gJ es n f k):cO (oD es n f m k) k (fun _=>c)=oD es n f m (k+1):=by
 have:=Az (a:=(List.range k).map (gJ es n f)) (b:=List.replicate (m-(k+1)) 0) (x:=0) (y:=c) (f:=fun _=>c) rfl
 rw[zm,mD]at this
 rw[oD,Cc h,this,oD,rA,hc]
 simp
theorem aa8{m c d:Nat}{f:List Nat}(h:k<m)(hc:c=gJ es n f k):cO (cO (oD es n f m k) k (fun _=>d)) k (fun _=>c)=oD es n f m (k+1):=by
 rw[<-Rv h hc]
 unfold cO
 rw[List.set_set]
theorem St.aaI{L:List fJ}{w w0:World}{b:Nat}{T:TypeId}{cs:List Value}(h:St bs L w)(hb:(w0,[])∈bs)(a:(blk b T cs).holds w0):(blk b T cs).holds w :=
 (blk b T cs).loc w0 w (fun c d => h.keep hb (by
  have e:c = b:=by simpa[blk]using d
  subst e
  exact(su.1 a).1) pn) a
structure Mg where
 a:Nat
 b:Nat
 h:Int
 s:Nat
instance:Inhabited Mg:=⟨⟨0,0,0,0⟩⟩
abbrev Mg.cells(x:Mg):List Value:=[.int .i64 (x.a:Int),.int .i64 (x.b:Int),.int .i64 x.h,.int .i64 1,.int .i64 (x.s:Int)]
def K9(es:List Ge)(n:Nat)(f:List Nat)(i:Nat):Mg:=⟨nA es n f i,nB es n f i,(cE es (cE f i)).w,cE (fO es n f).s (n+i)⟩
def pR(es:List Ge)(n:Nat)(f:List Nat)(k:Nat):List Mg:=(List.range k).map (K9 es n f)
theorem ab5{f:List Nat}:pR es n f (k+1)=pR es n f k++[K9 es n f k]:=by unfold pR;rw[rA,ni];rfl
theorem R7{f:List Nat}:(pR es n f k).length=k:=by simp[pR]
theorem Rw{m:Nat}{f:List Nat}(h:j<m):((List.range m).map (gJ es n f))[j]? = some (gJ es n f j):=by rw[lU,pg h];rfl
structure kM (ps:List Int):Prop where
 up:∀ i,i<ps.length->cE ps i<0\/(i:Int)<cE ps i/\cE ps i<(ps.length:Int)
def fV(ps:List Int)(i:Nat):Nat:=if h:(i:Int)<cE ps i/\i<ps.length then fV ps (cE ps i).toNat+1 else 0
termination_by ps.length-i
decreasing_by omega
def j9(ps:List Int)(k i:Nat):List Nat:=(List.range k).filter fun j=>decide (cE ps j=(i:Int))
def pU(ps:List Int)(k:Nat):List Nat:=(List.range k).filter fun j=>decide (cE ps j<0)
variable{ps:List Int}
theorem aeB(h:cE ps k<0):pU ps (k+1)=pU ps k++[k]:=by simp[pU,rA,qy,h]
theorem aeA(h:¬ cE ps k<0):pU ps (k+1)=pU ps k:=by simp[pU,rA,qy,h]
theorem Rg:j9 ps (k+1) i=if cE ps k=(i:Int)then j9 ps k i++[k]else j9 ps k i:=by
 unfold j9
 rw[rA,qy]
 split<;>rename_i h<;>simp[h]
theorem aaN(h:cE ps k<0):j9 ps (k+1) i=j9 ps k i:=by rw[Rg,if_neg o_]
theorem R6:j∈j9 ps k i↔j<k/\cE ps j=(i:Int):=by simp[j9]
theorem GJ:j∈pU ps k↔j<k/\cE ps j<0:=by simp[pU]
theorem aaM:(j9 ps k i).Nodup:=uy.sublist pe
theorem aez:(pU ps k).Nodup:=uy.sublist pe
theorem aey:(pU ps k).length<=k:=kS (qU _ _) s_
theorem Rf:(j9 ps k i).length<=k:=kS (qU _ _) s_
theorem FX(h:cE ps i<0):fV ps i=0:=by rw[fV,dif_neg o_]
theorem BE(hp:kM ps)(a:j<ps.length)(h:cE ps j=(i:Int)):fV ps j=fV ps i+1:=by
 have b:=hp.up j a
 rw[fV,dif_pos o_,h]
 rfl
theorem JS:fV ps i<=ps.length-i:=by
 induction hm:ps.length-i using Nat.strongRecOn generalizing i with
 | _ m a =>
  grind [fV,cE]
structure Bf (ps:List Int) (i j:Nat) (od:List Nat) (dp:List Nat):Prop where
 nd:od.Nodup
 lt:∀ x∈od,x<ps.length
 len:dp.length=ps.length
 mem:∀ x,x<ps.length->(x∈od↔cE ps x<0\/(∃ p∈od.take i,cE ps x=(p:Int))\/i<od.length/\x∈(j9 ps ps.length (cE od i)).take j)
 dep:∀ x∈od,cE dp x=fV ps x
 Kt:i<=od.length
 zero:∀ x,x<ps.length->x∉od->cE dp x=0
variable{od dp:List Nat}
theorem Bf.Ls(h:Bf ps i j od dp):od.length<=ps.length:=B7 _ _ h.nd h.lt
theorem Bf.start:Bf ps 0 0 (pU ps ps.length) (List.replicate ps.length 0) where
 nd:=aez
 lt x hx:=(GJ.1 hx).1
 len:=by simp
 mem x hx:=by simp[GJ,hx]
 dep x hx:=by
  rw[FX (GJ.1 hx).2]
  exact iW (by simp[(GJ.1 hx).1])
 Kt:=by simp
 zero x hx _:=iW (by simp[hx])
theorem Bf.new(h:Bf ps i j od dp)(hi:i<od.length){c:Nat}(hc:(j9 ps ps.length (cE od i))[j]? = some c):c<ps.length/\cE ps c=((cE od i:Nat):Int)/\c∉od:=by
 obtain⟨d,f⟩:=R6.1 (zg hc)
 refine⟨d,f,fun hm=>?_⟩
 rcases(h.mem c d).1 hm with b|⟨p,hp,b⟩|⟨_,b⟩
 . omega
 . have k:p=cE od i:=by omega
   subst k
   have e:=h.nd
   rw[<-wA i od]at e
   have g:cE od i∈od.drop i:=zg (i:=0) (by rw[Ih,sD];exact fW hi)
   exact(zo.1 e).2.2 _ hp _ g rfl
 . obtain⟨q,a⟩:=List.mem_iff_getElem?.1 b
   rw[yD]at a
   split at a
   . rename_i m
     obtain⟨l,n⟩:=zp.1 a
     have:=(List.getElem?_inj l aaM).1 (a.trans hc.symm)
     omega
   . cases a
theorem Bf.xm(hp:kM ps)(h:Bf ps i j od dp)(hi:i<od.length){c:Nat}(hc:(j9 ps ps.length (cE od i))[j]? = some c) :
 Bf ps i (j+1) (od++[c]) (cO dp c (fun _=>cE dp (cE od i)+1)):=by
 obtain⟨d,f,g⟩:=h.new hi hc
 have k:cE (od++[c]) i=cE od i:=iW (by rw[Ev hi];exact fW hi)
 refine⟨?_,?_,by rw[gd];exact h.len,?_,?_,by rw[zk];have:=h.Kt;omega,?_⟩
 . refine zo.2 ⟨h.nd,s_,?_⟩
   grind
 . intro x b
   rcases zj.1 b with a|a
   . exact h.lt x a
   . grind
 . intro x b
   rw[k,Np o_,nY,hc]
   simp only[zj,z8,Option.toList_some,zk,CD]
   rw[h.mem x b]
   constructor
   . grind
   . grind
 . intro x b
   rcases zj.1 b with a|a
   . have m:c≠x:=fun e=>g (e▸a)
     rw[k6 m]
     exact h.dep x a
   . simp only[z8]at a
     subst a
     rw[jQ (by rw[h.len];exact d),BE hp d f,h.dep _ (zg (fW hi))]
 . intro x b l
   have a:x∉od/\x≠c:=by simpa using l
   rw[k6 (Ne.symm a.2)]
   exact h.zero x b a.1
theorem Bf.next(h:Bf ps i j od dp)(hi:i<od.length)(a:(j9 ps ps.length (cE od i)).length<=j):Bf ps (i+1) 0 od dp:=by
 refine⟨h.nd,h.lt,h.len,fun x b=>?_,h.dep,hi,h.zero⟩
 rw[h.mem x b,AP a,nY,fW hi]
 grind [R6]
theorem Bf.all(hp:kM ps)(h:Bf ps od.length 0 od dp):∀ x,x<ps.length->x∈od:=by
 intro x
 induction hm:ps.length-x using Nat.strongRecOn generalizing x with
 | _ m d =>
  intro b
  rw[h.mem x b]
  rcases hp.up x b with a|⟨a,c⟩
  . exact .inl a
  . refine .inr (.inl ⟨(cE ps x).toNat,?_,o_⟩)
    grind
theorem Bf.fin(hp:kM ps)(h:Bf ps od.length 0 od dp):od.length=ps.length/\dp=(List.range ps.length).map (fV ps):=by
 refine⟨Nat.le_antisymm h.Ls ?_,?_⟩
 . have b:=DQ (List.range ps.length) od uy fun x a=>h.all hp x (lV.1 a)
   simpa using b
 . apply mS
   intro x
   by_cases a:x<ps.length
   . rw[fW (by rw[h.len];exact a),h.dep x (h.all hp x a)]
     simp[a]
   . rw[nW (by rw[h.len];omega),nW (by simp;omega)]
def pO(f:Nat->Int)(n k:Nat):List Int:=(List.range k).map f++List.replicate (n-k) 0
section
variable{f:Nat->Int}
theorem YU(h:k<=n):(pO f n k).length=n:=by simp[pO];omega
theorem YW:pO f n 0=List.replicate n 0:=by simp[pO]
theorem YT:pO f n n=(List.range n).map f:=by simp[pO]
theorem YV(h:k<n):cO (pO f n k) k (fun _=>f k)=pO f n (k+1):=by
 unfold pO cO
 rw[List.set_append_right _ _ s_,rA,ni,z6]
 simp only[zm,mD,Nat.sub_self,mh,CS]
 obtain⟨m,hm⟩:∃ m,n-k=m+1:=⟨n-k-1,o_⟩
 grind
theorem K3{α:Type}[Inhabited α]{g:Nat->α}(h:j<n):cE ((List.range n).map g) j=g j:=iW (by simp[h])
end
def kU(ps:List Int):Nat->Nat->Int
 | 0,v=>cE ps v
 | k+1,v=>if 0<=kU ps k v then kU ps k (kU ps k v).toNat else kU ps k v
def jM(ps:List Int)(k:Nat):List Int:=(List.range ps.length).map (kU ps k)
section
variable{v:Nat}
theorem KC(hp:kM ps)(hv:v<ps.length):kU ps k v<0\/(v:Int)<kU ps k v/\kU ps k v<(ps.length:Int):=by
 induction k generalizing v with
 | zero=>exact hp.up v hv
 | succ k a =>
  grind [kU]
theorem Gk(h:0<=kU ps k v):kU ps (k+1) v=kU ps k (kU ps k v).toNat:=by
 grind [kU]
theorem KD(h:¬ 0<=kU ps k v):kU ps (k+1) v=kU ps k v:=by
 grind [kU]
theorem BU:(jM ps k).length=ps.length:=by simp[jM]
theorem vP(h:v<ps.length):cE (jM ps k) v=kU ps k v:=K3 h
theorem aaE:jM ps 0=ps:=by
 apply mS
 intro j
 by_cases hj:j<ps.length
 . rw[fW hj,fW (by rw[BU];exact hj),vP hj]
   rfl
 . grind [BU]
theorem aaG(hp:kM ps)(hv:v<ps.length)(h:0<=cE (jM ps k) v):cE (jM ps k) (cE (jM ps k) v).toNat=kU ps (k+1) v:=by
 rw[vP hv]at h ⊢
 rw[Gk h,vP]
 have:=KC hp hv (k:=k)
 omega
theorem aaF(hv:v<ps.length)(h:¬ 0<=cE (jM ps k) v):cE (jM ps k) v=kU ps (k+1) v:=by
 rw[vP hv]at h ⊢
 rw[KD h]
theorem J5{f:Nat->Int}(h:v<n)(a:x=f v):cO (pO f n v) v (fun _=>x)=pO f n (v+1):=by
 rw[a];exact YV h
end
section
variable{l:List (Value×List Int)}{q:Nat}{v:Value}
theorem YE{α:Type}[Inhabited α]{l:List α}(h:q<k):cE (l.eraseIdx k) q=cE l q:=by
 grind [cE]
theorem aaD(a:l.length=n)(hk:k<n)(h:∀ q,q<k->(cE l q).2=jM ps q):∀ q,q<k+1->(cE (cO l k (fun _=>(v,jM ps k))) q).2=jM ps q:=by
 grind [jH]
end
def jK(ps hs:List Int)(T:Int)(x:Nat):Nat:=if h:((x:Int)<cE ps x/\x<ps.length)/\cE hs (cE ps x).toNat<=T then jK ps hs T (cE ps x).toNat else x
termination_by ps.length-x
decreasing_by omega
section
variable{hs:List Int}{x:Nat}
theorem FU(hp:kM ps)(a:x<ps.length)(h:0<=cE ps x)(b:cE hs (cE ps x).toNat<=T):jK ps hs T x=jK ps hs T (cE ps x).toNat:=by
 have:=hp.up x a
 rw[jK,dif_pos ⟨⟨o_,a⟩,b⟩]
theorem FR(h:¬ (0<=cE ps x/\cE hs (cE ps x).toNat<=T)):jK ps hs T x=x:=by
 grind [jK]
theorem JL(a:x<ps.length)(hp:kM ps):jK ps hs T x<ps.length:=by
 induction hm:ps.length-x using Nat.strongRecOn generalizing x with
 | _ m c =>
  by_cases h:0<=cE ps x/\cE hs (cE ps x).toNat<=T
  . have b:=hp.up x a
    grind [FU,cE]
  . rw[FR h]
    exact a
end
theorem Q3{l:List (Value×List Int)}(h:l.length=13):l.flatMap jd=[(cE l 0).1,(cE l 1).1,(cE l 2).1,(cE l 3).1,(cE l 4).1,(cE l 5).1,(cE l 6).1,(cE l 7).1,(cE l 8).1,(cE l 9).1,(cE l 10).1,(cE l 11).1,(cE l 12).1]:=by
 match l,h with
 | [a0,a1,a2,a3,a4,a5,a6,a7,a8,a9,a10,a11,a12],_=>rfl
theorem iN.SG{f:List Nat}(h:iN es n f)(c:y<n+f.length):cE (fO es n f).p y = -1\/(y:Int)<cE (fO es n f).p y/\cE (fO es n f).p y<((n+f.length:Nat):Int):=by
 rcases h.par c with a|⟨j,a,b,i⟩
 . exact .inl (iW a)
 . have e:=iW b
   obtain⟨_,_,_,_,_,_,_,d,g,_⟩:=h.inner a
   grind
theorem iN.rY{f:List Nat}(h:iN es n f):kM (fO es n f).p :=
 ⟨fun i hi=>by
  have c:=(mK (es:=es) (n:=n) (f:=f)).2.2.1
  rcases h.SG (y:=i) o_ with a|⟨a,b⟩
  . exact .inl o_
  . exact .inr ⟨a,o_⟩⟩
theorem iN.Lz{f:List Nat}(h:iN es n f):∀ i,i<(fO es n f).p.length -> -1<=cE (fO es n f).p i:=fun i hi=>by
 have c:=(mK (es:=es) (n:=n) (f:=f)).2.2.1
 rcases h.SG (y:=i) o_ with a|⟨a,b⟩<;>omega
def lM(es:List Ge)(n:Nat)(f:List Nat)(T:Int)(x:Nat):List Nat :=
 (List.range (n+f.length)).map fun y=>if x<=y then gJ es n f (jK (fO es n f).p (fO es n f).h T y)else gJ es n f y
def iI(es:List Ge)(n:Nat)(f:List Nat)(T:Int):List Nat:=(List.range n).map fun y=>gJ es n f (jK (fO es n f).p (fO es n f).h T y)
section
variable{f:List Nat}{x:Nat}
theorem zM:(lM es n f T x).length=n+f.length:=by simp[lM]
theorem aa0:(iI es n f T).length=n:=by simp[iI]
theorem KJ(h:y<n+f.length):cE (lM es n f T x) y=if x<=y then gJ es n f (jK (fO es n f).p (fO es n f).h T y)else gJ es n f y:=by
 unfold lM
 rw[K3 h]
theorem aaX:lM es n f T (n+f.length)=(List.range (n+f.length)).map (gJ es n f):=by
 unfold lM
 refine wB fun y a=>?_
 rw[if_neg (by rw[lV]at a;omega)]
theorem aaY(h:f.length<=f.length):(lM es n f T 0).take n=iI es n f T:=by
 unfold lM iI
 rw[<-List.map_take,List.take_range,uz o_]
 refine wB fun y _=>?_
 rw[if_pos (ko _)]
theorem Ri(b:iN es n f)(h:x<n+f.length)(a:¬ (0<=cE (fO es n f).p x/\cE (fO es n f).h (cE (fO es n f).p x).toNat<=T)):lM es n f T (x+1)=lM es n f T x:=by
 unfold lM
 refine wB fun y c=>?_
 by_cases e:y=x
 . subst e
   rw[if_neg o_,if_pos (zh _),FR a]
 . by_cases h1:x<=y
   . rw[if_pos h1,if_pos o_]
   . rw[if_neg h1,if_neg o_]
theorem aaZ(a:iN es n f)(h:x<n+f.length)(d:0<=cE (fO es n f).p x)(g:cE (fO es n f).h (cE (fO es n f).p x).toNat<=T) :
 (cE (fO es n f).p x).toNat<n+f.length/\cO (lM es n f T (x+1)) x (fun _=>cE (lM es n f T (x+1)) (cE (fO es n f).p x).toNat)=lM es n f T x:=by
 obtain⟨i,j,k,l,m⟩:=mK (es:=es) (n:=n) (f:=f)
 have o:=a.rY.up x o_
 have b:(cE (fO es n f).p x).toNat<n+f.length:=by omega
 refine⟨b,?_⟩
 rw[KJ b,if_pos o_]
 apply mS
 intro y
 by_cases hy:y<n+f.length
 . have e1:(cO (lM es n f T (x+1)) x fun _=>gJ es n f (jK (fO es n f).p (fO es n f).h T (cE (fO es n f).p x).toNat))[y]? = some (cE (cO (lM es n f T (x+1)) x fun _=>gJ es n f (jK (fO es n f).p (fO es n f).h T (cE (fO es n f).p x).toNat)) y):=fW (by rw[gd,zM];exact hy)
   have c:(lM es n f T x)[y]? = some (cE (lM es n f T x) y):=fW (by rw[zM];exact hy)
   rw[e1,c,jH (by rw[zM];exact h),KJ hy,KJ hy]
   by_cases e:x=y
   . subst e
     rw[if_pos rfl,if_pos (zh _),FU a.rY o_ d g]
   . rw[if_neg e]
     by_cases h1:x<=y
     . rw[if_pos h1,if_pos o_]
     . rw[if_neg h1,if_neg o_]
 . rw[nW (by rw[gd,zM];omega),nW (by rw[zM];omega)]
end
structure tH (lab:List Nat) (m:List (Int×Nat)):Prop where
 nd:(m.map Prod.fst).Nodup
 get:∀ x:Nat,fS m (x:Int)=lab.count x
 mem:∀ a,a∈m.map Prod.fst↔∃ x,x∈lab/\a=(x:Int)
theorem tH.start:tH [] []:=⟨yE,fun x=>rfl,fun a=>by simp⟩
theorem tH.next{lab:List Nat}{m:List (Int×Nat)}(h:tH lab m)(x:Nat):tH (lab++[x]) (gr m (x:Int) (lab.count x+1)):=by
 refine⟨DO h.nd _ _,fun y=>?_,fun a=>?_⟩
 . have b:=h.get y
   unfold fS at b ⊢
   rw[xx,List.count_append]
   by_cases e:x=y
   . subst e
     rw[if_pos rfl]
     simp
   . rw[if_neg o_,b]
     simp[e]
 . rw[Re]
   split
   . rename_i hm
     rw[h.mem]
     constructor
     . rintro⟨z,c,e⟩;exact⟨z,by simp[c],e⟩
     . rintro⟨z,c,e⟩
       rcases zj.1 c with b|b
       . exact⟨z,b,e⟩
       . rw[z8]at b
         subst b
         obtain⟨y,f,d⟩:=(h.mem _).1 hm
         exact⟨y,f,by rw[e,d]⟩
   . rw[zj,h.mem,z8]
     constructor
     . rintro(⟨z,c,e⟩|e)
       . exact⟨z,by simp[c],e⟩
       . exact⟨x,s_,e⟩
     . rintro⟨z,c,e⟩
       rcases zj.1 c with b|b
       . exact .inl ⟨z,b,e⟩
       . rw[z8]at b
         subst b
         exact .inr e
def kf(n:Nat)(lab:List Nat):List Nat:=(List.range n).filter fun x=>decide (x∈lab)
structure Gp where
 l:Nat
 s:Nat
instance:Inhabited Gp:=⟨⟨0,0⟩⟩
def Gp.cells(x:Gp):List Value:=[.int .i64 x.l,.int .i64 x.s]
def oN(n:Nat)(lab:List Nat):List Gp:=(kf n lab).map fun x=>⟨x,lab.count x⟩
theorem OY{x:Nat}{lab:List Nat}(h:x∈kf n lab):x<n/\x∈lab:=by
 unfold kf at h
 rw[z7,lV]at h
 exact⟨h.1,by simpa using h.2⟩
theorem Jj{lab:List Nat}:(kf n lab).length<=n:=kS (qU _ _) s_
theorem tH.keys{lab:List Nat}{m:List (Int×Nat)}(h:tH lab m)(f:∀ x∈lab,x<n){e ys:List Int}(hp:e.Perm (m.map Prod.fst))(d:ys.Perm e)(hs:nr ys ys.length):ys=gi (kf n lab):=by
 have g:ys.Nodup:=(d.trans hp).nodup_iff.2 h.nd
 refine O3 (hs.kN g) ?_ fun a=>?_
 . unfold gi kf
   rw[Ij]
   exact(Nq.sublist pe).imp fun {a b} i=>by omega
 . rw[(d.trans hp).mem_iff,h.mem]
   unfold gi
   rw[zq]
   constructor
   . rintro⟨x,c,rfl⟩
     exact⟨x,by unfold kf;rw[z7,lV];exact⟨f x c,by simpa using c⟩,rfl⟩
   . rintro⟨x,c,rfl⟩
     exact⟨x,(OY c).2,rfl⟩
theorem tH.len{lab:List Nat}{m:List (Int×Nat)}(h:tH lab m)(d:∀ x∈lab,x<n):m.length<=n:=by
 have b:(m.map Prod.fst).length<=((List.range n).map fun i:Nat=>(i:Int)).length:=zV _ _ h.nd fun a c=>by
  obtain⟨x,e,rfl⟩:=(h.mem a).1 c
  exact zq.2 ⟨x,lV.2 (d x e),rfl⟩
 simpa using b
theorem Rj{f:List Nat}(a:iN es n f):∀ x∈iI es n f T,x<n:=by
 intro x b
 unfold iI at b
 obtain⟨y,c,rfl⟩:=zq.1 b
 rw[lV]at c
 obtain⟨g,j,k,l,m⟩:=mK (es:=es) (n:=n) (f:=f)
 have d:=JL (hs:=(fO es n f).h) (T:=T) (x:=y) (ps:=(fO es n f).p) o_ a.rY
 unfold gJ
 split
 . assumption
 . rename_i e
   have:=a.st (i:=jK (fO es n f).p (fO es n f).h T y-n) o_
   omega
def pN{α:Type}(cf:α->List Value)(sz:Nat)(e:TypeId)(m:List (Int×(Value×List α))):fJ:=fN (m.map fun p=>cL cf p.2.1 e sz p.2.2)
section
variable{α:Type}{cf:α->List Value}{L:List fJ}{e:TypeId}{sz:Nat}{m:List (Int×(Value×List α))}{a:Int}
theorem St.Qp{a:List (Int×(Value×List α))}(h:St bs (pN cf sz e m :: L) w)(hp:m.Perm a):St bs (pN cf sz e a :: L) w :=
 St.pack _ _ ((St.unpack h).perm ((hp.map _).append_right _))
theorem St.YM{p:Int×(Value×List α)}(h:St bs (pN cf sz e (p :: m) :: L) w):St bs (cL cf p.2.1 e sz p.2.2 :: pN cf sz e m :: L) w:=by
 have a:St bs (([cL cf p.2.1 e sz p.2.2]++m.map fun p=>cL cf p.2.1 e sz p.2.2)++L) w:=St.unpack h
 rw[z6]at a
 have b:=a.perm (L' := (m.map fun p=>cL cf p.2.1 e sz p.2.2)++([cL cf p.2.1 e sz p.2.2]++L)) (by
  rw[<-z6,<-z6]
  exact List.Perm.append_right _ qx)
 exact(St.pack _ _ b).swap
theorem St.XU{p:Int×(Value×List α)}(h:St bs (cL cf p.2.1 e sz p.2.2 :: pN cf sz e m :: L) w):St bs (pN cf sz e (p :: m) :: L) w:=by
 have a:St bs ((m.map fun p=>cL cf p.2.1 e sz p.2.2)++(cL cf p.2.1 e sz p.2.2 :: L)) w:=St.unpack h.swap
 refine St.pack _ _ (a.perm ?_)
 show List.Perm _ (cL cf p.2.1 e sz p.2.2 :: ((m.map fun p=>cL cf p.2.1 e sz p.2.2)++L))
 exact sA
theorem St.Qr(a:Int)(h:St bs (pN cf sz e m :: L) w):St bs (cL cf (fS m a).1 e sz (fS m a).2 :: pN cf sz e (jo m a) :: L) w:=by
 unfold fS
 cases hm:iC m a with
 | none =>
  rw[R1 hm]
  exact St.FC h e sz
 | some x=>exact(h.Qp (Lb hm)).YM
theorem St.Qq{v:Value}{xs:List α}(h:St bs (cL cf v e sz xs :: pN cf sz e (jo m a) :: L) w):St bs (pN cf sz e (gr m a (v,xs)) :: L) w :=
 (St.XU (p:=(a,(v,xs))) h).Qp (Lc m a (v,xs)).symm
theorem St.YN(h:St bs L w):St bs (pN cf sz e ([]:List (Int×(Value×List α))) :: L) w:=St.pack [] L h
end
structure j3 where
 e:Nat
 d:Nat
instance:Inhabited j3:=⟨⟨0,0⟩⟩
def j3.cells(x:j3):List Value:=[.int .i64 x.e,.int .i64 x.d]
abbrev AM:=List (Int×(Value×List j3))
theorem Qs{m:AM}(h:∀ c,(fS m c).2.length<=n)(a:Int)(v:Value)(x:j3):∀ c,(fS (gr m a (v,(fS m a).2++[x])) c).2.length<=n+1:=by
 intro c
 have d:=h a
 have b:=h c
 unfold fS
 rw[xx]
 split
 . show ((fS m a).2++[x]).length<=_
   rw[zk,zb,zd]
   omega
 . exact Il b
theorem YQ:∀ c,(fS ([]:AM) c).2.length<=0:=fun c=>zh 0
structure Lk where
 e:Nat
 t:Nat
 deriving Inhabited
structure Pl where
 v:Nat
 e:Int
 nx:Nat
 deriving Inhabited
structure iK where
 met:List Bool
 found:List Nat
 low:List Nat
 count:Nat
 stk:List Pl
 out:List Int
def iK.enter(M:iK)(v:Nat)(e:Int):iK :=
 { M with count:=M.count+1,found:=cO M.found v (fun _=>M.count+1),low:=cO M.low v (fun _=>M.count+1),stk:=M.stk++[⟨v,e,0⟩] }
def iK.bump(M:iK):iK:={ M with stk:=cO M.stk (M.stk.length-1) fun p=>{ p with nx:=p.nx+1 } }
def iK.look(A:List (List Lk))(M:iK):iK :=
 let p:=cE M.stk (M.stk.length-1)
 let l:=cE (cE A p.v) p.nx
 let a:=M.bump
 if cE M.met l.e=true then a
 else
  let b:iK:={ a with met:=cO a.met l.e fun _=>true }
  if cE M.found l.t=0 then b.enter l.t (l.e:Int)else { b with low:=cO b.low p.v fun _=>min (cE M.low p.v) (cE M.found l.t) }
def iK.pop(M:iK):iK :=
 let p:=cE M.stk (M.stk.length-1)
 let S:=M.stk.take (M.stk.length-1)
 if S.length=0 then { M with stk:=S }
 else
  let u:=(cE S (S.length-1)).v
  { M with stk:=S,low:=cO M.low u (fun _=>min (cE M.low u) (cE M.low p.v)),out:=if cE M.low p.v<=cE M.found u then M.out else M.out++[p.e] }
def iK.tick(A:List (List Lk))(M:iK):iK :=
 if (cE M.stk (M.stk.length-1)).nx<(cE A (cE M.stk (M.stk.length-1)).v).length then M.look A else M.pop
def iK.init(n m:Nat):iK:=⟨List.replicate m false,List.replicate n 0,List.replicate n 0,0,[],[]⟩
structure ER (n m:Nat) (A:List (List Lk)):Prop where
 len:A.length=n
 e:∀ v,v<n->∀ x∈cE A v,x.e<m
 t:∀ v,v<n->∀ x∈cE A v,x.t<n
structure iK.ok (n m:Nat) (A:List (List Lk)) (M:iK):Prop where
 ml:M.met.length=m
 fl:M.found.length=n
 ll:M.low.length=n
 cn:(M.found.filter fun x=>decide (0<x)).length=M.count
 st:M.out.length+M.stk.length<=M.count
 sv:∀ p∈M.stk,p.v<n/\p.nx<=(cE A p.v).length/\p.e<(m:Int) /\ -1<=p.e
 se:∀ i,0<i->i<M.stk.length->0<=(cE M.stk i).e
 ou:∀ x∈M.out,0<=x/\x<(m:Int)
 fb:∀ x∈M.found,x<=M.count
 lb:∀ x∈M.low,x<=M.count
theorem filter_le{l:List Nat}{p:Nat->Bool}:(l.filter p).length<=l.length:=qU _ _
theorem mu{α:Type}[Inhabited α]{l:List α}{k:Nat}(h:k<l.length):cE l k∈l:=zg (fW h)
section
variable{m:Nat}{A:List (List Lk)}{M:iK}
theorem iK.ok.FQ(h:M.ok n m A):M.count<=n:=by
 have a:=h.cn
 have b:=h.fl
 have:=filter_le (l:=M.found) (p:=fun x=>decide (0<x))
 omega
theorem iK.Ky:(iK.init n m).ok n m A:=by
 refine⟨by simp[iK.init],by simp[iK.init],by simp[iK.init],?_,zh _,fun p hp=>absurd hp pn,fun i _ h=>absurd h (wF i),fun x a=>absurd a pn,fun x a=>?_,fun x a=>?_⟩
 . show ((List.replicate n 0).filter _).length=0
   rw[EB.2 (fun x a=>by rw[(CI.1 a).2];decide)]
   rfl
 . rw[(CI.1 a).2];exact ko _
 . rw[(CI.1 a).2];exact ko _
theorem YZ{l:List Nat}{v c:Nat}(hv:v<l.length)(h:cE l v=0)(hc:0<c):((cO l v fun _=>c).filter fun x=>decide (0<x)).length=(l.filter fun x=>decide (0<x)).length+1:=by
 have g:l[v]=0:=(iW (zy hv)).symm.trans h
 have d:l=l.take v++0 :: l.drop (v+1):=by
  rw[<-g,<-Eu hv,wA]
 have i:(l.take v).length=v:=by rw[zw];omega
 have e:=Az (a:=l.take v) (b:=l.drop (v+1)) (x:=0) (y:=c) (f:=fun _=>c) rfl
 rw[<-d,i]at e
 rw[e]
 conv=>rhs;rw[d]
 simp[qy,hc]
 omega
theorem ul{α:Type}[Inhabited α]{l:List α}{k:Nat}{f:α->α}{n:Nat}(h:l.length=n):(cO l k f).length=n:=gd.trans h
theorem vS{α:Type}[Inhabited α]{l:List α}{k:Nat}{f:α->α}{x:α}(h:x∈cO l k f):x∈l\/x=f (cE l k):=Nn h
theorem iK.ok.enter(h:M.ok n m A){v:Nat}{e:Int}(hv:v<n)(b:cE M.found v=0)(c:e<(m:Int))(d:-1<=e)(g:0<M.stk.length->0<=e):(M.enter v e).ok n m A:=by
 have r:=h.st
 unfold iK.enter
 refine⟨h.ml,ul (k:=v) (f:=fun _=>M.count+1) h.fl,ul (k:=v) (f:=fun _=>M.count+1) h.ll,?_,?_,fun p hp=>?_,fun i hi j=>?_,h.ou,fun x a=>?_,fun x a=>?_⟩
 . exact(YZ (by rw[h.fl];exact hv) b (Nat.succ_pos _)).trans (congrArg (· + 1) h.cn)
 . show M.out.length+(M.stk++[_]).length<=M.count+1
   rw[zk]
   show M.out.length+(M.stk.length+1)<=_
   omega
 . rcases zj.1 hp with hp|hp
   . exact h.sv p hp
   . rw[z8]at hp
     subst hp
     exact⟨hv,ko _,c,d⟩
 . have o:i<M.stk.length+1:=by
    have:(M.stk++[(⟨v,e,0⟩:Pl)]).length=M.stk.length+1:=by simp
    rw[<-this];exact j
   show (0:Int)<=(cE (M.stk++[(⟨v,e,0⟩:Pl)]) i).e
   by_cases q:i<M.stk.length
   . rw[show cE (M.stk++[(⟨v,e,0⟩:Pl)]) i=cE M.stk i from iW (by rw[Ev q,fW q])]
     exact h.se i hi q
   . rw[show cE (M.stk++[(⟨v,e,0⟩:Pl)]) i=⟨v,e,0⟩ from iW (by rw[Nk o_,show i-M.stk.length=0 by omega];rfl)]
     exact g o_
 . rcases vS (l:=M.found) (k:=v) (f:=fun _=>M.count+1) a with a|rfl
   . exact Il (h.fb x a)
   . exact zh _
 . rcases vS (l:=M.low) (k:=v) (f:=fun _=>M.count+1) a with a|rfl
   . exact Il (h.lb x a)
   . exact zh _
theorem iK.ok.bump(h:M.ok n m A)(d:0<M.stk.length)(c:(cE M.stk (M.stk.length-1)).nx<(cE A (cE M.stk (M.stk.length-1)).v).length):M.bump.ok n m A:=by
 have ht:=h.sv _ (mu (show M.stk.length-1<M.stk.length by omega))
 unfold iK.bump
 refine⟨h.ml,h.fl,h.ll,h.cn,?_,fun p hp=>?_,fun i hi b=>?_,h.ou,h.fb,h.lb⟩
 . show M.out.length+(cO M.stk (M.stk.length-1) fun p:Pl=>{ p with nx:=p.nx+1 }).length<=M.count
   rw[gd]
   exact h.st
 . rcases vS (l:=M.stk) (k:=M.stk.length-1) (f:=fun p:Pl=>{ p with nx:=p.nx+1 }) hp with hp|rfl
   . exact h.sv p hp
   . exact⟨ht.1,c,ht.2.2⟩
 . have a:i<M.stk.length:=by
    have:(cO M.stk (M.stk.length-1) fun p=>{ p with nx:=p.nx+1 }).length=M.stk.length:=gd ..
    rw[<-this];exact b
   show 0<=(cE (cO M.stk (M.stk.length-1) fun p=>{ p with nx:=p.nx+1 }) i).e
   rw[jH o_]
   split
   . rename_i e
     rw[e]
     exact h.se i hi a
   . exact h.se i hi a
theorem iK.ok.look(h:M.ok n m A)(c:ER n m A)(d:0<M.stk.length)(b:(cE M.stk (M.stk.length-1)).nx<(cE A (cE M.stk (M.stk.length-1)).v).length):(M.look A).ok n m A:=by
 have ht:=h.sv _ (mu (show M.stk.length-1<M.stk.length by omega))
 have hb:=h.bump d b
 have hm:=mu b
 have j:=c.e _ ht.1 _ hm
 have i:=c.t _ ht.1 _ hm
 unfold iK.look
 simp only
 split
 . exact hb
 . have a:iK.ok n m A { M.bump with met:=cO M.bump.met (cE (cE A (cE M.stk (M.stk.length-1)).v) (cE M.stk (M.stk.length-1)).nx).e fun _=>true }:=⟨ul (k:=(cE (cE A (cE M.stk (M.stk.length-1)).v) (cE M.stk (M.stk.length-1)).nx).e) (f:=fun _=>true) hb.ml,hb.fl,hb.ll,hb.cn,hb.st,hb.sv,hb.se,hb.ou,hb.fb,hb.lb⟩
   split
   . rename_i g
     exact a.enter i g o_ o_ fun _=>by omega
   . refine⟨a.ml,a.fl,ul (k:=(cE M.stk (M.stk.length-1)).v) (f:=fun _=>min (cE M.low (cE M.stk (M.stk.length-1)).v) (cE M.found (cE (cE A (cE M.stk (M.stk.length-1)).v) (cE M.stk (M.stk.length-1)).nx).t)) a.ll,a.cn,a.st,a.sv,a.se,a.ou,a.fb,fun x b=>?_⟩
     rcases vS (l:=M.bump.low) (k:=(cE M.stk (M.stk.length-1)).v) (f:=fun _=>min (cE M.low (cE M.stk (M.stk.length-1)).v) (cE M.found (cE (cE A (cE M.stk (M.stk.length-1)).v) (cE M.stk (M.stk.length-1)).nx).t)) b with b|rfl
     . exact a.lb x b
     . exact kS (Nat.min_le_left _ _) (h.lb _ (mu (by rw[h.ll];exact ht.1)))
theorem iK.ok.pop(h:M.ok n m A)(r:0<M.stk.length):M.pop.ok n m A:=by
 have t:=h.st
 have ht:=h.sv _ (mu (show M.stk.length-1<M.stk.length by omega))
 have b:(M.stk.take (M.stk.length-1)).length=M.stk.length-1:=by rw[zw];omega
 have c:∀ p∈M.stk.take (M.stk.length-1),p.v<n/\p.nx<=(cE A p.v).length/\p.e<(m:Int) /\ -1<=p.e:=fun p hp=>h.sv p (Nw hp)
 have j:∀ i,i<M.stk.length-1->cE (M.stk.take (M.stk.length-1)) i=cE M.stk i:=fun i hi=>iW (by rw[Ew hi,fW o_])
 have d:∀ i,0<i->i<(M.stk.take (M.stk.length-1)).length->0<=(cE (M.stk.take (M.stk.length-1)) i).e:=fun i hi s=>by
  rw[j i o_]
  exact h.se i hi o_
 unfold iK.pop
 simp only
 split
 . exact⟨h.ml,h.fl,h.ll,h.cn,by show M.out.length+(M.stk.take (M.stk.length-1)).length<=M.count;rw[b];omega,c,d,h.ou,h.fb,h.lb⟩
 . rename_i g
   rw[b]at g
   have o:(cE (M.stk.take (M.stk.length-1)) ((M.stk.take (M.stk.length-1)).length-1)).v<n:=(c _ (mu o_)).1
   refine⟨h.ml,h.fl,ul (k:=(cE (M.stk.take (M.stk.length-1)) ((M.stk.take (M.stk.length-1)).length-1)).v) (f:=fun _=>min (cE M.low ((cE (M.stk.take (M.stk.length-1)) ((M.stk.take (M.stk.length-1)).length-1)).v)) (cE M.low (cE M.stk (M.stk.length-1)).v)) h.ll,h.cn,?_,c,d,fun x a=>?_,h.fb,fun x a=>?_⟩
   . show (if _ then M.out else M.out++[_]).length+(M.stk.take (M.stk.length-1)).length<=M.count
     rw[b]
     split
     . omega
     . rw[zk,CD];omega
   . have q:x∈M.out\/x=(cE M.stk (M.stk.length-1)).e:=by
      revert a
      show x∈(if _ then M.out else M.out++[_])->_
      split
      . exact .inl
      . intro a
        rcases zj.1 a with a|a
        . exact .inl a
        . exact .inr (z8.1 a)
     rcases q with a|rfl
     . exact h.ou x a
     . exact⟨h.se _ o_ o_,ht.2.2.1⟩
   . rcases vS (l:=M.low) (k:=(cE (M.stk.take (M.stk.length-1)) ((M.stk.take (M.stk.length-1)).length-1)).v) (f:=fun _=>min (cE M.low ((cE (M.stk.take (M.stk.length-1)) ((M.stk.take (M.stk.length-1)).length-1)).v)) (cE M.low (cE M.stk (M.stk.length-1)).v)) a with a|rfl
     . exact h.lb x a
     . exact kS (Nat.min_le_left _ _) (h.lb _ (mu (by rw[h.ll];exact o)))
theorem iK.ok.tick(h:M.ok n m A)(b:ER n m A)(a:0<M.stk.length):(M.tick A).ok n m A:=by
 unfold iK.tick
 split
 . rename_i c;exact h.look b a c
 . exact h.pop a
end
structure gx where
 gQ:List Int
 mem:List (List Nat)
 low:Nat
def qg:List Nat->Nat
 | []=>0
 | [x]=>x
 | x :: y :: l=>min x (qg (y :: l))
def gx.left(B:gx)(i:Nat):List Nat:=(cE B.mem i).filter fun u=>decide (cE B.gQ u=(i:Int))
def gx.scan(B:gx):Nat->gx×Option Nat
 | 0=>(B,none)
 | f+1 =>
  if B.low<B.mem.length then
   let l:=B.left B.low
   let a:gx:={ B with mem:=cO B.mem B.low fun _=>l }
   if l.length=0 then gx.scan { a with low:=B.low+1 } f else(a,some (qg l))
  else(B,none)
def gx.take(B:gx):gx×Option Nat :=
 match B.scan (B.mem.length-B.low)with
 | (B2,some v)=>({ B2 with gQ:=cO B2.gQ v fun _ => -1 },some v)
 | (B2,none)=>(B2,none)
def gx.lose(B:gx)(v:Nat):gx :=
 if cE B.gQ v<=0 then B
 else
  let d:=(cE B.gQ v-1).toNat
  ⟨cO B.gQ v (fun x=>x-1),cO B.mem d (fun l=>l++[v]),min B.low d⟩
def gx.rS(B:gx)(l:List Lk):gx:=l.foldl (fun B x=>B.lose x.t) B
structure lQ where
 b:gx
 top:Nat
 num:List Nat
def lQ.step(A:List (List Lk))(N:lQ):Option lQ :=
 match N.b.take with
 | (B,some v)=>some ⟨B.rS (cE A v),max N.top B.low,cO N.num v fun _=>max N.top B.low⟩
 | (_,none)=>none
def lQ.run(A:List (List Lk)):Nat->lQ->lQ
 | 0,N=>N
 | k+1,N=>match N.step A with
  | some N2=>lQ.run A k N2
  | none=>N
def MU(A:List (List Lk))(n:Nat):Nat:=(List.range n).foldl (fun g v=>max g (cE A v).length) 0
def gx.init(A:List (List Lk))(n:Nat):gx:=⟨(List.range n).map fun v=>((cE A v).length:Int),(List.range (MU A n+1)).map fun d=>(List.range n).filter fun v=>decide ((cE A v).length=d),0⟩
def zW(A:List (List Lk))(n:Nat):List Nat:=(lQ.run A n ⟨gx.init A n,0,List.replicate n 0⟩).num
structure gx.ok (n:Nat) (B:gx) (c:Nat):Prop where
 dl:B.gQ.length=n
 dv:∀ x∈B.gQ,-1<=x/\x<(B.mem.length:Int)
 mv:∀ l∈B.mem,l.length<=n+c/\∀ u∈l,u<n
 lo:B.low<=B.mem.length
theorem KO:∀ {l:List Nat},l.length≠0->qg l∈l
 | [],h=>absurd rfl h
 | [x],_=>z8.2 rfl
 | x :: y :: l,_=>by
  have a:=KO (l:=y :: l) s_
  show min x (qg (y :: l))∈_
  rcases EK x (qg (y :: l))with q|q
  . rw[uz q];exact za
  . rw[Ip q];exact zx _ a
theorem Ry:∀ (l:List Nat) (x:Nat),l.length≠0->qg (l++[x])=min (qg l) x
 | [],_,h=>absurd rfl h
 | [y],x,_=>rfl
 | y :: z :: l,x,_=>by
  have a:=Ry (z :: l) x s_
  show min y (qg ((z :: l)++[x]))=min (min y (qg (z :: l))) x
  rw[a,Nat.min_assoc]
section
variable{c:Nat}{B:gx}
theorem gx.ok.clean(h:B.ok n c):gx.ok n { B with mem:=cO B.mem B.low fun _=>B.left B.low } c:=by
 refine⟨h.dl,fun x d=>?_,fun l a=>?_,?_⟩
 . show -1<=x/\x<((cO B.mem B.low fun _=>B.left B.low).length:Int)
   rw[gd];exact h.dv x d
 . by_cases hb:B.low<B.mem.length
   . rcases vS (l:=B.mem) (k:=B.low) (f:=fun _=>B.left B.low) a with a|rfl
     . exact h.mv l a
     . have:=h.mv _ (mu hb)
       exact⟨kS (qU _ _) this.1,fun u b=>this.2 u (z7.1 b).1⟩
   . have e:cO B.mem B.low (fun _=>B.left B.low)=B.mem:=List.set_eq_of_length_le o_
     exact h.mv l (by rw[<-e];exact a)
 . show B.low<=(cO B.mem B.low fun _=>B.left B.low).length
   rw[gd];exact h.lo
theorem gx.ok.scan:∀ (f:Nat) {B:gx},B.ok n c->(B.scan f).1.ok n c/\(B.scan f).1.mem.length=B.mem.length/\∀ v,(B.scan f).2=some v->v<n/\(B.scan f).1.low<B.mem.length
 | 0,B,h=>⟨h,rfl,fun v e=>by cases e⟩
 | f+1,B,h=>by
  unfold gx.scan
  split
  . rename_i hb
    have a:(cO B.mem B.low fun _=>B.left B.low).length=B.mem.length:=gd
    simp only
    split
    . have g:gx.ok n { B with mem:=cO B.mem B.low fun _=>B.left B.low,low:=B.low+1 } c:=⟨h.clean.dl,h.clean.dv,h.clean.mv,by show B.low+1<=(cO B.mem B.low fun _=>B.left B.low).length;rw[a];omega⟩
      have b:=gx.ok.scan f g
      refine⟨b.1,b.2.1.trans a,fun v e=>⟨(b.2.2 v e).1,?_⟩⟩
      have:=(b.2.2 v e).2
      rw[<-a];exact this
    . rename_i d
      refine⟨h.clean,a,fun v e=>?_⟩
      cases e
      have hm:=KO d
      exact⟨(h.mv _ (mu hb)).2 _ (z7.1 hm).1,hb⟩
  . exact⟨h,rfl,fun v e=>by cases e⟩
theorem gx.ok.lose(h:B.ok n c){v:Nat}(hv:v<n):(B.lose v).ok n (c+1):=by
 have hd:=h.dv _ (mu (l:=B.gQ) (k:=v) (by rw[h.dl];exact hv))
 unfold gx.lose
 split
 . exact⟨h.dl,h.dv,fun l a=>⟨kS (h.mv l a).1 o_,(h.mv l a).2⟩,h.lo⟩
 . rename_i e
   simp only
   have a:(cO B.mem (cE B.gQ v-1).toNat fun l=>l++[v]).length=B.mem.length:=gd
   refine⟨ul (k:=v) (f:=fun x=>x-1) h.dl,fun x d=>?_,fun l hm=>?_,?_⟩
   . show -1<=x/\x<((cO B.mem (cE B.gQ v-1).toNat fun l=>l++[v]).length:Int)
     rw[a]
     rcases vS (l:=B.gQ) (k:=v) (f:=fun x=>x-1) d with d|rfl
     . exact h.dv x d
     . exact⟨o_,o_⟩
   . rcases vS (l:=B.mem) (k:=(cE B.gQ v-1).toNat) (f:=fun l=>l++[v]) hm with hm|rfl
     . exact⟨kS (h.mv l hm).1 o_,(h.mv l hm).2⟩
     . have:=h.mv _ (mu (l:=B.mem) (k:=(cE B.gQ v-1).toNat) o_)
       refine⟨by rw[zk,CD];omega,fun u b=>?_⟩
       rcases zj.1 b with b|b
       . exact this.2 u b
       . rw[z8.1 b];exact hv
   . show min B.low _<=(cO B.mem (cE B.gQ v-1).toNat fun l=>l++[v]).length
     rw[a]
     exact kS (Nat.min_le_left _ _) h.lo
theorem gx.ok.take(h:B.ok n c):B.take.1.ok n c/\∀ v,B.take.2=some v->v<n/\B.take.1.low<B.mem.length:=by
 have hs:=gx.ok.scan (B.mem.length-B.low) h
 unfold gx.take
 generalize B.scan (B.mem.length-B.low)=z at hs
 obtain⟨b,o⟩:=z
 cases o with
 | none=>exact⟨hs.1,fun v e=>by cases e⟩
 | some v =>
  have hv:=hs.2.2 v rfl
  refine⟨⟨ul (k:=v) (f:=fun _ => -1) hs.1.dl,fun x a=>?_,hs.1.mv,hs.1.lo⟩,fun u e=>?_⟩
  . rcases vS (l:=b.gQ) (k:=v) (f:=fun _ => -1) a with a|rfl
    . exact hs.1.dv x a
    . exact⟨AV _,by show (-1:Int)<(b.mem.length:Int);omega⟩
  . cases e
    exact hv
end
def mF(n:Nat)(es:List Ge)(v:Nat):List Nat:=((zR n es).drop (cE (nD n es) v)).take (cE (nD n es) (v+1)-cE (nD n es) v)
def GA(es:List Ge)(v i:Nat):Lk:=⟨i,if (cE es i).v=v then(cE es i).u else(cE es i).v⟩
def iZ(n:Nat)(es:List Ge)(v:Nat):List Lk:=(mF n es v).map (GA es v)
def gU(n:Nat)(es:List Ge):List (List Lk):=(List.range n).map (iZ n es)
section
variable{v:Nat}
theorem v8(h:v<n):cE (nD n es) v<=cE (nD n es) (v+1)/\cE (nD n es) (v+1)<=2*es.length:=by
 rw[Mr (show v<=n by omega),Mr (show v+1<=n by omega)]
 have b:=KT (ji es) v
 have a:=KS (ji es) (v+1)
 rw[uQ]at a
 omega
theorem By(h:v<n):(mF n es v).length=cE (nD n es) (v+1)-cE (nD n es) v:=by
 have:=v8 (es:=es) h
 unfold mF
 rw[zw,CM,KU]
 omega
theorem O6(h:i∈mF n es v):i<es.length:=abH _ (List.mem_of_mem_drop (Nw h))
theorem yX:(iZ n es v).length=(mF n es v).length:=zm _
theorem VW(a:j<(mF n es v).length):cE (iZ n es v) j=GA es v (cE (mF n es v) j):=iW (by unfold iZ;rw[lU,fW a];rfl)
theorem OT:(gU n es).length=n:=by simp[gU]
theorem Bw(h:v<n):cE (gU n es) v=iZ n es v:=iW (by unfold gU;rw[lU,pg h];rfl)
theorem OU(c:lP n es):ER n es.length (gU n es):=by
 have key:∀ v,v<n->∀ x∈cE (gU n es) v,x.e<es.length/\x.t<n:=fun v hv x a=>by
  rw[Bw hv]at a
  obtain⟨i,hi,rfl⟩:=zq.1 a
  have b:=O6 hi
  have:=c.at b
  refine⟨b,?_⟩
  show (if (cE es i).v=v then(cE es i).u else(cE es i).v)<n
  split
  . exact this.1
  . exact this.2.1
 exact⟨OT,fun v hv x a=>(key v hv x a).1,fun v hv x a=>(key v hv x a).2⟩
end
section
variable{m r vv le lt:Nat}{ee:Int}{A:List (List Lk)}{N N2:iK}
def qB(n m:Nat)(A:List (List Lk))(r:Nat)(N:iK):Prop:=True/\N.ok n m A
theorem qB.start:qB n m A 0 (iK.init n m):=⟨trivial,iK.Ky⟩
theorem qB.tk(h:qB n m A r N)(a:ER n m A)(hk:N.stk.length=k+1)(e:N.tick A=N2):qB n m A r N2:=by
 subst e
 exact⟨trivial,h.2.tick a o_⟩
theorem qB.root(h:qB n m A r N)(c:N.stk.length=0)(b:r<n)(a:cE N.found r=0):qB n m A (r+1) (N.enter r (-1)):=⟨trivial,h.2.enter b a o_ o_ (fun h=>by omega)⟩
theorem qB.skip(h:qB n m A r N)(a:N.stk.length=0)(c:r<n)(b:cE N.found r≠0):qB n m A (r+1) N:=⟨trivial,h.2⟩
structure uC (A:List (List Lk)) (N:iK) (k vv:Nat) (ee:Int):Prop where
 l:N.stk.length=k+1
 v:(cE N.stk k).v=vv
 e:(cE N.stk k).e=ee
theorem MS(a:uC A N k vv ee)(b:(cE N.stk k).nx<(cE A vv).length):N.tick A=N.look A:=by
 unfold iK.tick
 rw[a.l,wC,a.v,if_pos b]
theorem agA(a:uC A N k vv ee)(b:(cE A vv)[(cE N.stk k).nx]? = some ⟨le,lt⟩)(hm:cE N.met le=true) :
 N.tick A=⟨N.met,N.found,N.low,N.count,cO N.stk k (fun x=>{ x with nx:=(cE N.stk k).nx+1 }),N.out⟩:=by
 rw[MS a (zp.1 b).1]
 unfold iK.look iK.bump
 simp only[a.l,wC,a.v,iW b,hm,if_true]
 rfl
theorem agy(a:uC A N k vv ee)(b:(cE A vv)[(cE N.stk k).nx]? = some ⟨le,lt⟩)(hm:cE N.met le≠true)(c:cE N.found lt=0) :
 N.tick A=iK.enter ⟨cO N.met le (fun _=>true),N.found,N.low,N.count,cO N.stk k (fun x=>{ x with nx:=(cE N.stk k).nx+1 }),N.out⟩ lt (le:Int):=by
 rw[MS a (zp.1 b).1]
 unfold iK.look iK.bump
 simp only[a.l,wC,a.v,iW b,hm,c,if_true,if_false]
 rfl
theorem agz(a:uC A N k vv ee)(b:(cE A vv)[(cE N.stk k).nx]? = some ⟨le,lt⟩)(hm:cE N.met le≠true)(c:cE N.found lt≠0) :
 N.tick A=⟨cO N.met le (fun _=>true),N.found,cO N.low vv (fun _=>min (cE N.low vv) (cE N.found lt)),N.count,cO N.stk k (fun x=>{ x with nx:=(cE N.stk k).nx+1 }),N.out⟩:=by
 rw[MS a (zp.1 b).1]
 unfold iK.look iK.bump
 simp only[a.l,wC,a.v,iW b,hm,c,if_false]
 rfl
theorem agC(a:uC A N k vv ee)(b:k=0)(c:¬ (cE N.stk k).nx<(cE A vv).length):N.tick A=⟨N.met,N.found,N.low,N.count,N.stk.take k,N.out⟩:=by
 subst b
 unfold iK.tick
 rw[a.l,wC,a.v,if_neg c]
 unfold iK.pop
 simp only[a.l,wC,List.take_zero,zd,if_true]
theorem agB{b:Bool}(a:uC A N k vv ee)(g:0<k)(f:¬ (cE N.stk k).nx<(cE A vv).length)(hb:b=decide (cE N.low vv<=cE N.found (cE (N.stk.take k) (k-1)).v)) :
 N.tick A=⟨N.met,N.found,cO N.low (cE (N.stk.take k) (k-1)).v (fun _=>min (cE N.low (cE (N.stk.take k) (k-1)).v) (cE N.low vv)),N.count,N.stk.take k,bif b then N.out else N.out++[ee]⟩:=by
 have d:(N.stk.take k).length=k:=by rw[zw,a.l];omega
 have c:=a.e
 unfold iK.tick
 rw[a.l,wC,a.v,if_neg f]
 unfold iK.pop
 simp only[a.l,wC,d,if_neg (show ¬ k=0 by omega),a.v]
 subst hb
 subst c
 by_cases q:cE N.low vv<=cE N.found (cE (N.stk.take k) (k-1)).v
 . simp[q]
 . simp[q]
theorem abG{l:List Nat}{u v:Nat}(a:u<l.length):cE (cO l u (fun _=>min (cE l u) (cE l v))) v=cE l v:=by
 rw[jH a]
 split
 . rename_i e;subst e;exact Nat.min_self _
 . rfl
theorem uC.bump{met:List Bool}{count:Nat}{out:List Int}(h:uC A N k vv ee){c:Nat}:uC A ⟨met,lb,ds,count,cO N.stk k (fun x=>{ x with nx:=c }),out⟩ k vv ee:=by
 have a:=h.l
 refine⟨(gd (xs:=N.stk) (k:=k) (f:=fun x=>{ x with nx:=c })).trans a,?_,?_⟩
 . show (cE (cO N.stk k (fun x=>{ x with nx:=c })) k).v=vv
   rw[jQ o_];exact h.v
 . show (cE (cO N.stk k (fun x=>{ x with nx:=c })) k).e=ee
   rw[jQ o_];exact h.e
end
def Nz(n:Nat)(es:List Ge)(l:List Int):Prop:=∃ N:iK,True/\N.stk.length=0/\N.out=l
structure pZ (P:Nat->Bool) (l:List Nat) (i k:Nat) (zs:List Nat):Prop where
 len:zs.length=l.length
 ki:k<=i
 il:i<=l.length
 kept:zs.take k=(l.take i).filter P
 rest:zs.drop i=l.drop i
section
variable{P:Nat->Bool}{l zs:List Nat}
theorem pZ.start:pZ P l 0 0 l:=⟨rfl,zh _,ko _,s_,rfl⟩
theorem pZ.at_(h:pZ P l i k zs)(hi:i<l.length):cE zs i=cE l i:=by
 have a:=congrArg (fun l=>l[0]?) h.rest
 simp only[Ih,sD]at a
 unfold cE
 rw[a]
theorem Ck{l:List Nat}{i:Nat}(hi:i<l.length):l.take (i+1)=l.take i++[cE l i]:=by
 rw[nY,fW hi]
 rfl
theorem Qh{l zs:List Nat}{i:Nat}(h:zs.drop i=l.drop i):zs.drop (i+1)=l.drop (i+1):=by
 have:=congrArg (List.drop 1) h
 rwa [Iq,Iq]at this
theorem pZ.skip(h:pZ P l i k zs)(hi:i<l.length)(hp:P (cE l i)=false):pZ P l (i+1) k zs :=
 ⟨h.len,Il h.ki,hi,by rw[Ck hi,qy,h.kept];simp[hp],Qh h.rest⟩
theorem pZ.keep(h:pZ P l i k zs)(hi:i<l.length)(hp:P (cE l i)=true){u:Nat}(d:u=cE l i):pZ P l (i+1) (k+1) (cO zs k fun _=>u):=by
 subst d
 have c:k<zs.length:=by have:=h.len;have:=h.ki;omega
 have e:=h.ki
 refine⟨gd.trans h.len,Nat.succ_le_succ h.ki,hi,?_,?_⟩
 . rw[Ck hi,qy,<-h.kept]
   have a:(cO zs k fun _=>cE l i).take (k+1)=zs.take k++[cE l i]:=by
    apply mS
    intro j
    rw[yD,Ie,zw,uz o_]
    unfold cO
    rw[wD]
    by_cases hj:j<k
    . rw[if_pos o_,if_neg o_,if_pos hj,Ew hj]
    . by_cases hj2:j=k
      . subst hj2
        rw[if_pos o_,if_pos rfl,if_pos c,if_neg o_]
        simp
      . rw[if_neg o_,if_neg hj,nW (by simp;omega)]
   rw[a]
   simp[hp]
 . have b:(cO zs k fun _=>cE l i).drop (i+1)=zs.drop (i+1):=by
    unfold cO
    rw[List.drop_set_of_lt o_]
   rw[b]
   exact Qh h.rest
theorem pZ.aaU(h:pZ P l i k zs):((l.take i).filter P).length=k:=by
 have a:=h.len
 have b:=h.ki
 have c:=h.il
 rw[<-h.kept,zw]
 omega
theorem pZ.done(h:pZ P l l.length k zs):zs.take k=l.filter P:=by rw[h.kept,sB]
end
def l9(l:List Nat):Int:=if l.length=0 then -1 else(qg l:Int)
theorem abM:l9 [] = -1:=rfl
theorem KW{l:List Nat}{x:Nat}:l9 (l++[x])=if l9 l<0\/(x:Int)<l9 l then(x:Int)else l9 l:=by
 by_cases h:l.length=0
 . obtain rfl:=wo h
   rw[if_pos (.inl (by rw[abM];omega))]
   rfl
 . have e1:l9 (l++[x])=((min (qg l) x:Nat):Int):=by
    unfold l9
    rw[if_neg s_,Ry _ _ h]
   have a:l9 l=(qg l:Int):=if_neg h
   rw[e1,a]
   split<;>omega
theorem KV{l:List Nat}:l9 l<0↔l.length=0:=by
 unfold l9
 split
 . rename_i h;exact⟨fun _=>h,fun _=>by omega⟩
 . rename_i h;exact⟨fun a=>by omega,fun a=>absurd a h⟩
theorem gx.ae3{B:gx}(h:B.low<B.mem.length)(a:(B.left B.low).length=0):B.scan (B.mem.length-B.low)=gx.scan ⟨B.gQ,cO B.mem B.low (fun _=>B.left B.low),B.low+1⟩ ((cO B.mem B.low fun _=>B.left B.low).length-(B.low+1)):=by
 have e:B.mem.length-B.low=(B.mem.length-(B.low+1))+1:=by omega
 rw[e,gd]
 conv=>lhs;unfold gx.scan
 rw[if_pos h]
 simp only
 rw[if_pos a]
theorem gx.ae2{B:gx}(h:B.low<B.mem.length)(a:(B.left B.low).length≠0):B.scan (B.mem.length-B.low)=(⟨B.gQ,cO B.mem B.low (fun _=>B.left B.low),B.low⟩,some (qg (B.left B.low))):=by
 have e:B.mem.length-B.low=(B.mem.length-(B.low+1))+1:=by omega
 rw[e]
 conv=>lhs;unfold gx.scan
 rw[if_pos h]
 simp only
 rw[if_neg a]
theorem gx.ae1{B:gx}(h:¬ B.low<B.mem.length):B.scan (B.mem.length-B.low)=(B,none):=by
 rw[show B.mem.length-B.low=0 by omega]
 rfl
theorem gx.age{B a:gx}{v:Nat}(h:B.scan (B.mem.length-B.low)=(a,some v)):B.take=(⟨cO a.gQ v (fun _ => -1),a.mem,a.low⟩,some v):=by
 unfold gx.take
 rw[h]
theorem gx.agc{B a:gx}(h:B.scan (B.mem.length-B.low)=(a,none)):B.take=(a,none):=by
 unfold gx.take
 rw[h]
theorem gx.abA{B:gx}{v:Nat}(h:cE B.gQ v<=0):B.lose v=B:=by unfold gx.lose;rw[if_pos h]
theorem gx.abC{B:gx}{v d:Nat}(h:¬ cE B.gQ v<=0)(hd:cE B.gQ v=(d:Int)+1):B.lose v=⟨cO B.gQ v (fun _=>(d:Int)),cO B.mem d (fun l=>l++[v]),min B.low d⟩:=by
 unfold gx.lose
 rw[if_neg h]
 have e:(cE B.gQ v-1).toNat=d:=by omega
 simp only[e]
 congr 1
 show B.gQ.set v (cE B.gQ v-1)=B.gQ.set v (d:Int)
 rw[hd,Int.add_sub_cancel]
theorem gx.ok.more{c a:Nat}{B:gx}(h:B.ok n c)(hc:c<=a):B.ok n a:=⟨h.dl,h.dv,fun l b=>⟨kS (h.mv l b).1 o_,(h.mv l b).2⟩,h.lo⟩
theorem gx.abD{B:gx}{l:List Lk}{x:Lk}:B.rS (l++[x])=(B.rS l).lose x.t:=by
 unfold gx.rS
 rw[EH]
 rfl
theorem gx.abE{B:gx}{l:List Lk}(h:k<l.length):B.rS (l.take (k+1))=(B.rS (l.take k)).lose (cE l k).t:=by
 rw[nY,fW h]
 exact gx.abD
theorem gx.abz{B:gx}{v:Nat}:(B.lose v).mem.length=B.mem.length:=by
 unfold gx.lose
 split
 . rfl
 . simp only[gd]
theorem gx.RF:∀ (l:List Lk) {B:gx},(B.rS l).mem.length=B.mem.length
 | [],B=>rfl
 | x :: l,B=>(gx.RF l).trans gx.abz
theorem gx.ok.take_len{c:Nat}{B:gx}(h:B.ok n c):B.take.1.mem.length=B.mem.length:=by
 have hs:=(gx.ok.scan (B.mem.length-B.low) h).2.1
 unfold gx.take
 generalize B.scan (B.mem.length-B.low)=z at hs
 obtain⟨a,o⟩:=z
 cases o with
 | none=>exact hs
 | some v=>exact hs
def nj(A:List (List Lk))(n:Nat)(k:Nat)(N:lQ):Prop:=k<=n/\lQ.run A n ⟨gx.init A n,0,List.replicate n 0⟩=lQ.run A (n-k) N/\N.num.length=n
variable{A:List (List Lk)}
theorem nj.start:nj A n 0 ⟨gx.init A n,0,List.replicate n 0⟩:=⟨ko _,rfl,oK⟩
theorem nj.next{v:Nat}{N:lQ}{B:gx}(h:nj A n k N)(hk:k<n)(ht:N.b.take=(B,some v)):nj A n (k+1) ⟨B.rS (cE A v),max N.top B.low,cO N.num v fun _=>max N.top B.low⟩:=by
 refine⟨hk,h.2.1.trans ?_,(gd (xs:=N.num) (k:=v) (f:=fun _=>max N.top B.low)).trans h.2.2⟩
 rw[show n-k=(n-(k+1))+1 by omega]
 conv=>lhs;unfold lQ.run
 unfold lQ.step
 rw[ht]
theorem nj.all{N:lQ}(h:nj A n n N):N.num=zW A n:=by
 unfold zW
 rw[h.2.1,Nat.sub_self]
 rfl
theorem nj.stop{N:lQ}{B:gx}(h:nj A n k N)(ht:N.b.take=(B,none)):N.num=zW A n:=by
 unfold zW
 rw[h.2.1]
 cases n-k with
 | zero=>rfl
 | succ j =>
  unfold lQ.run lQ.step
  rw[ht]
def nN(A:List (List Lk))(n v:Nat):List Int:=(List.range n).map fun j=>if j<v then((cE A j).length:Int)else 0
def lH(A:List (List Lk))(v:Nat):Nat:=(List.range v).foldl (fun g v=>max g (cE A v).length) 0
section
variable{v:Nat}
theorem Yb:nN A n 0=List.replicate n 0:=by
 unfold nN
 apply mS
 intro j
 rw[lU,sw]
 by_cases h:j<n
 . rw[pg h,if_pos h];rfl
 . rw[nW (by rw[mD];omega),if_neg h];rfl
theorem JU:(nN A n v).length=n:=by simp[nN]
theorem Ya(hv:v<n):cO (nN A n v) v (fun _=>((cE A v).length:Int))=nN A n (v+1):=by
 unfold nN cO
 apply mS
 intro j
 rw[wD,lU,lU,zm,mD]
 by_cases h:j<n
 . rw[pg h]
   by_cases e:v=j
   . subst e
     rw[if_pos rfl,if_pos h]
     simp
   . rw[if_neg e]
     show some (if j<v then _ else _)=some (if j<v+1 then _ else _)
     by_cases q:j<v
     . rw[if_pos q,if_pos o_]
     . rw[if_neg q,if_neg o_]
 . rw[nW (l:=List.range n) (by rw[mD];omega),if_neg o_]
   rfl
theorem X8:nN A n n=(gx.init A n).gQ:=by
 unfold nN gx.init
 exact wB fun j a=>if_pos (lV.1 a)
theorem X9(a:j<n):cE (nN A n n) j=((cE A j).length:Int):=iW (by unfold nN;rw[lU,pg a];exact congrArg some (if_pos a))
theorem P9(hv:v<n):cE (nN A n (v+1)) v=((cE A v).length:Int):=iW (by unfold nN;rw[lU,pg hv];exact congrArg some (if_pos (AX _)))
theorem HH:lH A (v+1)=max (lH A v) (cE A v).length:=by
 unfold lH
 rw[rA,EH]
 rfl
theorem HG:∀ {v j:Nat},j<v->(cE A j).length<=lH A v
 | 0,j,h=>absurd h (wF _)
 | v+1,j,h=>by
  rw[HH]
  by_cases e:j=v
  . subst e;exact Nat.le_max_right _ _
  . exact kS (HG (show j<v by omega)) (Nat.le_max_left _ _)
theorem MV{m:Nat}(h:∀ j,j<n->(cE A j).length<=m):∀ {v:Nat},v<=n->lH A v<=m
 | 0,_=>ko _
 | v+1,hv=>by
  rw[HH]
  exact Nat.max_le.2 ⟨MV h o_,h v o_⟩
def tL(A:List (List Lk))(n v:Nat)(H:List (Value×List Nat)):Prop:=H.length=lH A n+1/\∀ d,d<lH A n+1->(cE H d).2=(List.range v).filter fun j=>decide ((cE A j).length=d)
theorem tL.start{x:Value}:tL A n 0 (List.replicate (lH A n+1) (x,[])):=⟨oK,fun d hd=>by rw[show cE (List.replicate (lH A n+1) ((x,[]):Value×List Nat)) d=(x,[]) from iW (by rw[sw,if_pos hd])];rfl⟩
theorem tL.next{d:Nat}(h:tL A n v H)(hv:v<n)(hd:d=(cE A v).length):tL A n (v+1) (cO H d fun _=>(u,(cE H d).2++[v])):=by
 have b:=HG (A:=A) hv
 refine⟨gd.trans h.1,fun c a=>?_⟩
 rw[rA,qy]
 by_cases e:d=c
 . subst e
   rw[jQ (by rw[h.1];omega)]
   show (cE H d).2++[v]=_
   rw[h.2 d a]
   simp[hd]
 . rw[k6 e,h.2 c a]
   simp[<-hd,e]
theorem tL.all(h:tL A n n H):H.map (·.2)=(gx.init A n).mem:=by
 unfold gx.init
 show _=(List.range (lH A n+1)).map _
 apply mS
 intro d
 rw[lU,lU]
 by_cases hd:d<lH A n+1
 . rw[fW (by rw[h.1];exact hd),pg hd]
   exact congrArg some (h.2 d hd)
 . rw[nW (by rw[h.1];omega),nW (by rw[mD];omega)]
   rfl
theorem tL.len(h:tL A n v H){d:Nat}(hd:d<lH A n+1):(cE H d).2.length<=v:=by
 rw[h.2 d hd]
 exact kS (qU _ _) (by rw[mD];exact zh _)
theorem gx.Ky:(gx.init A n).ok n 0:=by
 refine⟨by simp[gx.init],fun x f=>?_,fun l c=>?_,ko _⟩
 . obtain⟨j,b,rfl⟩:=zq.1 f
   have g:=HG (A:=A) (lV.1 b)
   have a:(gx.init A n).mem.length=lH A n+1:=by simp[gx.init,MU,lH]
   rw[a]
   omega
 . obtain⟨d,_,rfl⟩:=zq.1 c
   refine⟨kS (qU _ _) (by rw[mD];omega),fun u e=>lV.1 (z7.1 e).1⟩
end
theorem fR.ok.copy{de cQ:Nat}(h:s.ok de cQ){d:AW}(f:∃ k,d.A={ s.A with ps:=k })(l:d.A.ok){e:TW}(r:e.ok)(p:∀ x,e.mem x↔s.t.mem x)(q:e.A.n=s.t.A.n){im2:IM}(hk:(im2.map Prod.fst).Nodup)
 (g:∀ a,(iC im2 a=none↔iC s.im a=none)/\(fS im2 a).2=(fS s.im a).2) (jx tb ab mb:Nat) (lv:Value) :
 fR.ok de cQ ⟨jx,tb,ab,mb,lv,s.last,d,e,s.live,im2⟩/\∀ x,fR.has ⟨jx,tb,ab,mb,lv,s.last,d,e,s.live,im2⟩ x↔s.has x:=by
 obtain⟨k,f⟩:=f
 have c:∀ j,d.A.iw j↔s.A.iw j:=fun j=>by rw[f];exact Iff.rfl
 have o:d.A.n=s.A.n:=by rw[f]
 have hb:d.A.begun=s.A.begun:=by rw[f]
 refine⟨⟨o.trans h.n,q.trans h.tn,h.en,h.vn,l,r,h.ll.trans hb.symm,fun i hi=>h.slot i ((c i).1 hi),h.GB,fun i hi=>h.ne i ((c i).1 hi),fun id=>?_,hk,fun id i=>?_,fun id=>?_,fun id=>?_,
  fun i hi=>h.seq i ((c i).1 hi),fun i j hi m=>h.Ho i j ((c i).1 hi) ((c j).1 m),h.ug⟩,fun x=>?_⟩
 . show e.mem id↔∃ i,d.A.iw i/\_
   rw[p,h.mem]
   exact⟨fun⟨i,a,b⟩=>⟨i,(c i).2 a,b⟩,fun⟨i,a,b⟩=>⟨i,(c i).1 a,b⟩⟩
 . show i∈(fS im2 id).2↔d.A.iw i/\_
   rw[(g id).2,c]
   exact h.inc id i
 . show ((fS im2 id).2).Nodup
   rw[(g id).2]
   exact h.nd id
 . show iC im2 id=none↔(fS im2 id).2=[]
   rw[(g id).1,(g id).2]
   exact h.empty id
 . exact⟨fun⟨i,a,b⟩=>⟨i,(c i).1 a,b⟩,fun⟨i,a,b⟩=>⟨i,(c i).2 a,b⟩⟩
def rN(bs:List Int)(x:Int):Nat:=gX bs (x+1)
theorem Pd{bs:List Int}:rN bs x<=bs.length:=qU _ _
def mN(bs:List Int)(l:List Nat):List Int:=(List.range (bs.length+1)).map fun j=>(((l.filter fun s:Nat=>decide (rN bs (s:Int)=j)).length:Nat):Int)
section
variable{bs:List Int}{l:List Nat}{x:Nat}
theorem BQ:(mN bs l).length=bs.length+1:=by simp[mN]
theorem Gd(h:j<=bs.length):cE (mN bs l) j=(((l.filter fun s:Nat=>decide (rN bs (s:Int)=j)).length:Nat):Int):=by
 unfold mN
 rw[K3 o_]
theorem ZX(h:j<=bs.length):0<=cE (mN bs l) j/\cE (mN bs l) j<=(l.length:Int):=by
 rw[Gd h]
 have:=qU (fun s:Nat=>decide (rN bs (s:Int)=j)) l
 omega
theorem ZY:mN bs []=List.replicate (bs.length+1) 0:=by
 unfold mN
 rw[Nt]
 exact⟨s_,fun b hb=>by obtain⟨j,_,rfl⟩:=zq.1 hb;rfl⟩
theorem ZW(b:a.length=bs.length+1)(h:∀ j,j<=bs.length->cE a j=(((l.filter fun s:Nat=>decide (rN bs (s:Int)=j)).length:Nat):Int)):a=mN bs l:=by
 apply mS
 intro j
 by_cases hj:j<=bs.length
 . rw[fW (show j<a.length by omega),fW (show j<(mN bs l).length by rw[BQ];omega),h j hj,Gd hj]
 . rw[nW o_,nW (by rw[BQ];omega)]
theorem ZZ:cO (mN bs l) (rN bs (x:Int)) (fun _=>cE (mN bs l) (rN bs (x:Int))+1)=mN bs (l++[x]):=by
 have hb:=Pd (bs:=bs) (x:=(x:Int))
 refine ZW (by rw[gd,BQ]) fun j a=>?_
 rw[jH (by rw[BQ];omega),qy,zk]
 by_cases e:rN bs (x:Int)=j
 . rw[if_pos e,e,Gd a]
   simp[e]
 . rw[if_neg e,Gd a]
   simp[e]
end
def TW.Kp(t a:TW):Prop:=∀ z,t.A.iw z->a.mem (cE t.ids z)->a.A.iw z/\cE a.ids z=cE t.ids z
theorem TW.Kp.refl(t:TW):TW.Kp t t:=fun z h _=>⟨h,rfl⟩
theorem TW.Kp.trans{t e f:TW}(h1:TW.Kp t e)(i:TW.Kp e f)(hm:∀ x,t.mem x->f.mem x->e.mem x):TW.Kp t f:=fun z h g=>by
 obtain⟨a,b⟩:=h1 z h (hm _ ⟨z,h,rfl⟩ g)
 obtain⟨c,d⟩:=i z a (by rw[b];exact g)
 exact⟨c,d.trans b⟩
theorem TW.ok.Tg{t:TW}(h:t.ok){id:Int}{v2:AW}(hp:AW.put t.A v2.A i){is2:List Int}{cs2:List Nat}(c:is2=uZ t.ids i id):TW.Kp t ⟨iv,u,v2,is2,cs2⟩:=fun z a _=>by
 have e:=h.uR
 have d:i<=t.ids.length:=by rcases hp.p8 with b|b<;>omega
 refine⟨(hp.iw z).2 (.inl a),?_⟩
 show cE is2 z=_
 rw[c,Tc d,if_neg]
 rintro rfl
 exact hp.new a
theorem TW.ok.X5{t:TW}(h:t.ok){v2:AW}(hi:t.A.iw i)(hd:AW.del t.A v2.A i){is2:List Int}{cs2:List Nat}(c:is2=cO t.ids i (fun _=>0))(hm:∀ x,TW.mem ⟨iv,u,v2,is2,cs2⟩ x↔t.mem x/\x≠cE t.ids i):TW.Kp t ⟨iv,u,v2,is2,cs2⟩:=fun z d f=>by
 have a:z≠i:=fun e=>((hm _).1 f).2 (by rw[e])
 have b:i<t.ids.length:=by have:=hi.1;have:=h.uR;omega
 refine⟨(hd.iw z).2 ⟨d,a⟩,?_⟩
 show cE is2 z=_
 rw[c,jH b,if_neg fun e=>a e.symm]
theorem TW.A9.zL{t a b:TW}{u v:Int}(p:TW.A9 t a u)(q:TW.A9 a b v)(h1:TW.Kp t a)(c:TW.Kp a b):TW.Kp t b:=h1.trans c fun x d _=>(p.mem x).2 (.inl d)
theorem nk.zL{e im2:IM}{t a b:TW}{v:Int}(f:nk e a im2 b v i)(h1:TW.Kp t a)(c:TW.Kp a b):TW.Kp t b:=h1.trans c fun x _ d=>((f.mem x).1 d).1
theorem Fo.top{xs:List Nd}{F:FT}(h:Fo xs F)(f:j≠0)(d:j<xs.length):∃ r,PR (gZ (gY xs F)) j r:=by
 obtain⟨m,hd⟩:=h.dep d
 clear d
 induction hd with
 | zero=>exact absurd rfl f
 | @step T q j m c n t k s =>
  have hs:∀ v u,oE (gp xs false T) q v u->gZ (gY xs F) v u:=fun v u hp=>⟨(gp xs false T,q),zq.2 ⟨(T,q),c,rfl⟩,hp⟩
  have o:=h.Ah c
  have hm:j∈gp xs false T:=(pV xs false T).mem_iff.2 n
  obtain⟨g, i⟩:∃ z,(gp xs false T).head? = some z:=by
   cases e:gp xs false T with
   | nil=>rw[e]at hm;simp at hm
   | cons z l=>exact⟨z,rfl⟩
  obtain⟨a,b⟩:=PR.Gg i o hs hm
  by_cases hq:q=0
  . exact⟨g, a hq⟩
  . obtain⟨r,p⟩:=s hq
    exact⟨r,b r hq p⟩
theorem Fo.aaH{xs:List Nd}{F:FT}(h:Fo xs F)(b:j≠0)(c:j<xs.length):Joined xs F j j:=by
 obtain⟨r,a⟩:=h.top b c
 exact⟨r,a,a⟩
section
variable{xs ys zs:List Nd}{F R R2:FT}{a b:Tr}
theorem Yc(m:Fo xs F)(n:Joined xs F i j)(h:lK xs F ys i a R)(k:lK (kV ys i) ((.nd a i .nil,0) :: R) zs j b R2)(hs:(cE zs j).size=2):gp zs false (.nd b j .nil)=[i,j]:=by
 obtain⟨r,hi,o⟩:=n
 have d:=ac7 h.DI k (h.abb o hi fun v u q f g=>m.um f g)
 have hv:=(k.fo.rep (.nd b j .nil,0) s_).2.2.1.size
 have e:=(pV zs false (.nd b j .nil)).length_eq
 have p:=k.seq
 rw[p]at e d ⊢
 have e1:((b.mem++j :: Tr.nil.mem).length:Int)=2:=by rw[<-hv];exact hs
 have c:(gp zs false b++[j]).length=2:=by
  rw[e]
  show (b.mem++j :: Tr.nil.mem).length=2
  omega
 cases hb:gp zs false b with
 | nil=>rw[hb]at c;simp at c
 | cons x l =>
  rw[hb]at c d
  cases l with
  | cons y l=>simp at c
  | nil =>
   simp at d
   subst d
   rfl
theorem abi(f:Fo xs F)(h:lK xs F ys i a R)(k:lK (kV ys i) ((.nd a i .nil,0) :: R) zs j b R2)(t:¬ Joined xs F i j)(q:j≠0)(s:j<xs.length)(o:i≠0)(p:i<xs.length):∃ n,R2.Perm ((.nd a i .nil,0) :: n):=by
 rcases k.Ef (.nd a i .nil) s_ with ⟨c,_⟩|c
 . exact SK c
 . exfalso
   rw[h.DI.head]at c
   obtain⟨r,g⟩:=f.top q s
   obtain⟨m, l⟩:=f.top o p
   have w:r≠m := fun e=>t ⟨m, l, e▸g⟩
   obtain⟨x,p2⟩:=h.abc g l w fun v u z c d=>f.um c d
   have y:=k.top c (v:=j) (by simp[Tr.mem])
   have e:r=i:=PR.unique (P:=gZ (gY (kV ys i) ((.nd a i .nil,0) :: R))) (fun v u z c d=>h.DI.fo.um c d) x y
   exact p2 (by rw[e];simp[Tr.mem])
end
theorem fT.lead{xs:List Nd}(h:fT xs)(hi:i<xs.length):fT (kV xs i):=h.iV hi fun x a b c d e=>⟨a,b,c,d,e⟩
theorem vQ(xs:List Nd)(i:Nat):(kV xs i).length=xs.length:=gd
theorem Sk(a:n<=1000000):fT (nu n k):=by
 have key:∀ i,i<n+1->cE (nu n k) i=xA i\/cE (nu n k) i=qi:=fun i hi=>by
  rw[B1 hi]
  split
  . exact .inl rfl
  . exact .inr rfl
 refine⟨fun i hi=>?_,fun i hi=>?_,fun i hi=>?_,fun i hi=>?_,fun i hi=>?_⟩<;>rw[uk]at * <;> rcases key i hi with e|e<;>rw[e]
 all_goals first
  | exact(by decide:ij .i64 0)
  | (simp only[xA,qi];omega)
  | (show (-9223372036854775808:Int)<=0/\(0:Int)<=9223372036854775807;omega)
section
variable{L:List Lv}{sn:List Bool}{now:Int}
def yZ(b:Bool):List Value:=[.bool b]
end
def Ms(p:List Nat)(i j:Nat):List Nat:=cO (cO p i fun _=>cE p j) j fun _=>cE p i
theorem afS{p:List Nat}(hi:i<p.length)(a:j<p.length):(Ms p i j).Perm p:=by
 grind [cE,iW,Ms,cO]
def BG(n:Nat)(ds:List Int)(k:Nat):Nat:=k+(cE ds k).toNat%(n-k)
theorem Qg{ds:List Int}(h:k<n):BG n ds k<n:=by
 have:=AZ (cE ds k).toNat (show 0<n-k by omega)
 unfold BG
 omega
def vI(n:Nat)(ds:List Int):Nat->List Nat
 | 0=>List.range n
 | k+1=>Ms (vI n ds k) k (BG n ds k)
def zC(n:Nat)(ds:List Int):List Nat:=vI n ds (n-1)
theorem JW{n:Nat}{ds:List Int}:∀ {k:Nat},k<=n->(vI n ds k).Perm (List.range n)
 | 0,_=>List.Perm.refl _
 | k+1,h=>by
  have a:=JW (ds:=ds) (show k<=n by omega)
  have b:(vI n ds k).length=n:=a.length_eq.trans mD
  exact(afS o_ (by rw[b];exact Qg o_)).trans a
theorem Yj{ds:List Int}(h:k<=n):(vI n ds k).length=n:=(JW h).length_eq.trans mD
theorem Yi{ds:List Int}:(zC n ds).Perm (List.range n):=JW (Nat.sub_le _ _)
theorem ad9(a:0<=x)(hk:k<n):x.tmod ((n:Int)-(k:Int))=((x.toNat%(n-k):Nat):Int):=by
 obtain⟨y,rfl⟩:=Int.eq_ofNat_of_zero_le a
 rw[AO a,show (n:Int)-(k:Int)=((n-k:Nat):Int) by omega,nX,<-Int.natCast_emod]
def vX(n k:Nat):List Nat:=List.range k++List.replicate (n-k) 0
theorem aeq:vX n 0=List.replicate n 0:=rfl
theorem aen:vX n n=List.range n:=by simp[vX]
theorem aeo(h:k<=n):(vX n k).length=n:=by simp[vX];omega
theorem aep(h:k<n):cO (vX n k) k (fun _=>k)=vX n (k+1):=by
 apply mS
 intro j
 unfold vX cO
 grind
structure sF (n:Nat) (lb:List Nat):Prop where
 len:lb.length=n
 low:∀ i,i<n->cE lb i<=i
 oB:∀ i,i<n->cE lb (cE lb i)=cE lb i
theorem sF.range:sF n (List.range n) :=
 ⟨s_,fun i h=>by rw[mY h];exact zh _,fun i h=>by rw[mY h,mY h]⟩
theorem sF.next{u v:Nat}(h:sF n lb)(a:u<n)(hv:v<n):sF n (jg lb (cE lb u) (cE lb v)):=by
 have b:=h.len
 have g:=h.low u a
 have lv:=h.low v hv
 have d:=h.oB u a
 have iv:=h.oB v hv
 refine⟨by rw[GM];exact b,fun i hi=>?_,fun i hi=>?_⟩
 . rw[rV o_]
   have:=h.low i hi
   split<;>omega
 . have f:=h.low i hi
   have c:=h.oB i hi
   rw[rV (i:=i) o_]
   split
   . rename_i e
     rw[rV o_]
     rcases EK (cE lb u) (cE lb v)with q|q
     . rw[uz q,Io q,d];split<;>omega
     . rw[Ip q,Nat.max_eq_left q,iv];split<;>omega
   . rename_i e
     rw[rV o_,c,if_neg e]
def gI(ps:List Int):Nat->Nat->Nat
 | 0,v=>v
 | k+1,v=>gI ps k (cE ps v).toNat
section
variable{v:Nat}
theorem vj(a b:Nat):gI ps (a+b) v=gI ps b (gI ps a v):=by
 induction a generalizing v with
 | zero=>rw[uA];rfl
 | succ a c=>rw[Nat.succ_add];exact c
theorem ag9:gI ps 1 v=(cE ps v).toNat:=rfl
theorem FY(hp:kM ps)(hv:v<ps.length):0<fV ps v↔0<=cE ps v:=by
 constructor
 . grind [cE,FX]
 . intro h
   rw[BE hp hv (i:=(cE ps v).toNat) o_]
   omega
theorem P8(hp:kM ps)(hv:v<ps.length)(h:0<=cE ps v):fV ps v=fV ps (cE ps v).toNat+1:=BE hp hv o_
theorem rz(hp:kM ps)(hv:v<ps.length)(hk:k<=fV ps v):gI ps k v<ps.length/\fV ps (gI ps k v)=fV ps v-k/\v<=gI ps k v:=by
 induction k generalizing v with
 | zero=>exact⟨hv,rfl,zh _⟩
 | succ k d =>
  have a:=(FY hp hv).1 o_
  have b:=hp.up v hv
  have c:=P8 hp hv a
  grind [cE,fV,gI]
theorem aha(hp:kM ps)(hv:v<ps.length)(hk:k<fV ps v):cE ps (gI ps k v)=((gI ps (k+1) v:Nat):Int):=by
 obtain⟨a,b,_⟩:=rz hp hv (Nat.le_of_lt hk)
 grind [FY,vj,ag9]
theorem Q7(hp:kM ps)(hv:v<ps.length):(2 ^ j<=fV ps v->kU ps j v=((gI ps (2 ^ j) v:Nat):Int))/\(fV ps v<2 ^ j->kU ps j v<0):=by
 induction j generalizing v with
 | zero =>
  have a:=FY hp hv
  constructor
  . intro h
    show cE ps v=(((cE ps v).toNat:Nat):Int)
    grind
  . intro h
    show cE ps v<0
    grind
 | succ j d =>
  have e:2 ^ (j+1)=2 ^ j+2 ^ j:=by rw[EL];omega
  obtain⟨c,i⟩:=d hv
  rw[e]
  constructor
  . intro h
    have a:=c o_
    obtain⟨b,f,_⟩:=rz hp hv (k:=2 ^ j) o_
    rw[Gk o_,a,nX,(d b).1 o_,<-vj]
  . intro h
    rcases CT (fV ps v) (2 ^ j)with a|a
    . grind [KD]
    . have b:=c a
      obtain⟨f,g,_⟩:=rz hp hv (k:=2 ^ j) a
      grind [Gk]
theorem KE(hp:kM ps)(hv:v<ps.length)(h:2 ^ j<=fV ps v):cE (jM ps j) v=((gI ps (2 ^ j) v:Nat):Int):=by
 rw[vP hv]
 exact(Q7 hp hv).1 h
theorem Q6(hp:kM ps)(hv:v<ps.length)(h:fV ps v<2 ^ j):cE (jM ps j) v<0:=by
 rw[vP hv]
 exact(Q7 hp hv).2 h
theorem Q5(hp:kM ps)(hm:∀ i,i<ps.length -> -1<=cE ps i)(hv:v<ps.length) : -1<=kU ps j v:=by
 induction j generalizing v with
 | zero=>exact hm v hv
 | succ j a =>
  grind [KC,kU,Gk,KD]
end
structure qE (ps:List Int) (a b D j s:Nat):Prop where
 le:s<=D
 ne:gI ps s a≠gI ps s b
 Qt:D<s+2 ^ j\/gI ps (s+2 ^ j) a=gI ps (s+2 ^ j) b
section
variable{a b D s:Nat}
theorem qE.start(h:a≠b)(c:D<8192):qE ps a b D 13 0:=⟨ko _,h,.inl (by rw[uA];exact c)⟩
theorem qE.next(hp:kM ps)(hm:∀ i,i<ps.length -> -1<=cE ps i)(n:a<ps.length)(hb:b<ps.length)(p:fV ps a=D)(db:fV ps b=D)(h:qE ps a b D (j+1) s) :
 (cE (jM ps j) (gI ps s a)=cE (jM ps j) (gI ps s b)->qE ps a b D j s) /\
 (cE (jM ps j) (gI ps s a)≠cE (jM ps j) (gI ps s b)->qE ps a b D j (s+2 ^ j)/\cE (jM ps j) (gI ps s a)=((gI ps (s+2 ^ j) a:Nat):Int)/\cE (jM ps j) (gI ps s b)=((gI ps (s+2 ^ j) b:Nat):Int)):=by
 have g:=h.le
 obtain⟨a1,a2,_⟩:=rz hp n (k:=s) o_
 obtain⟨b1,b2,_⟩:=rz hp hb (k:=s) o_
 have e:2 ^ (j+1)=2 ^ j+2 ^ j:=by rw[EL];omega
 rcases CT (D-s) (2 ^ j)with l|l
 . have q:=Q6 hp a1 (j:=j) o_
   have nb:=Q6 hp b1 (j:=j) o_
   have o:=Q5 hp hm a1 (j:=j)
   have mb:=Q5 hp hm b1 (j:=j)
   rw[<-vP a1]at o
   rw[<-vP b1]at mb
   exact⟨fun _=>⟨g,h.ne,.inl o_⟩,fun c=>absurd (show cE (jM ps j) (gI ps s a)=cE (jM ps j) (gI ps s b) by omega) c⟩
 . have ya:=KE hp a1 (j:=j) o_
   have d:=KE hp b1 (j:=j) o_
   rw[<-vj]at ya d
   refine⟨fun c=>⟨g,h.ne,.inr o_⟩,fun c=>⟨⟨o_,fun m=>c (by rw[ya,d,m]),?_⟩,ya,d⟩⟩
   have f:=h.Qt
   rw[e,<-lW]at f
   exact f
theorem qE.fin(hp:kM ps)(c:a<ps.length)(f:fV ps a=D)(h:qE ps a b D 0 s) :
 (cE ps (gI ps s a)<0->s=D)/\(¬ cE ps (gI ps s a)<0->s<D/\cE ps (gI ps s a)=((gI ps (s+1) a:Nat):Int)/\gI ps (s+1) a=gI ps (s+1) b):=by
 have j:=h.le
 obtain⟨a1,a2,_⟩:=rz hp c (k:=s) o_
 have d:=FY hp a1
 refine⟨fun e=>?_,fun e=>?_⟩
 . grind
 . have g:=d.2 o_
   refine⟨o_,aha hp c o_,?_⟩
   have i:=h.Qt
   grind
end
theorem JT{ps:List Int}(hp:kM ps)(hi:i<ps.length):fV ps i+i<ps.length:=by
 induction hm:ps.length-i using Nat.strongRecOn generalizing i with
 | _ m a =>
  rcases hp.up i hi with h|⟨b,c⟩
  . rw[FX h]
    omega
  . have:=a (ps.length-(cE ps i).toNat) o_ (i:=(cE ps i).toNat) o_ rfl
    rw[P8 hp hi o_]
    omega
def tG(ps:List Int)(a b z:Nat)(B:Bool):Prop :=
 (B=true/\∃ s t,s<=fV ps a/\t<=fV ps b/\gI ps s a=z/\gI ps t b=z/\∀ c t', c <= fV ps a->t' <= fV ps b->gI ps c a=gI ps t' b->s<=c) \/
 (B=false/\z=0/\∀ s t,s<=fV ps a->t<=fV ps b->gI ps s a≠gI ps t b)
section
variable{a b A B D s:Nat}
theorem K5(hp:kM ps)(d:a<ps.length)(hb:b<ps.length){s t:Nat}(hs:s<=fV ps a)(ht:t<=fV ps b)(h:gI ps s a=gI ps t b) :
 ∃ m,m<=min (fV ps a) (fV ps b)/\s=fV ps a-min (fV ps a) (fV ps b)+m/\gI ps m (gI ps (fV ps a-min (fV ps a) (fV ps b)) a)=gI ps m (gI ps (fV ps b-min (fV ps a) (fV ps b)) b):=by
 have c:=(rz hp d hs).2.1
 have e:=(rz hp hb ht).2.1
 rw[h]at c
 refine⟨min (fV ps a) (fV ps b)-(fV ps a-s),o_,o_,?_⟩
 rw[<-vj,<-vj,show fV ps a-min (fV ps a) (fV ps b)+(min (fV ps a) (fV ps b)-(fV ps a-s))=s by omega,show fV ps b-min (fV ps a) (fV ps b)+(min (fV ps a) (fV ps b)-(fV ps a-s))=t by omega,h]
theorem Xy(hp:kM ps)(c:a<ps.length)(hb:b<ps.length)(h:gI ps (fV ps a-min (fV ps a) (fV ps b)) a=gI ps (fV ps b-min (fV ps a) (fV ps b)) b) :
 tG ps a b (gI ps (fV ps a-min (fV ps a) (fV ps b)) a) true :=
 .inl ⟨rfl,_,_,Nat.sub_le _ _,Nat.sub_le _ _,rfl,h.symm,fun f t' hs ht e=>by
  obtain⟨m,_,d,_⟩:=K5 hp c hb hs ht e
  omega⟩
theorem qE.apart(h:qE ps A B D j s){m:Nat}(hm:gI ps m A=gI ps m B):s<m:=by
 apply Nat.lt_of_not_le
 intro a
 apply h.ne
 rw[show s=m+(s-m) by omega,vj,vj,hm]
theorem XA(hp:kM ps)(i:a<ps.length)(hb:b<ps.length)(d:A=gI ps (fV ps a-min (fV ps a) (fV ps b)) a)(f:B=gI ps (fV ps b-min (fV ps a) (fV ps b)) b)(h:qE ps A B (min (fV ps a) (fV ps b)) 0 s)(h1:s<min (fV ps a) (fV ps b))(g:gI ps (s+1) A=gI ps (s+1) B):tG ps a b (gI ps (s+1) A) true:=by
 refine .inl ⟨rfl,fV ps a-min (fV ps a) (fV ps b)+(s+1),fV ps b-min (fV ps a) (fV ps b)+(s+1),o_,o_,by rw[vj,<-d],by rw[vj,<-f,g],fun k t' hs ht e=>?_⟩
 obtain⟨m,_,j,c⟩:=K5 hp i hb hs ht e
 rw[<-d,<-f]at c
 have:=h.apart c
 omega
theorem Xz(hp:kM ps)(g:a<ps.length)(hb:b<ps.length)(d:A=gI ps (fV ps a-min (fV ps a) (fV ps b)) a)(f:B=gI ps (fV ps b-min (fV ps a) (fV ps b)) b)(h:qE ps A B (min (fV ps a) (fV ps b)) 0 s)(h1:s=min (fV ps a) (fV ps b)):tG ps a b 0 false:=by
 refine .inr ⟨rfl,rfl,fun k t' hs ht e=>?_⟩
 obtain⟨m,i,j,c⟩:=K5 hp g hb hs ht e
 rw[<-d,<-f]at c
 have:=h.apart c
 omega
end
def rts(lab:List Nat)(i:Nat):List Nat:=(List.range i).filter fun x=>decide (cE lab x=x)
theorem LY{lab:List Nat}:(rts lab i).length<=i:=kS (qU _ _) (Nat.le_of_eq mD)
theorem YX{l:List Nat}(a:l.Nodup){p:Nat->Bool}{x:Nat}(c:x∈l)(hp:p x=true):(l.filter fun i=>(i != x)&&p i).length+1=(l.filter p).length:=by
 have b:(l.filter fun i=>(i != x)&&p i)=(l.filter p).erase x:=by
  rw[List.Nodup.erase_eq_filter (a.sublist pe),EG]
 grind
theorem sF.mx{n x:Nat}(ex:cE lb x=x)(a:cE lb y=y):cE lb (max x y)=max x y/\cE lb (min x y)=min x y:=by
 grind
theorem Tz(h:sF n lb){x:Nat}(f:x<n)(g:y<n)(ex:cE lb x=x)(b:cE lb y=y)(e:x≠y):(rts (jg lb x y) n).length+1=(rts lb n).length:=by
 obtain⟨a,en⟩:=sF.mx (n:=n) ex b
 have c:rts (jg lb x y) n=(List.range n).filter fun i=>(i != max x y)&&decide (cE lb i=i):=by
  unfold rts
  refine AN fun i hi=>?_
  have d:=lV.1 hi
  rw[rV (by rw[h.len];exact d),Bool.eq_iff_iff]
  grind
 rw[c]
 exact YX uy (lV.2 o_) (by simpa using a)
def rP(lb:List Nat)(n:Nat):List Int:=(rts lb n).map fun r=>(lb.count r:Int)
structure oq (n:Nat) (lb:List Nat) (W:List Int) (L:List (Int×Nat)):Prop where
 ok:sF n lb
 wl:W.length=n
 wt:∀ r,r<n->cE lb r=r->cE W r=(lb.count r:Int)
 bo:jq L
 lx:(lex L).Perm (rP lb n)
theorem G9{r:Nat}:r∈rts lb n↔r<n/\cE lb r=r:=by
 grind [rts]
theorem L3:(rts lb n).Nodup:=uy.sublist pe
theorem FV{x r:Nat}(h:x<y):(jg lb x y).count r=if r=x then lb.count x+lb.count y else if r=y then 0 else lb.count r:=by
 induction lb with
 | nil=>simp[jg]
 | cons z lb a =>
  grind [jg]
theorem oq.sz(h:oq n lb W L):mW L<=n:=by
 rw[<-KR,h.lx.length_eq,rP,zm]
 exact LY
theorem oq.el(h:oq n lb W L):∀ p∈L,0<=p.1/\p.1<=(n:Int)/\p.2<=n:=fun p hp=>by
 have a:p.1∈rP lb n:=h.lx.subset ((vR h.bo).2 ⟨p,hp,rfl⟩)
 obtain⟨r,_,e⟩:=zq.1 a
 have d:lb.count r<=n:=h.ok.len▸AR
 have f:p.2<=mW L:=by
  have b:∀ {L:List (Int×Nat)},p∈L->p.2<=mW L:=fun {L} c=>by
   induction L with
   | nil=>cases c
   | cons q L i =>
    grind [rU]
  exact b hp
 have g:=h.sz
 omega
theorem oq.uS(h:oq n lb W L){r:Nat}(a:r<n)(e:cE lb r=r):cE W r∈lex L:=by
 rw[h.wt r a e]
 exact h.lx.symm.subset (zq.2 ⟨r,G9.2 ⟨a,e⟩,rfl⟩)
theorem P3(h:sF n lb){x:Nat}(k:y<n)(ex:cE lb x=x)(f:cE lb y=y)(d:x<y) :
 ∃ R,(rP lb n).Perm ((lb.count x:Int) :: (lb.count y:Int) :: R)/\(rP (jg lb x y) n).Perm (((lb.count x:Int)+(lb.count y:Int)) :: R):=by
 have j:=h.len
 have hm:∀ r,r<n->cE (jg lb x y) r=if cE lb r=y then x else cE lb r:=fun r c=>by
  grind [rV]
 let M:=(rts lb n).filter fun r=>decide (r≠x/\r≠y)
 have g:∀ r,r∈M↔(r<n/\cE lb r=r)/\r≠x/\r≠y:=fun r=>by rw[z7,G9,decide_eq_true_iff]
 have i:M.Nodup:=L3.sublist pe
 have e:(rts lb n).Perm (x :: y :: M):=by
  grind [L3,G9]
 have p2:(rts (jg lb x y) n).Perm (x :: M):=by
  grind [L3,G9]
 refine⟨M.map fun r=>(lb.count r:Int),e.map _,?_⟩
 have a:=p2.map fun r=>((jg lb x y).count r:Int)
 rw[mh,FV d,if_pos rfl]at a
 have b:M.map (fun r=>((jg lb x y).count r:Int))=M.map fun r=>(lb.count r:Int):=wB fun r c=>by
  grind [FV]
 rw[b,Int.natCast_add]at a
 exact a
theorem oq.sub(h:oq n lb W L){x:Nat}(c:y<n)(ex:cE lb x=x)(a:cE lb y=y)(f:x<y):cE W y∈lex (j5 (· - 1) (cE W x) L):=by
 obtain⟨R,d,_⟩:=P3 h.ok c ex a f
 have e:=Gz h.bo (h.uS (show x<n by omega) ex)
 have b:=(e.symm.trans (h.lx.trans d))
 rw[<-h.wt x o_ ex,<-h.wt y c a]at b
 exact(List.Perm.cons_inv b).symm.subset za
theorem oq.join(h:oq n lb W L){x:Nat}(c:y<n)(ex:cE lb x=x)(a:cE lb y=y)(b:x<y) :
 oq n (jg lb x y) (cO W x fun _=>cE W x+cE W y) (j5 (· + 1) (cE W x+cE W y) (j5 (· - 1) (cE W y) (j5 (· - 1) (cE W x) L))):=by
 have g:x<n:=by omega
 have v:=h.ok.len
 have q:sF n (jg lb x y):=by have o:=h.ok.next g c;rwa [ex,a]at o
 obtain⟨R,m,i⟩:=P3 h.ok c ex a b
 refine⟨q,gd.trans h.wl,fun r d e=>?_,rj (rj (rj h.bo)),?_⟩
 . have k:cE (jg lb x y) r=if cE lb r=y then x else cE lb r:=by rw[rV o_,Io (Nat.le_of_lt b),uz (Nat.le_of_lt b)]
   rw[k]at e
   by_cases hrx:r=x
   . subst hrx
     rw[jQ (by rw[h.wl];exact d),FV b,if_pos rfl,h.wt r d ex,h.wt y c a,Int.natCast_add]
   . split at e
     . omega
     . next hne =>
       have p:r≠y:=fun l=>by subst l;exact hne a
       rw[k6 (Ne.symm hrx),FV b,if_neg hrx,if_neg p,h.wt r d e]
 . have b1:=rj (f:=(· - 1)) (x:=cE W x) h.bo
   have s:=Gz h.bo (h.uS g ex)
   have t:=Gz b1 (h.sub c ex a b)
   have u:=KQ (L:=j5 (· - 1) (cE W y) (j5 (· - 1) (cE W x) L)) (x:=cE W x+cE W y)
   have j:=h.lx.trans m
   rw[<-h.wt x g ex,<-h.wt y c a]at j i
   exact u.trans (((List.Perm.cons_inv (List.Perm.cons_inv ((t.cons _).symm.trans (s.symm.trans j)))).cons _).trans i.symm)
structure mM where
 a:Int
 c:Nat
 s:Nat
instance:Inhabited mM:=⟨⟨0,0,0⟩⟩
def mM.cells(x:mM):List Value:=[.int .i64 x.a,.int .i64 (x.c:Int),.int .i64 (x.s:Int)]
def BZ(l:List Int):Int:=l.foldl max 0
def gB(n:Nat)(lb:List Nat):mM:=⟨BZ (rP lb n),(rts lb n).length,ue (rP lb n)⟩
theorem acn(l:List Int):0<=BZ l/\(∀ x∈l,x<=BZ l)/\(BZ l=0\/BZ l∈l):=by
 have key:∀ (l:List Int) (a:Int),a<=l.foldl max a/\(∀ x∈l,x<=l.foldl max a)/\(l.foldl max a=a\/l.foldl max a∈l):=by
  intro l
  induction l with
  | nil =>
   grind
  | cons y l b =>
   grind
 exact key l 0
theorem oq.mx(h:oq n lb W L):s9 L=BZ (rP lb n):=by
 obtain⟨f,c,a⟩:=acn (rP lb n)
 by_cases h0:L=[]
 . subst h0
   have b:rP lb n=[]:=List.Perm.eq_nil h.lx.symm
   rw[b]
   rfl
 . obtain⟨b,d⟩:=abq h.bo h0
   have g:=c _ (h.lx.subset b)
   rcases a with a|a
   . obtain⟨p,hp,e⟩:=(vR h.bo).1 b
     have:=(h.el p hp).1
     omega
   . have:=d _ (h.lx.symm.subset a)
     omega
theorem oq.sq(h:oq n lb W L):mV L=ue (rP lb n):=(RK L).trans (aay h.lx)
structure rF (n k:Nat) (W:List Int) (L:List (Int×Nat)):Prop where
 wl:W.length=n
 w1:∀ i,i<k->cE W i=1
 bo:jq L
 lx:(lex L).Perm (List.replicate k 1)
theorem rF.start:rF n 0 (List.replicate n 0) []:=⟨oK,fun i h=>absurd h (wF i),⟨List.Pairwise.nil,fun _ h=>by cases h⟩,List.Perm.refl _⟩
theorem rF.next(h:rF n k W L)(hk:k<n):rF n (k+1) (cO W k fun _=>1) (j5 (· + 1) 1 L) :=
 ⟨gd.trans h.wl,fun i hi=>by
  by_cases e:i=k
  . subst e;exact jQ (by rw[h.wl];exact hk)
  . rw[k6 (fun q=>e q.symm)];exact h.w1 i o_,rj h.bo,KQ.trans (h.lx.cons 1)⟩
theorem rF.sz(h:rF n k W L):mW L=k:=by rw[<-KR,h.lx.length_eq,oK]
theorem rF.fin(h:rF n n W L):oq n (List.range n) W L:=by
 have d:rts (List.range n) n=List.range n:=vq.2 fun i hi=>decide_eq_true (mY (lV.1 hi))
 have c:∀ i,i<n->(List.range n).count i=1:=fun i hi=>List.Nodup.count uy |>.trans (if_pos (lV.2 hi))
 refine⟨sF.range,h.wl,fun r a _=>by rw[h.w1 r a,c r a];rfl,h.bo,h.lx.trans ?_⟩
 have e:rP (List.range n) n=List.replicate n 1:=by
  unfold rP
  rw[d]
  refine Nt.2 ⟨s_,fun b hb=>?_⟩
  grind
 rw[e]
theorem V2(h:0<y):(2*y) &&& (2*y-1)=2*(y &&& (y-1)):=by
 apply Nat.eq_of_testBit_eq
 intro i
 rw[Nat.testBit_and]
 cases i with
 | zero=>simp[Nat.testBit_zero]
 | succ i=>rw[Ez,Ez,Ez,show 2*y / 2=y by omega,show (2*y-1) / 2=y-1 by omega,show 2*(y &&& (y-1)) / 2=y &&& (y-1) by omega,Nat.testBit_and]
theorem V3{m:Nat}:(2*m+1) &&& (2*m+1-1)=2*m:=by
 rw[wC]
 apply Nat.eq_of_testBit_eq
 intro i
 rw[Nat.testBit_and]
 cases i with
 | zero=>simp[Nat.testBit_zero]
 | succ i=>rw[Ez,Ez,show (2*m+1) / 2=m by omega,show 2*m / 2=m by omega,Bool.and_self]
theorem V4(k m:Nat):(2 ^ k*(2*m+1)) &&& (2 ^ k*(2*m+1)-1)=2 ^ k*(2*m+1)-2 ^ k:=by
 induction k with
 | zero=>rw[Nat.pow_zero,Nat.one_mul,V3];omega
 | succ k b =>
  have a:0<2 ^ k*(2*m+1):=Nat.mul_pos (Nat.pow_pos d_) o_
  have e:2 ^ (k+1)*(2*m+1)=2*(2 ^ k*(2*m+1)):=by rw[EL,Nat.mul_comm (2 ^ k) 2,Nat.mul_assoc]
  rw[e,V2 a,b,EL]
  omega
theorem JP{x:Nat}(c:x≠0)(h:x<2 ^ 64):x &&& (x-1)=x-2 ^ Lib.ctz 64 x/\2 ^ Lib.ctz 64 x<=x:=by
 obtain⟨m,hm,d⟩:=Lib.ctzFrom_spec 64 x o_ h
 have e:Lib.ctz 64 x=Lib.ctzFrom 64 x:=by simp[Lib.ctz,c]
 rw[e]
 have a:=V4 (Lib.ctzFrom 64 x) m
 rw[<-hm]at a
 refine⟨a,?_⟩
 have b:2 ^ Lib.ctzFrom 64 x*1<=2 ^ Lib.ctzFrom 64 x*(2*m+1):=CH _ o_
 rw[<-hm,tF]at b
 exact b
theorem XW{x:Nat}(a:x≠0)(h:x<8192):Lib.ctz 64 x<13:=by
 have c:=(JP a (qA h d_)).2
 apply Nat.lt_of_not_le
 intro b
 have d:2 ^ 13<=2 ^ Lib.ctz 64 x:=Nat.pow_le_pow_right d_ b
 have e:(2:Nat) ^ 13=8192:=by decide
 omega
structure CY (ps:List Int) (v0 d0 d v:Nat):Prop where
 le:d<=d0
 at_:v=gI ps (d0-d) v0
theorem CY.next{ps:List Int}{b a d v:Nat}(hp:kM ps)(hv:b<ps.length)(hd:a<=fV ps b)(i:a<8192)(h:CY ps b a d v)(e:d≠0) :
 v<ps.length/\cE (jM ps (Lib.ctz 64 d)) v=((gI ps (2 ^ Lib.ctz 64 d) v:Nat):Int)/\CY ps b a (d &&& (d-1)) (gI ps (2 ^ Lib.ctz 64 d) v):=by
 have g:=h.le
 obtain⟨c,l⟩:=JP e (Nat.lt_of_le_of_lt g (qA i d_))
 obtain⟨a1,a2,_⟩:=rz hp hv (k:=a-d) o_
 rw[<-h.at_]at a1 a2
 have f:=KE hp a1 (j:=Lib.ctz 64 d)
 generalize 2 ^ Lib.ctz 64 d=E at *
 refine⟨a1,f o_,by rw[c];omega,?_⟩
 rw[c,show a-(d-E)=(a-d)+E by omega,vj,<-h.at_]
theorem fR.JH{de cQ:Nat}(h:s.ok de cQ)(l:s.t.A.ok){u v:Int}(g:u≠v){L:List Lv}{K:List Int}(z:L.length<cQ)(n:∀ x,s.has x->x∈L)(m:∀ x,s.has x->x.u∈K/\x.v∈K)(q:u∈K)(hv:v∈K)(hk:K.length<=de):s.gO de cQ u v=0:=by
 have k:((s.A.list s.A.begun).map fun i:Nat=>(i:Int)).length<=(L.map Lv.slot).length:=zV _ _ (by
  rw[List.Nodup,Ij]
  exact(s.A.DK _).imp fun {a b} B e=>by omega) fun j p=>by
  obtain⟨i,hi,rfl⟩:=zq.1 p
  have f:=(h.lY.qh i).1 hi
  exact zq.2 ⟨_,n _ ⟨i,f,rfl⟩,h.slot i f⟩
 rw[zm,zm,h.lY.BX]at k
 obtain⟨c,k1,C,w⟩:=TW.JB h.tok l g
 have y:c.length<=K.length:=zV c K k1 fun x r=>by
  rcases(w x).1 r with hm|rfl|rfl
  . obtain⟨i,hi,o⟩:=(h.mem x).1 hm
    have d:=m _ ⟨i,hi,rfl⟩
    rcases o with e|e
    . rw[<-e];exact d.1
    . rw[<-e];exact d.2
  . exact q
  . exact hv
 exact fR.BB g o_ o_
structure WW.Ins (c:WC) (s s2:WW) (x:Lv):Prop where
 has:∃ i:Nat,∀ y,s2.u.has y↔(s.u.has y/\x.t<y.exp)\/y=⟨(i:Int),s.u.last+1,x.u,x.v,x.wt,x.t,x.t+c.win⟩
 last:s2.u.last=s.u.last+1
 now:s2.now=x.t
 added:s2.added=s.added+1
structure WW.NG (c:WC) (s s2:WW) (x:Lv) (e:Int):Prop where
 step:WW.Step s s2 x
 ins:e=0->WW.Ins c s s2 x
 room:s.u.gO c.de c.cQ x.u x.v=0->e=0
abbrev cW:WC:=⟨10,4,4,4⟩
abbrev wE(i:Nat)(q u v w t:Int):Lv:=⟨(i:Int),q,u,v,w,t,t+10⟩
section
variable{s s1:WW}
theorem ahS(b:∀ y,¬ s.u.has y)(c:s.u.last=0)(h:WW.Ins cW s s1 ⟨0,0,1,2,5,0,0⟩):(∃ i,∀ y,s1.u.has y↔y=wE i 1 1 2 5 0)/\s1.u.last=1:=by
 obtain⟨⟨i,hi⟩,a,_,_⟩:=h
 rw[c]at a hi
 exact⟨⟨i,fun y=>(hi y).trans ⟨fun h=>h.elim (fun h=>absurd h.1 (b y)) id,.inr⟩⟩,a⟩
theorem ahT(c:∀ y,s1.u.has y↔y=wE i 1 1 2 5 0)(d:s1.u.last=1)(h:WW.Ins cW s1 s2 ⟨0,0,2,3,7,4,0⟩):(∃ j,∀ y,s2.u.has y↔y=wE i 1 1 2 5 0\/y=wE j 2 2 3 7 4)/\s2.u.last=2:=by
 obtain⟨⟨j,b⟩,a,_,_⟩:=h
 rw[d]at a b
 refine⟨⟨j,fun y=>(b y).trans (or_congr_left ?_)⟩,a⟩
 rw[c]
 exact⟨fun h=>h.1,fun h=>⟨h,by rw[h];show (4:Int)<0+10;decide⟩⟩
theorem ahU(b:∀ y,s2.u.has y↔y=wE i 1 1 2 5 0\/y=wE j 2 2 3 7 4)(c:s2.u.last=2)(h:WW.Ins cW s2 s3 ⟨0,0,1,3,9,6,0⟩) :
 ∃ k,∀ y,s3.u.has y↔(y=wE i 1 1 2 5 0\/y=wE j 2 2 3 7 4)\/y=wE k 3 1 3 9 6:=by
 obtain⟨⟨k,a⟩,_,_,_⟩:=h
 rw[c]at a
 refine⟨k,fun y=>(a y).trans (or_congr_left ?_)⟩
 rw[b]
 refine⟨fun h=>h.1,fun h=>⟨h,?_⟩⟩
 rcases h with rfl|rfl
 . exact(by decide:(6:Int)<0+10)
 . exact(by decide:(6:Int)<4+10)
def mU:List Ge:=[⟨0,1,5⟩,⟨1,2,7⟩,⟨0,2,9⟩]
theorem ahW{de cQ:Nat}(U:s3.u.ok de cQ)(h:∀ y,s3.u.has y↔(y=wE i 1 1 2 5 0\/y=wE j 2 2 3 7 4)\/y=wE k 3 1 3 9 6){K:List Int}{L:List Lv}(R:s3.u.oc K)(S:s3.u.lX L)(s:mE K L es L.length):K=[1,2,3]/\L.length=3/\es=mU:=by
 have e1:L=[wE i 1 1 2 5 0,wE j 2 2 3 7 4,wE k 3 1 3 9 6]:=S.uniq ⟨fun x=>by rw[h];simp[or_assoc],s_⟩
 have P:K=[1,2,3]:=R.uniq ⟨s_,fun x=>by
  rw[U.mem]
  constructor
  . intro l
    simp only[ze,pn,or_false]at l
    rcases l with rfl|rfl|rfl
    . obtain⟨n,c,e⟩:=(h (wE i 1 1 2 5 0)).2 (.inl (.inl rfl));exact⟨n,c,by rw[e];exact .inl rfl⟩
    . obtain⟨n,c,e⟩:=(h (wE i 1 1 2 5 0)).2 (.inl (.inl rfl));exact⟨n,c,by rw[e];exact .inr rfl⟩
    . obtain⟨n,c,e⟩:=(h (wE j 2 2 3 7 4)).2 (.inl (.inr rfl));exact⟨n,c,by rw[e];exact .inr rfl⟩
  . rintro⟨n,c,m⟩
    rcases(h _).1 ⟨n,c,rfl⟩with (e|e)|e<;>rw[e]at m<;>rcases m with rfl|rfl<;>simp⟩
 subst e1 P
 refine⟨rfl,rfl,?_⟩
 have T:=s.len
 have f:∀ n:Nat,n<3->ND [1,2,3] (cE [wE i 1 1 2 5 0,wE j 2 2 3 7 4,wE k 3 1 3 9 6] n) (cE es n):=fun n c=>s.fst n c
 have g:∀ a:Nat,a<3->∀ x:Int,cE ([1,2,3]:List Int) a=x->(a:Int)+1=x:=fun a m x l=>by
  match a,m with
  | 0,_=>exact l
  | 1,_=>exact l
  | 2,_=>exact l
 match es,T,f with
 | [a,b,d],_,f =>
  have fa:=f 0 d_
  have fb:=f 1 d_
  have Q:=f 2 d_
  obtain⟨a1,a2,a3,t,v⟩:=fa
  obtain⟨b1,b2,b3,A,B⟩:=fb
  obtain⟨F,G,H,I,J⟩:=Q
  have w:=g _ a1 _ a3;have z:=g _ a2 _ t
  have C:=g _ b1 _ b3;have D:=g _ b2 _ A
  have M:=g _ F _ H;have N:=g _ G _ I
  obtain⟨o,p,aw⟩:=a
  obtain⟨q,bv,E⟩:=b
  obtain⟨r,dv,O⟩:=d
  change (o:Int)+1=1 at w;change (p:Int)+1=2 at z;change aw=5 at v
  change (q:Int)+1=2 at C;change (bv:Int)+1=3 at D;change E=7 at B
  change (r:Int)+1=1 at M;change (dv:Int)+1=3 at N;change O=9 at J
  have:o=0:=by omega
  have:p=1:=by omega
  have:q=1:=by omega
  have:bv=2:=by omega
  have:r=0:=by omega
  have:dv=2:=by omega
  subst_vars
  rfl
end
theorem ahO(h:ij .u64 x):x=IntKind.u64.wrap (x+((0:Nat):Int)):=by
 have a:0<=x/\x<=18446744073709551615:=h
 rw[IntKind.wrap_u64]
 omega
theorem ahP:IntKind.u64.wrap (IntKind.u64.wrap (x+k)+1)=IntKind.u64.wrap (x+((k+1:Nat):Int)):=by
 rw[IntKind.wrap_u64,IntKind.wrap_u64,IntKind.wrap_u64]
 omega
def WW.p5(n:Nat)(s s2:WW):Prop:=∃ d:Nat,d<=n/\IntKind.u64.wrap (s2.added+s2.oS)=IntKind.u64.wrap (s.added+s.oS+d)/\(d=0->∀ y,s2.u.has y↔s.u.has y)
theorem WW.p5.refl(n:Nat)(s:WW):WW.p5 n s s:=⟨0,ko _,s_,fun _ _=>Iff.rfl⟩
theorem WW.p5.trans{a b:Nat}{s:WW}(h:WW.p5 a s s2)(k:WW.p5 b s2 s3):WW.p5 (a+b) s s3:=by
 obtain⟨d,g,i,c⟩:=h
 obtain⟨e,k1,j,f⟩:=k
 refine⟨d+e,o_,?_,fun h y=>(f o_ y).trans (c o_ y)⟩
 rw[IntKind.wrap_u64,IntKind.wrap_u64]at *
 omega
theorem WW.p5.eq{s:WW}(h:WW.p5 n s s2)(f:n<=1000000)(e:IntKind.u64.wrap (s2.added+s2.oS)=IntKind.u64.wrap (s.added+s.oS)):∀ y,s2.u.has y↔s.u.has y:=by
 obtain⟨d,c,a,b⟩:=h
 refine b ?_
 rw[e,IntKind.wrap_u64,IntKind.wrap_u64]at a
 omega
theorem pH.HM{s:WW}(h:pH s.u s2.u ds)(b:s2.added=s.added)(c:s2.oS=IntKind.u64.wrap (s.oS+ds.length))(d:ds.length<=n):WW.p5 n s s2:=by
 refine⟨ds.length,d,?_,fun a y=>?_⟩
 . rw[b,c,IntKind.wrap_u64,IntKind.wrap_u64,IntKind.wrap_u64]
   omega
 . rw[h.has,Ey.1 a]
   simp
theorem WW.p5.ins{s:WW}(a:s2.added=s.added+1)(b:s2.oS=s.oS):WW.p5 1 s s2 :=
 ⟨1,zh _,by rw[a,b];congr 1;omega,fun h=>by cases h⟩
theorem ahV:pq mU 3 [0,1]:=⟨[0,1,2],⟨List.Perm.refl _,d_⟩,d_⟩
theorem Vl:(fO mU 3 [0,1]).p=[3,3,4,4,-1]/\(fO mU 3 [0,1]).h=[0,0,0,5,7]/\(fO mU 3 [0,1]).s=[1,1,1,2,3]:=by decide
theorem Ng{f:List Nat}(h:iN es n f)(a:es=mU)(b:n=3):f=[0,1]:=by
 subst a b
 exact h.f.uniq ahV
section
variable{f:List Nat}(h:iN mU 3 f)
include h
theorem Vm:gJ mU 3 f (jK (fO mU 3 f).p (fO mU 3 f).h 7 2)=0/\cE (fO mU 3 f).s (jK (fO mU 3 f).p (fO mU 3 f).h 7 2)=3:=by
 have hp:=h.rY
 obtain rfl:=Ng h rfl rfl
 obtain⟨e1,a,b⟩:=Vl
 rw[e1]at hp
 rw[e1,a,b,FU hp d_ d_ d_]
 show gJ mU 3 [0,1] (jK _ _ 7 4)=0/\cE _ (jK _ _ 7 4)=3
 rw[FR d_]
 decide
theorem ahY{z:Nat}{B:Bool}(hc:tG (fO mU 3 f).p 0 2 z B):B=true/\cE (fO mU 3 f).h z=7:=by
 have hp:=h.rY
 obtain rfl:=Ng h rfl rfl
 obtain⟨e1,l,o⟩:=Vl
 rw[e1]at hp hc
 rw[l]
 have d:fV [3,3,4,4,-1] 4=0:=FX d_
 have k:fV [3,3,4,4,-1] 3=1:=by rw[BE hp (j:=3) (i:=4) d_ d_,d]
 have b:fV [3,3,4,4,-1] 0=2:=by rw[BE hp (j:=0) (i:=3) d_ d_,k]
 have c:fV [3,3,4,4,-1] 2=1:=by rw[BE hp (j:=2) (i:=4) d_ d_,d]
 rcases hc with ⟨rfl,s,t,e,g,m,a,_⟩|⟨_,_,n⟩
 . rw[b]at e
   rw[c]at g
   refine⟨rfl,?_⟩
   subst m
   match s,e,t,g,a with
   | 0,_,0,_,a=>exact absurd a d_
   | 0,_,1,_,a=>exact absurd a d_
   | 1,_,0,_,a=>exact absurd a d_
   | 1,_,1,_,a=>exact absurd a d_
   | 2,_,0,_,a=>exact absurd a d_
   | 2,_,1,_,_=>decide
 . exact absurd d_ (n 2 1 (by rw[b];exact zh _) (by rw[c];exact zh _))
theorem ahX:f=[0,1]/\(pR mU 3 f f.length).map (fun m=>(m.a,m.b,m.h))=[(0,1,5),(0,2,7)]:=by
 obtain rfl:=Ng h rfl rfl
 exact⟨rfl,d_⟩
end
def Gw(w w' : World):Prop:=∃ q os,w' = Go.Sort.grow (w.drewN q) os
theorem Gw.drew(w:World):Gw w w.drew:=⟨1,#[],by rw[Go.Sort.grow_empty];rfl⟩
theorem Gw.alloc(h:Gw w w')(o:Obj):Gw w (w'.alloc o):=by
 obtain⟨q,os,rfl⟩:=h
 exact⟨q,os ++ #[o],by rw[Go.Sort.alloc_eq_grow,Go.Sort.grow_grow]⟩
section
variable{r:Option Nat}{ops:Array Oper}{rest:List Oper}{d:Nat}{ds:List Deferred}{s:List (Nat×Value)}{L:List fJ}{w0:World}{e ty:TypeId}{pos:String}{af:Array Edge}{g:Option (Nat×Bool)}{sz by_:Nat}
theorem WO{len:Nat}{ps:List (Nat×Operand)}{vs:List Value}(f:Gw w0 w)(i:gA ops n s g=true)(hp:ps.map (fun q=>(q.1,ev n s q.2))=idx 0 vs)(ht:P.underlying t=some (.slice e))(hi:TI P e sz by_ z)(j:vs.length=len)(hv:∀ v∈vs,v.cells.size=sz)(hcs:vs.flatMap (·.cells.toList)=cs)(c:Nat.ble (len*sz) 16777216=true)(a:Nat.ble len 16777216=true)(k:St bs L w)(K:∀ b w', St bs (row (.slice (some ⟨b,0,none⟩) len len) e sz len cs :: L) w' -> Gw w0 w' -> WL r P ops Q rest (Fr n ((d,.slice (some ⟨b,0,none⟩) len len) :: s) ds) w') :
 WL r P ops Q (⟨some d,.buildSlice t len ps.toArray,ty,pos,af,g⟩ :: rest) (Fr n s ds) w:=by
 subst j hcs
 have h:(vs.flatMap (·.cells.toList)).length=vs.length*sz:=by
  clear hp c a K
  induction vs with
  | nil=>simp
  | cons v vs m=>simp only[zz,zk,zb,ux,hv v s_,m (fun u l=>hv u (by simp[l])),tE];omega
 refine pv i rfl (Ph hp ht hi ?_ (qV c)) (K _ _ (Sj k e sz _ _ h (by have:=qV a;simp only[maxLen];omega)) (f.alloc _))
 rw[Qy sz vs 0 _ hv s_]
 simp
end
def BA(dl:List Nat):List Deferred:=dl.map fun d=>⟨.collected d,#[]⟩
def ua(dl:List Nat):fJ:=fN (dl.map fun d=>jy d (some []))
section
variable{r:Option Nat}{s:List (Nat×Value)}
def Ny{α:Type}(n:Nat)(D:α->List Nat)(pre:α->List (Nat×Value))(C:α->World->Prop)(μ:α->Nat)(m:Nat)(a:Act)(w:World):Prop :=
 ∃ x s,a=Fr n s (BA (D x))/\Holds s (pre x)/\C x w/\μ x<m
theorem OX{α:Type}{D:α->List Nat}{pre:α->List (Nat×Value)}{C:α->World->Prop}{μ:α->Nat}{m:Nat}(x:α)(h:Holds s (pre x))(a:C x w)(hm:μ x<m):Ny n D pre C μ m (Fr n s (BA (D x))) w :=
 ⟨x,s,rfl,h,a,hm⟩
theorem RG{α:Type}{c:Code}(D:α->List Nat)(pre:α->List (Nat×Value))(C:α->World->Prop)(μ:α->Nat)(h:α)(q:Holds s (pre h))(t:C h w)(H:∀ x I w', C x w' -> WP r P c (Exit.then (Ny n D pre C μ (μ x)) Q) (Fr n (pre x++I) (BA (D x))) w'):WP r P (.loop c) Q (Fr n s (BA (D h))) w:=by
 intro b k cs E hb i
 have key:∀ j x s w,μ x=j->Holds s (pre x)->C x w ->
  ∃ e a' w', Q e a' w' /\ ArrivesIn (Machine.fenced P (FW r)) P (lone (b.atR (Fr n s (BA (D x))) (.code c :: .inLoop c :: k)) cs w) b k cs e a' w' := by
  intro j
  induction j using Nat.strongRecOn with
  | _ j G =>
   intro x s w A hs v
   obtain⟨e,g,f,d,a⟩:=H x s w v b (.inLoop c :: k) cs E hb i
   rw[<-NB (pre x) hs]at a
   cases e with
   | normal =>
    obtain⟨m,J,rfl,F,u,z⟩:=d
    obtain⟨p,o,K,B,y⟩:=G (μ m) (A▸z) m J f rfl F u
    exact⟨p,o,K,B,.of_steps (StepsIn.trans a (.one (fenced_calm hb i rfl) stepR_inLoop)) y⟩
   | exit id=>exact⟨_,g,f,d,.pass (x:=.inLoop c) rfl (fun _ _=>.inl s_) a⟩
   | goto l=>exact⟨_,g,f,d,.pass (x:=.inLoop c) rfl (fun _ _=>.inl s_) a⟩
   | ret=>exact⟨_,g,f,d,.pass (x:=.inLoop c) rfl (fun _ _=>.inl s_) a⟩
   | panic ch=>exact⟨_,g,f,d,.pass (x:=.inLoop c) rfl (fun _ _=>.inl s_) a⟩
   | outgrown=>exact⟨_,g,f,d,.pass (x:=.inLoop c) rfl (fun _ _=>.inl s_) a⟩
 obtain⟨e,a', w', d,a⟩:=key _ h s w rfl q t
 exact⟨e,a', w', d,.of_steps (.one (fenced_calm hb i rfl) stepR_loop) a⟩
variable{L:List fJ}{d:Nat}{dl:List Nat}{fn:Func}{tmps:Array Value}{RR:Ending->World->Prop}
theorem St.Qc(h:St bs L w):St bs (ua [] :: L) w:=St.pack [] L h
theorem St.Qd(h:St bs (jy d (some []) :: ua dl :: L) w):St bs (ua (d :: dl) :: L) w:=by
 have a:St bs ((dl.map fun d=>jy d (some []))++(jy d (some []) :: L)) w:=St.unpack h.swap
 exact St.pack _ _ (a.perm sA)
theorem Gv:∀ (dl:List Nat) {w:World},St bs (ua dl :: L) w->(∀ w', St bs L w' -> ∃ v,(results fn tmps).run P w' = .ok v w' /\ RR (.returned v) w')->LeavesInM (FW none) 0 P fn tmps RR (BA dl) .returning w
 | [],w,hst,K=>K w (St.unpack (A:=[]) hst)
 | d :: dl,w,hst,K=>by
  have a:St bs (jy d (some []) :: ((dl.map fun d=>jy d (some []))++L)) w:=St.unpack hst
  refine⟨s_,.inl ⟨d,_,rfl,run_takeDeferred (a.own _ za),Gv dl ?_ K⟩⟩
  have b:=(a.Ta (i:=0) rfl none).sub (Nr _ _)
  exact St.pack _ _ b
end
def Ab(b:Bool)(rc:Loop):Loop:=if b then { rc with state:=.done,pending:=some .ret } else rc
section
variable{ops:Array Oper}{rest:List Oper}{s:List (Nat×Value)}{ds:List Deferred}
variable{x:Operand}{l:Nat}{L LL:List fJ}{rc:Loop}
theorem Qk{R:Ending->World->Prop}{a:Act}(i:Nat)(b:St bs L w)(hi:L[i]? = some (gK l { rc with state:=.busy }))(c:L.set i (gK l (Ab true rc))=LL)(K:∀ w', St bs LL w' -> R (.returned (.bool false)) w'):roundPost P l R .ret a w:=by
 refine⟨_,_,run_endRound (some .ret) (b.zQ hi),K _ ?_⟩
 subst c
 exact b.DW hi _
theorem rfx{f:FuncId}{fi ca:List Value}{ps:List Nat}{a c:Code}{α:Type}(j:α->List fJ)(C:α->Prop)(stop:α->Bool)(A:St bs L w)(B:ev n s x = .func (.func f) fi.toArray ca.toArray)(t:wG P f)(h1:∀ fn dd l o rc,rc=(⟨.ready,none,fn,(Fr n s ds).tmps,ps.toArray,a,c,dd⟩:Loop)->St bs (gK l rc :: jy dd (some []) :: L) o ->
  CR P f (fi++[Value.func (.yield l) #[] #[]]++ca).toArray o (fun _ p=>∃ z,C z/\St bs (gK l (Ab (stop z) rc) :: jy dd (some []) :: j z) p))(q:∀ z dd g,C z->stop z=false->St bs (jy dd (some []) :: j z) g->Q .normal (Fr n s (⟨.collected dd,#[]⟩ :: ds)) g)(r:∀ z dd g,C z->stop z=true->St bs (jy dd (some []) :: j z) g->Q .ret (Fr n s (⟨.collected dd,#[]⟩ :: ds)) g):WP none P (.rangeFunc x ps.toArray a c) Q (Fr n s ds) w:=by
 refine wpIn_rangeFunc fun fn _=>?_
 have u:St bs (jy w.heap.size (some []) :: L) (w.alloc (.deferred (some []))) :=
  A.tS (gE.alloc [] w _) (fun b hb=>by simp[jy]at hb;omega) (by simp[jy]) (fun b hb=>by simp[jy]at hb;simp;omega) (World.alloc_heap_new w _)
 have y:St bs (gK (w.heap.size+1) ⟨.ready,none,fn,(Fr n s ds).tmps,ps.toArray,a,c,w.heap.size⟩ :: jy w.heap.size (some []) :: L) ((w.alloc (.deferred (some []))).alloc (.loop ⟨.ready,none,fn,(Fr n s ds).tmps,ps.toArray,a,c,w.heap.size⟩)) :=
  u.tS (gE.alloc [] _ _) (fun b hb=>by simp[gK]at hb;simp;omega) (by simp[gK]) (fun b hb=>by simp[gK]at hb;simp;omega) (by have:=World.alloc_heap_new (w.alloc (.deferred (some []))) (.loop ⟨.ready,none,fn,(Fr n s ds).tmps,ps.toArray,a,c,w.heap.size⟩);simpa[gK]using this)
 refine⟨w.heap.size+1,_,_,⟨.fn (.func f) ca.toArray,(fi++[Value.func (.yield (w.heap.size+1)) #[] #[]]).toArray⟩,((w.alloc (.deferred (some []))).alloc (.loop ⟨.ready,none,fn,(Fr n s ds).tmps,ps.toArray,a,c,w.heap.size⟩)),f,(fi++[Value.func (.yield (w.heap.size+1)) #[] #[]]++ca).toArray,((w.alloc (.deferred (some []))).alloc (.loop ⟨.ready,none,fn,(Fr n s ds).tmps,ps.toArray,a,c,w.heap.size⟩)),run_enterLoop_outer fn _ _ _ _,?_,fun _ _=>trivial,?_,fun h=>by simp[FW]at h,?_⟩
 . rw[tK]
   simp only[resolve,rangeCall,Deferred.ofValue,B]
   simp[ev]
 . have:=t ((fi++[Value.func (.yield (w.heap.size+1)) #[] #[]]++ca).toArray) ((w.alloc (.deferred (some []))).alloc (.loop ⟨.ready,none,fn,(Fr n s ds).tmps,ps.toArray,a,c,w.heap.size⟩))
   simp only[invoke]
   simpa using this
 . refine Dv.2 (Calls.mono (h1 fn w.heap.size (w.heap.size+1) _ _ rfl y) ?_)
   rintro e p ⟨v,rfl,z,k,d⟩
   have m:=fun D => (d.DW (i:=0) rfl D).sub (Nr _ _)
   cases hz:stop z with
   | false =>
    rw[hz]at d
    refine⟨none,_,run_endLoop (d.zQ (i:=0) rfl) (by simp[Ab]),?_⟩
    exact q z w.heap.size _ k hz (m _)
   | true =>
    rw[hz]at d
    refine⟨some .ret,_,run_endLoop (d.zQ (i:=0) rfl) (by simp[Ab]),?_⟩
    exact wpIn_ret (r z w.heap.size _ k hz (m _))
end
section
variable{α:Type}[Inhabited α]{cf:α->List Value}
theorem QC(a:∀ x:α,(cf x).length=k)(hk:0<k)(d:Array α):(Go.Sort.flatK cf k d).toList=d.toList.flatMap cf:=by
 apply mS
 intro t
 by_cases ht:t<d.size*k
 . have c:t / k<d.size:=(zdt hk).2 ht
   have b:t%k<k:=AZ _ hk
   have h:d.toList[t / k]? = some d[t / k]:=by simp[c]
   have i:(cf d[t / k])[t%k]? = some ((cf d[t / k])[t%k]'(by rw[a];exact b)):=zy (by rw[a];exact b)
   have e:=vL a d.toList (t / k) (t%k) _ _ h i
   have j:t / k*k+t%k=t:=CN t k
   rw[j]at e
   rw[e]
   have f:=Go.Sort.get_flatK cf k d t ht
   have g:t<(Go.Sort.flatK cf k d).size:=by simpa using ht
   rw[AQ,wz g]
   rw[getElem!_pos _ t g]at f
   rw[f,getElem!_pos d _ c,getElem!_pos _ _ (by rw[a];exact b)]
 . rw[nW (by simp;omega),nW (by rw[pP a];simp;omega)]
variable{v:Value}{xs:List α}{e:TypeId}{f:FuncId}{fv:Value}{lt:α->α->Bool}
theorem aac{b:Nat}{cur:Array Value}(h:∀ x:α,(cf x).length=k)(hk:0<k)(d:w.heap[b]? = some (.cells cur e (0,0)))(f:cur.toList.take (xs.length*k)=xs.flatMap cf):Go.Sort.HoldsK cf k w b 0 xs.toArray:=by
 intro j a
 have g : j<xs.length*k:=by simpa using a
 have c:(cur.toList.take (xs.length*k))[j]? = (Go.Sort.flatK cf k xs.toArray).toList[j]? := by rw[f,QC h hk]
 rw[Ew g, AQ,AQ,wz a]at c
 refine⟨?_,?_⟩
 . simp only[World.cell?,d]
   rw[getElem!_pos _ j a]
   simpa using c
 . simp[World.frozen?,d]
theorem afB(u:∀ x:α,(cf x).length=k)(hk:0<k)(z:Own (cL cf v e k xs) w)(I:xs.length<4611686018427387904)(C:Calls P f #[.slice none 0 0,fv] w fun e w' => e = .returned (.tuple #[])/\w' = w)(F:∀ blk m (d:Array α),Go.Sort.HoldsK cf k w blk 0 d->blk<w.heap.size->d.size<4611686018427387904->Calls P f #[.slice (some ⟨blk,0,none⟩) d.size m,fv] w fun e w' =>
  e = .returned (.tuple #[])/\∃ c n os,Go.Sort.PermIn 0 d.size d c /\ Go.Sort.SortedIn lt 0 d.size c /\ w' = Go.Proofs.sortWorldK cf k w blk 0 n c os) :
 CR P f #[v,fv] w (fun r w' => r = .tuple #[]/\∃ ys:List α,ys.Perm xs/\ys.Pairwise (fun a b=>lt b a=false)/\fP (cL cf v e k xs) w w' (cL cf v e k ys)):=by
 have M:w.ownsRow 0 e k v xs.length (xs.flatMap cf):=z.holds
 rcases M.2 with ⟨rfl,o⟩|⟨g, m,cur,rfl,hb,s,o,D,y,E⟩
 . obtain rfl:xs=[]:=Ey.1 o
   refine Calls.mono C ?_
   rintro en w' ⟨rfl,rfl⟩
   exact⟨_,rfl,rfl,[],List.Perm.refl _,List.Pairwise.nil,fP.refl z⟩
 . have A:g < w.heap.size:=(su.1 s).1
   have hs:=F g m xs.toArray (aac u hk s E) A (by simpa using I)
   rw[List.size_toArray]at hs
   refine Calls.mono hs ?_
   rintro en w' ⟨rfl,c, n,os,hp,Q,rfl⟩
   have h:c.size=xs.length:=by simpa using hp.1
   have N:c.toList.Perm xs:=by
    have p:=hp.2.2
    have e1:c.extract 0 xs.length=c := by rw[<-h];exact Array.extract_size
    have B:xs.toArray.extract 0 xs.length=xs.toArray:=by rw[show xs.length=xs.toArray.size by simp];exact Array.extract_size
    rwa [e1,B]at p
   have K:(Go.Proofs.sortWorldK cf k w g 0 n c os).heap[g]? = some (.cells (Go.Sort.putCells id 0 (Go.Sort.flatK cf k c) cur) e (0,0)):=by
    simp only[Go.Proofs.sortWorldK,Go.Sort.grow,Go.Sort.putRowK,Go.Sort.putRow,Go.Sort.mapBlock,Go.Sort.ahead]
    rw[Nj (by simpa using A),EC,if_pos rfl,s]
    rfl
   have L:∀ b,b<w.heap.size->b≠g -> (Go.Proofs.sortWorldK cf k w g 0 n c os).heap[b]? = w.heap[b]? := by
    intro b hb J
    simp only[Go.Proofs.sortWorldK,Go.Sort.grow,Go.Sort.putRowK,Go.Sort.putRow,Go.Sort.mapBlock,Go.Sort.ahead]
    rw[Nj (by simpa using hb),EC,if_neg (fun e=>J e.symm)]
   have R:w.heap.size<=(Go.Proofs.sortWorldK cf k w g 0 n c os).heap.size:=by simp[Go.Proofs.sortWorldK,Go.Sort.grow,Go.Sort.putRowK,Go.Sort.putRow,Go.Sort.mapBlock,Go.Sort.ahead]
   have O:(Go.Sort.putCells id 0 (Go.Sort.flatK cf k c) cur).size=cur.size:=by simp[Go.Sort.putCells]
   have S:(Go.Sort.putCells id 0 (Go.Sort.flatK cf k c) cur).toList.take (c.toList.length*k)=c.toList.flatMap cf:=by
    rw[<-QC u hk]
    have U:(Go.Sort.flatK cf k c).size=xs.length*k:=by simp[h]
    have V:xs.length*k<=cur.size:=by rw[y];exact AS _ o
    apply mS
    intro j
    rw[yD,ux,h]
    split
    . rename_i l
      have H:j<cur.size:=by omega
      have t:j<(Go.Sort.flatK cf k c).size:=by omega
      simp only[Go.Sort.putCells,AQ,Ns,ko,true_and,uA,EM]
      rw[wz H,wz t]
      simp only[CO]
      rw[if_pos t,getElem!_pos _ j t]
      rfl
    . rename_i l
      rw[nW (by simp;rw[h];omega)]
   refine⟨_,rfl,rfl,c.toList,N,?_,⟨?_,⟨rfl,rfl,rfl,R,fun b hb T=>L b hb (fun e=>T (by simp[row,Value.ownBlock,e]))⟩,fun b q => .inl (by simpa[row,Value.ownBlock]using q),by simp[row,Value.ownBlock],fun b q => ?_⟩⟩
   . rw[yB]
     intro i j hi l G
     have p:=Q i j (ko _) G (by simp at l ⊢;omega)
     simp only[ux]at hi l
     rw[getElem!_pos _ i hi,getElem!_pos _ j l]at p
     simpa using p
   . refine⟨by rw[pP u],.inr ⟨g, m,_,by simp[h],hb,K,by simp[h];exact o,D,by rw[O];exact y,S⟩⟩
   . simp[row,Value.ownBlock]at q
     subst q
     omega
end
section
variable{v:Value}{e:TypeId}{f:FuncId}{fv:Value}{m:Nat}
def rQ(x:Fin m):Value:=.int .i64 ((x.val:Nat):Int)
theorem Y2(hm:0<m):((List.finRange m).map fun x=>x.val)=List.range m:=by
 apply mS
 grind
theorem J7(xs:List Nat):xs.flatMap fL=xs.map fun x=>Value.int .i64 ((x:Nat):Int):=by
 induction xs with
 | nil=>rfl
 | cons x xs a=>rw[zz,a];rfl
theorem TR{α:Type}[Inhabited α]{enc:α->Value}{blk k b:Nat}{d:Array α}{os:Array Obj}(hb:b<w.heap.size)(a:b≠blk):(Go.Proofs.sortWorld enc w blk 0 k d os).heap[b]? = w.heap[b]? := by
 simp only[Go.Proofs.sortWorld,Go.Sort.grow,Go.Sort.putRow,Go.Sort.mapBlock,Go.Sort.ahead]
 grind
theorem afz(hm:0<m)(lt:Nat->Nat->Bool)(H:Own (cL fL v e 1 (List.range m)) w)(L:m<4611686018427387904)(I:∀ (E:Inhabited (Fin m)) blk k (d:Array (Fin m)),(cL fL v e 1 (List.range m)).gq=[blk]->Go.Sort.Holds rQ w blk 0 d->blk<w.heap.size->d.size<4611686018427387904->Calls P f #[.slice (some ⟨blk,0,none⟩) d.size k,fv] w fun e w' =>
  e = .returned (.tuple #[])/\∃ c n os,Go.Sort.PermIn 0 d.size d c /\ Go.Sort.SortedIn (fun x y:Fin m=>lt x.val y.val) 0 d.size c /\ w' = Go.Proofs.sortWorld rQ w blk 0 n c os) :
 CR P f #[v,fv] w (fun r w' => r = .tuple #[]/\∃ ys:List Nat,ys.Perm (List.range m)/\ys.Pairwise (fun a b=>lt b a=false)/\fP (cL fL v e 1 (List.range m)) w w' (cL fL v e 1 ys)):=by
 have O:w.ownsRow 0 e 1 v (List.range m).length ((List.range m).flatMap fL):=H.holds
 rcases O.2 with ⟨rfl,h⟩|⟨g, k,cur,rfl,hb,p,h,F,s,B⟩
 . rw[mD]at h;omega
 . have C:g < w.heap.size:=(su.1 p).1
   let E:Inhabited (Fin m):=⟨⟨0,hm⟩⟩
   have u:(List.finRange m).toArray.size=m:=by simp
   rw[mD,tF]at B
   rw[mD]at h
   rw[tF]at s
   have G:Go.Sort.Holds rQ w g 0 (List.finRange m).toArray:=by
    intro j q
    have D : j<m:=by simpa using q
    have t:(cur.toList.take m)[j]? = ((List.range m).flatMap fL)[j]? := by rw[B]
    rw[Ew D, J7,lU,pg D, AQ]at t
    refine⟨?_,?_⟩
    . simp only[World.cell?,p,uA]
      grind [rQ]
    . simp[World.frozen?,p]
   have hs:=I E g k (List.finRange m).toArray (by simp[cL,row,Value.ownBlock]) G C (by rw[u];exact L)
   rw[u]at hs
   rw[mD]
   refine Calls.mono hs ?_
   rintro en w' ⟨rfl,c, n,os,hp,S,rfl⟩
   have o:c.size=m:=by rw[hp.1];exact u
   have Q:(c.toList.map fun x=>x.val).Perm (List.range m):=by
    have t:=hp.2.2
    have e1:c.extract 0 m=c := (congrArg (fun z=>c.extract 0 z) o.symm).trans Array.extract_size
    grind [Y2]
   have M:(Go.Proofs.sortWorld rQ w g 0 n c os).heap[g]? = some (.cells (Go.Sort.putCells rQ 0 c cur) e (0,0)):=by
    simp only[Go.Proofs.sortWorld,Go.Sort.grow,Go.Sort.putRow,Go.Sort.mapBlock,Go.Sort.ahead]
    rw[Nj (by simpa using C),EC,if_pos rfl,p]
    rfl
   have N:∀ b,b<w.heap.size->b≠g -> (Go.Proofs.sortWorld rQ w g 0 n c os).heap[b]? = w.heap[b]? := by
    intro b hb X
    simp only[Go.Proofs.sortWorld,Go.Sort.grow,Go.Sort.putRow,Go.Sort.mapBlock,Go.Sort.ahead]
    grind
   have T:w.heap.size<=(Go.Proofs.sortWorld rQ w g 0 n c os).heap.size:=by simp[Go.Proofs.sortWorld,Go.Sort.grow,Go.Sort.putRow,Go.Sort.mapBlock,Go.Sort.ahead]
   have R:(Go.Sort.putCells rQ 0 c cur).size=cur.size:=by simp[Go.Sort.putCells]
   have U:(Go.Sort.putCells rQ 0 c cur).toList.take ((c.toList.map fun x=>x.val).length*1)=(c.toList.map fun x=>x.val).flatMap fL:=by
    rw[J7]
    have W:m<=cur.size:=by rw[s];exact h
    apply mS
    intro j
    rw[yD]
    simp only[zm,ux,o,tF]
    split
    . rename_i q
      have K:j<cur.size:=by omega
      have A:j<c.size:=by omega
      simp only[Go.Sort.putCells,AQ,Ns,ko,true_and,uA,EM,lU]
      rw[wz K,wz A]
      simp only[CO]
      rw[if_pos A,getElem!_pos _ j A]
      rfl
    . grind
   refine⟨_,rfl,rfl,c.toList.map fun x=>x.val,Q,?_,⟨?_,⟨rfl,rfl,rfl,T,fun b hb V=>N b hb (fun e=>V (by simp[row,cL,Value.ownBlock,e]))⟩,fun b l => .inl (by simpa[row,cL,Value.ownBlock]using l),by simp[row,cL,Value.ownBlock],fun b l => ?_⟩⟩
   . rw[yB]
     intro i j hi q J
     have t:=S i j (ko _) J (by simp at q ⊢;omega)
     grind
   . refine⟨by rw[J7];simp,.inr ⟨g, k,_,by simp[o],hb,M,by simp[o];exact h,F,by rw[R];simpa using s,U⟩⟩
   . simp[row,cL,Value.ownBlock]at l
     subst l
     omega
end
section
variable{L:List fJ}{w0:World}{R:fJ}
theorem St.acM{T:TypeId}(h:St bs (R :: blk n T cs :: L) w):n∉R.gq:=fun hm=>by
 have a:=h.sep
 rw[nO,zo]at a
 exact a.2.2 n hm n (by rw[nO];simp[blk]) rfl
theorem St.aan{T:TypeId}(h:St bs (R :: blk n T cs :: L) w):n<w.heap.size:=h.lt n (by rw[nO,nO];simp[blk])
theorem St.ad7{α:Type}{cf:α->List Value}{sz:Nat}{ok:Nat->Prop}{v:Value}{xs:List α}(h:St bs (R :: L) w)(hb:(w0,[])∈bs)(hp:0<sz)(c:gV sz cf ok w0 v xs):gV sz cf (fun b=>b∉R.gq) w v xs :=
 Sl.mono (St.DX h hb hp (Sl.old c hp)) fun b d hm=>by
  rcases(h.base _ hb).mine b (by rw[nO];simp[hm])with a|a
  . cases a
  . have e:b<w0.heap.size:=d.2
    have f:w0.heap.size<=b:=a
    omega
end
theorem St.under{e:List (World×List Nat)}{L:List fJ}{g:World}{X:List Nat}(i:St e L0 w')(k:(w,[])∈e)(j:∀ b∈X,b∈jb L0)(h:St bs L g)(hb:(w',X)∈bs):St ((w,[]) :: bs) L g:=by
 have a:=i.base _ k
 have c:=h.base _ hb
 have f:∀ b∈X,w.heap.size<=b:=fun b hb=>(a.mine b (j b hb)).elim (fun h=>absurd h s_) id
 refine⟨fun p hp=>?_,h.own,h.sep,h.lt⟩
 rcases ze.1 hp with rfl|hp
 . refine⟨⟨c.gf.os.trans a.gf.os,c.gf.tape.trans a.gf.tape,c.gf.output.trans a.gf.output,kS a.gf.size c.gf.size,fun b d l=>?_⟩,fun b hb=>?_⟩
   . exact(c.gf.block b (qA d a.gf.size) (fun hb=>absurd (f b hb) (Nat.not_le.2 d))).trans (a.gf.block b d l)
   . rcases c.mine b hb with h|h
     . exact .inr (f b h)
     . exact .inr (kS a.gf.size h)
 . exact h.base p hp
theorem St.Yk{L:List fJ}{p:World×List Nat}(h:St (p :: bs) L w):St bs L w :=
 ⟨fun q a=>h.base q (zx _ a),h.own,h.sep,h.lt⟩
theorem St.acX{R:fJ}{L:List fJ}{w0:World}(h:St bs (R :: L) w')(hb:(w0,[])∈bs){b:Nat}(a:b<w0.heap.size):b∉R.gq:=fun hm =>
 ((h.base _ hb).mine b (by rw[nO];exact zj.2 (.inl hm))).elim (fun h=>absurd h s_) (fun h=>absurd a (Nat.not_lt.2 h))
section
variable{T:TT P}{L:List fJ}{ops:Array Oper}{d:Nat}{s:List (Nat×Value)}{ds:List Deferred}{w0:World}{ty:TypeId}{pos:String}{af:Array Edge}{g:Option (Nat×Bool)}{x:Operand}{v:Value}
theorem Rk.KM{α:Type}{cf:α->List Value}{xs:List α}{e':TypeId}{q sz off:Nat}{ud:TypeDesc}(h:St bs L w:=by assumption)(f:ev n s x=j8 sz u k off:=by exact rfl)(a:jt T.u t=some ud:=by exact rfl)(e:kJ ud=false:=by exact rfl)(hi:L[q]? = some (cL cf u e' sz xs):=by first|exact sO|exact sP|exact oO|exact oP|exact sQ|exact sR|exact sS|exact sU)(i:Inhabited α:=by infer_instance)(c:∀ x:α,(cf x).length=sz:=by exact fun _=>rfl)(hk:k<xs.length:=by first|omega|(simp only[gd];omega))(hv:(cf (cE xs k))[off]? = some v:=by exact rfl)(b:look s d=v:=by exact rfl):rZ P ops ⟨some d,.load t x,ty,pos,af,g⟩ (Fr n s ds) w:=mZ (BW f (l8 T.mA a) e (St.Ae h hi c) (fW hk) hv) rfl b
theorem Rk.ld{b o:Nat}{a:TypeId}{ud:TypeDesc}(h:St bs L w:=by assumption)(j:ev n s x = .pointer (some ⟨b,o,none⟩):=by exact rfl)(c:jt T.u t=some ud:=by exact rfl)(f:kJ ud=false:=by exact rfl)(hi:L[i]? = some (blk b a cs):=by first|exact sO|exact sP|exact oO|exact oP|exact sQ|exact sR|exact sS|exact sU)(hv:cs[o]? = some v:=by exact rfl)(e:look s d=v:=by exact rfl):rZ P ops ⟨some d,.load t x,ty,pos,af,g⟩ (Fr n s ds) w:=mZ (s8 j (l8 T.mA c) f (h.tZ hi hv)) rfl e
theorem Rk.jf{α:Type}{cf:α->List Value}{xs:List α}{ok:Nat->Prop}{c:α}{sz off:Nat}{ud:TypeDesc}(h:St bs L w:=by assumption)(f:ev n s x=j8 sz u k off:=by exact rfl)(a:jt T.u t=some ud:=by exact rfl)(e:kJ ud=false:=by exact rfl)(hi:gV sz cf ok w0 u xs:=by assumption)(hb:(w0,[])∈bs:=by simp)(i:0<sz:=by decide)(hk:xs[k]? = some c:=by first|assumption|exact rfl|exact fW (by first|omega|(simp only[gd];omega)))(hv:(cf c)[off]? = some v:=by exact rfl)(b:look s d=v:=by exact rfl):rZ P ops ⟨some d,.load t x,ty,pos,af,g⟩ (Fr n s ds) w:=mZ (BW f (l8 T.mA a) e (St.DX h hb i hi) hk hv) rfl b
theorem Rk.uT{b o sz by_:Nat}{k:Value}{a:TypeId}{vs:List Value}{ud:TypeDesc}(h:St bs L w:=by assumption)(j:ev n s x = .pointer (some ⟨b,o,none⟩):=by exact rfl)(c:jt T.u t=some ud:=by exact rfl)(f:kJ ud=true:=by exact rfl)(ht:jt T.i t=some (sz,by_,k):=by exact rfl)(hi:L[i]? = some (blk b a cs):=by first|exact sO|exact sP|exact oO|exact oP|exact sQ|exact sR|exact sS|exact sU)(hv:sub' cs o sz=some vs:=by exact rfl)(e:look s d = .agg vs.toArray:=by exact rfl):rZ P ops ⟨some d,.load t x,ty,pos,af,g⟩ (Fr n s ds) w:=mZ (xu j (l8 T.mA c) f (nQ T.oC ht) (xP hv) (h.Jq hi (Aj hv))) rfl e
theorem oF{p:Prop}(h:p:=by first|exact Rk.KM|exact Rk.ld|exact Rk.Rn|exact Rk.Rq|exact Rk.Rs|exact Rk.jf|exact Rk.uT|exact Rk.Rr|exact Rk.Ro|exact Rk.Rt|exact Rk.Rp|exact Rk.Gs):p:=h
theorem jF{M:Act->World->Prop}{c:List Nat}(h:M (Fr n s ds) w)(hc:jR P ops c (Fr n s ds) w:=by repeat (first|exact trivial|refine ku rfl oF ?_)):Exit.then (fun a w=>jR P ops c a w/\M a w) Q .normal (Fr n s ds) w:=⟨hc,h⟩
theorem nh{r:Option Nat}{b:List Oper}{M:Act->World->Prop}{c:List Nat}(h:M (Fr n s ds) w)(d:b=[]:=by exact rfl)(hc:jR P ops c (Fr n s ds) w:=by repeat (first|exact trivial|refine ku rfl oF ?_)):WL r P ops (Exit.then (fun a w=>jR P ops c a w/\M a w) Q) b (Fr n s ds) w:=by
 subst d
 exact⟨hc,h⟩
end
section
variable{r:Option Nat}{ops:Array Oper}{rest:List Oper}{s:List (Nat×Value)}{ds:List Deferred}
variable{L L':List fJ}{ty:TypeId}{pos:String}{af:Array Edge}{g:Option (Nat×Bool)}{x y:Operand}{v:Value}{vs:List Value}{d sz szt by_:Nat}
theorem Dx{p:Prop}(h:p:=by first|exact Pz|exact Py|exact PA|exact PB|exact Px|exact cNilF|exact cMap|exact rfl):p:=h
theorem iz[T:TT P]{α:Type}[Inhabited α]{cf:α->List Value}{ys:List α}{e:TypeId}{k off:Nat}(f:α->α)(i:Nat)(j:St bs L w)(K:∀ w', St bs L' w' -> WL r P ops Q rest (Fr n s ds) w')
 (m:ev n s x=j8 sz v k off:=by exact rfl) (o:ev n s y=u:=by first|((conv=>lhs;whnf);done)|exact rfl) (hvs:u.cells.toList=vs:=by exact Dx) (ht:jt T.i t=some (szt,by_,z):=by exact rfl) (l:vs.length=szt:=by exact rfl) (h1:vs.all (·.oneCell')=true:=by exact rfl)
 (hi:L[i]? = some (cL cf v e sz ys):=by exact rfl) (d:∀ x:α,(cf x).length=sz:=by exact fun _=>rfl) (hk:k<ys.length:=by first|omega|(simp only[gd];omega)) (h:Nat.ble (off+vs.length) sz=true:=by exact rfl)
 (b:cf (f (cE ys k))=setAt (cf (cE ys k)) off vs:=by exact rfl) (a:L.set i (cL cf v e sz (cO ys k f))=L' := by first|(dsimp only[List.set];exact rfl)|exact rfl) (c:gA ops n s g=true:=by exact rfl) :
 WL r P ops Q (⟨none,.store t x y,ty,pos,af,g⟩ :: rest) (Fr n s ds) w:=afM i c m o hvs (nQ T.oC ht) l h1 j hi d hk h b a K
theorem kD[T:TT P]{α:Type}[Inhabited α]{cf:α->List Value}{ys:List α}{a:TypeId}{b k off:Nat}(f:α->α)(i:Nat)(l:St bs L w)(K:∀ w', St bs L' w' -> gE [b] w w' -> WL r P ops Q rest (Fr n s ds) w')
 (o:ev n s x = .pointer (some ⟨b,k*sz+off,none⟩):=by exact rfl) (p:ev n s y=u:=by first|((conv=>lhs;whnf);done)|exact rfl) (hvs:u.cells.toList=vs:=by exact Dx) (ht:jt T.i t=some (szt,by_,z):=by exact rfl) (m:vs.length=szt:=by exact rfl) (h1:vs.all (·.oneCell')=true:=by exact rfl)
 (hi:L[i]? = some (blk b a (ys.flatMap cf)):=by exact rfl) (c:∀ x:α,(cf x).length=sz:=by exact fun _=>rfl) (hk:k<ys.length:=by first|omega|(simp only[gd];omega)) (d:Nat.ble (off+vs.length) sz=true:=by exact rfl)
 (h:cf (f (cE ys k))=setAt (cf (cE ys k)) off vs:=by exact rfl) (e:L.set i (blk b a ((cO ys k f).flatMap cf))=L' := by first|(dsimp only[List.set];exact rfl)|exact rfl) (j:gA ops n s g=true:=by exact rfl) :
 WL r P ops Q (⟨none,.store t x y,ty,pos,af,g⟩ :: rest) (Fr n s ds) w:=Hr i j o p hvs (nQ T.oC ht) m h1 l hi (LK c hk (qV d)) (G3 c hk h (qV d)) e K
theorem iS[T:TT P]{cs' : List Value}{a:TypeId}{b o:Nat}(i:Nat)(f:St bs L w)(K:∀ w', St bs L' w' -> WL r P ops Q rest (Fr n s ds) w')
 (j:ev n s x = .pointer (some ⟨b,o,none⟩):=by exact rfl) (k:ev n s y=u:=by first|((conv=>lhs;whnf);done)|exact rfl) (hvs:u.cells.toList=vs:=by exact Dx) (ht:jt T.i t=some (szt,by_,z):=by exact rfl) (h:vs.length=szt:=by exact rfl) (h1:vs.all (·.oneCell')=true:=by exact rfl)
 (hi:L[i]? = some (blk b a cs):=by exact rfl) (d:Nat.ble (o+vs.length) cs.length=true:=by exact rfl) (hcs:setAt cs o vs=cs' := by dsimp only[setAt,List.take,List.drop,List.length,List.append,HAppend.hAppend,Append.append]<;>exact rfl)
 (c:L.set i (blk b a cs')=L' := by first|(dsimp only[List.set];exact rfl)|exact rfl) (e:gA ops n s g=true:=by exact rfl) :
 WL r P ops Q (⟨none,.store t x y,ty,pos,af,g⟩ :: rest) (Fr n s ds) w:=Hq i e j k hvs (nQ T.oC ht) h h1 f hi d hcs c K
theorem gN(c:St bs L w)(K:∀ b w', w.heap.size<=b->gE [] w w' -> St bs (blk b t cs :: L) w' -> WL r P ops Q rest (Fr n ((d,.pointer (some ⟨b,0,none⟩)) :: s) ds) w')
 (e:ev n s x=v:=by first|((conv=>lhs;whnf);done)|exact rfl) (hcs:v.cells.toList=cs:=by exact Dx) (a:gA ops n s g=true:=by exact rfl):WL r P ops Q (⟨some d,.box t x,ty,pos,af,g⟩ :: rest) (Fr n s ds) w:=bx a e hcs c K
theorem ir[T:TT P](c:St bs L w)(K:∀ b w', w.heap.size<=b->gE [] w w' -> St bs (blk b t cs :: L) w' -> WL r P ops Q rest (Fr n ((d,.pointer (some ⟨b,0,none⟩)) :: s) ds) w')
 (ht:jt T.i t=some (sz,by_,z):=by exact rfl) (hcs:z.cells.toList=cs:=by exact Dx) (a:gA ops n s g=true:=by exact rfl):WL r P ops Q (⟨some d,.alloc t,ty,pos,af,g⟩ :: rest) (Fr n s ds) w:=al a (nQ T.oC ht) hcs c K
end
end Go.Sx
