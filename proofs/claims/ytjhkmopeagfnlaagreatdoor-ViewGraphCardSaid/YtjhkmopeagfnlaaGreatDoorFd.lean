/- Plain lemmas: rules for walking through code, one for each operation, over any program; an evaluator of closed calls with its soundness; and plain mathematics. No conditions. -/
import Derived.Test.YtjhkmopeagfnlaaGreatDoorFc
import Derived.Test.YtjhkmopeagfnlaaGreatDoorFa
import Derived.Test.YtjhkmopeagfnlaaGreatDoorFb
import Derived.Laws.BitsAllLaws
import Derived.Sort.Row
import Derived.Shelf.GgSortFunc.InsertionK
import Derived.OpenShut
import Derived.ProofKit
import Derived.Deep.Slices
set_option linter.unusedVariables false
set_option linter.unusedSectionVars false
set_option linter.unusedSimpArgs false
namespace Go.Sx
open Go
theorem Fo.top{xs:List Nd}{F:FT}(h:Fo xs F){j:Nat}(h0:j≠0)(hj:j<xs.length):∃ r,PR (gY (gV xs F)) j r:=by
 obtain⟨m,hd⟩:=h.dep hj
 clear hj
 induction hd with
 | zero=>exact absurd rfl h0
 | @step T q j m he hjT hj0 k ih =>
  have hs:∀ v u,mH (gA xs false T) q v u->gY (gV xs F) v u:=fun v u hp=>⟨(gA xs false T,q),jW.2 ⟨(T,q),he,rfl⟩,hp⟩
  have hne:=h.vZ he
  have hm:j∈gA xs false T:=(mZ xs false T).mem_iff.2 hjT
  obtain⟨hd', hh⟩:∃ z,(gA xs false T).head? = some z:=by
   cases e:gA xs false T with
   | nil=>rw[e]at hm;simp at hm
   | cons z l=>exact⟨z,rfl⟩
  obtain⟨a,b⟩:=PR.D8 hh hne hs hm
  by_cases hq:q=0
  . exact⟨hd', a hq⟩
  . obtain⟨r,hr⟩:=ih hq
    exact⟨r,b r hq hr⟩
theorem Fo.Se{xs:List Nd}{F:FT}(h:Fo xs F){j:Nat}(h0:j≠0)(hj:j<xs.length):Joined xs F j j:=by
 obtain⟨r,hr⟩:=h.top h0 hj
 exact⟨r,hr,hr⟩
section
variable {xs ys zs:List Nd} {F R R2:FT} {i j:Nat} {a b:Tr}
theorem Vi(hF:Fo xs F)(hJ:Joined xs F i j)(h:kK xs F ys i a R)(k:kK (j6 ys i) ((.nd a i .nil,0) :: R) zs j b R2)(hs:(fM zs j).size=2):gA zs false (.nd b j .nil)=[i,j]:=by
 obtain⟨r,hi,hj⟩:=hJ
 have hh:=TZ h.BN k (h.Yr hj hi fun v u u' h1 h2=>hF.qS h1 h2)
 have hv:=(k.fo.rep (.nd b j .nil,0) s_).2.2.1.size
 have hl:=(mZ zs false (.nd b j .nil)).length_eq
 have hq:=k.seq
 rw[hq]at hl hh ⊢
 have e1:((b.mem++j :: Tr.nil.mem).length:Int)=2:=by rw[<-hv];exact hs
 have e2:(gA zs false b++[j]).length=2:=by
  rw[hl]
  show (b.mem++j :: Tr.nil.mem).length=2
  omega
 cases hb:gA zs false b with
 | nil=>rw[hb]at e2;simp at e2
 | cons x l =>
  rw[hb]at e2 hh
  cases l with
  | cons y l=>simp at e2
  | nil =>
   simp at hh
   subst hh
   rfl
theorem Uw(hF:Fo xs F)(h:kK xs F ys i a R)(k:kK (j6 ys i) ((.nd a i .nil,0) :: R) zs j b R2)(hn:¬ Joined xs F i j)(hj0:j≠0)(hjl:j<xs.length)(hi0:i≠0)(hil:i<xs.length):∃ R3,R2.Perm ((.nd a i .nil,0) :: R3):=by
 rcases k.BB (.nd a i .nil) s_ with ⟨h1,_⟩|h1
 . exact KC h1
 . exfalso
   rw[h.BN.head]at h1
   obtain⟨r,hr⟩:=hF.top hj0 hjl
   obtain⟨r', hr'⟩:=hF.top hi0 hil
   have hne:r≠r' := fun e=>hn ⟨r', hr', e▸hr⟩
   obtain⟨p1,p2⟩:=h.Wi hr hr' hne fun v u u' h1 h2=>hF.qS h1 h2
   have p3:=k.top h1 (v:=j) (by simp[Tr.mem])
   have e:r=i:=PR.unique (P:=gY (gV (j6 ys i) ((.nd a i .nil,0) :: R))) (fun v u u' h1 h2=>h.BN.fo.qS h1 h2) p1 p3
   exact p2 (by rw[e];simp[Tr.mem])
end
theorem fZ.lead{xs:List Nd}(h:fZ xs){i:Nat}(hi:i<xs.length):fZ (j6 xs i):=h.iE hi fun x a b c d e=>⟨a,b,c,d,e⟩
theorem sZ(xs:List Nd)(i:Nat):(j6 xs i).length=xs.length:=gM
end Go.Sx
namespace Go.Sx
open Go
theorem Ni{n k:Nat}(hn:n<=1000000):fZ (l9 n k):=by
 have key:∀ i,i<n+1->fM (l9 n k) i=vo i\/fM (l9 n k) i=uf:=fun i hi=>by
  rw[vU hi]
  split
  . exact .inl rfl
  . exact .inr rfl
 refine⟨fun i hi=>?_,fun i hi=>?_,fun i hi=>?_,fun i hi=>?_,fun i hi=>?_⟩<;>rw[oI]at * <;> rcases key i hi with e|e<;>rw[e]
 all_goals first
  | exact(by decide:iC .i64 0)
  | (simp only[vo,uf];omega)
  | (show (-9223372036854775808:Int)<=0/\(0:Int)<=9223372036854775807;omega)
end Go.Sx
namespace Go.Sx
open Go
section
variable {ys xs:List Int} {i j n:Nat} {x:Int}
def pQ(ys:List Int)(i:Nat):Prop:=∀ p q,p<q->q<i->fM ys p<=fM ys q
def tf(ys:List Int)(i j:Nat):Prop:=∀ p q,p<q->q<=i->q≠j->fM ys p<=fM ys q
def BH(ys:List Int)(j:Nat):List Int:=fR (fR ys j fun _=>fM ys (j-1)) (j-1) fun _=>fM ys j
theorem T3(h0:0<j)(h:j<ys.length):(BH ys j).Perm ys:=by
 have h1:=List.set_set_perm h (show j-1<ys.length by omega)
 have e1:fM ys (j-1)=ys[j-1]:=od (zk o_)
 have e2:fM ys j=ys[j]:=od (zk h)
 unfold BH fR
 rw[e1,e2]
 exact h1
theorem M7(h0:0<j)(h:j<ys.length)(k:Nat):fM (BH ys j) k=if k=j then fM ys (j-1)else if k=j-1 then fM ys j else fM ys k:=by
 unfold BH
 rw[j5 (by rw[gM];omega),j5 h]
 by_cases h1:k=j
 . subst h1
   rw[if_neg o_,if_pos rfl,if_pos rfl]
 . by_cases h2:k=j-1
   . subst h2
     rw[if_pos rfl,if_neg h1,if_pos rfl]
   . rw[if_neg (fun e=>h2 e.symm),if_neg (fun e=>h1 e.symm),if_neg h1,if_neg h2]
theorem pQ.zero:pQ ys 1:=fun p q h1 h2=>by omega
theorem pQ.at(h:pQ ys i):tf ys i i:=fun p q h1 h2 h3=>h p q h1 o_
theorem tf.swap(h:tf ys i j)(h0:0<j)(hj:j<=i)(hl:i<ys.length)(hlt:fM ys j<fM ys (j-1)):tf (BH ys j) i (j-1):=by
 intro p q hpq hq hne
 rw[M7 h0 o_,M7 h0 o_]
 by_cases hqj:q=j
 . rw[if_pos hqj]
   by_cases hp:p=j-1
   . rw[if_neg o_,if_pos hp];omega
   . rw[if_neg o_,if_neg hp]
     exact h p (j-1) o_ o_ o_
 . rw[if_neg hqj,if_neg hne]
   by_cases hpj:p=j
   . rw[if_pos hpj]
     exact h (j-1) q o_ hq hqj
   . rw[if_neg hpj]
     by_cases hp:p=j-1
     . rw[if_pos hp]
       exact h j q o_ hq hqj
     . rw[if_neg hp]
       exact h p q hpq hq hqj
theorem tf.YQ(h:tf ys i 0):pQ ys (i+1):=fun p q h1 h2=>h p q h1 o_ o_
theorem tf.done(h:tf ys i j)(h0:0<j)(hj:j<=i)(hle:¬ fM ys j<fM ys (j-1)):pQ ys (i+1):=by
 intro p q h1 h2
 by_cases hq:q=j
 . subst hq
   by_cases hp:p=q-1
   . subst hp;omega
   . have:=h p (q-1) o_ o_ o_
     omega
 . exact h p q h1 o_ hq
theorem pQ.qA(h:pQ ys ys.length)(hn:ys.Nodup):ys.Pairwise fun a b=>a<b:=by
 have h1:ys.Pairwise fun a b=>a<=b:=by
  rw[wU]
  intro p q hp hq hpq
  have h2:=h p q hpq hq
  rw[od (zk hp),od (zk hq)]at h2
  exact h2
 exact(h1.and hn).imp fun {a b} h=>by have:=h.1;have:=h.2;omega
theorem HM{α:Type}{r:α->α->Prop}(hi:∀ a,¬ r a a)(ht:∀ a b,r a b->¬ r b a):∀ {a b:List α},a.Pairwise r->b.Pairwise r->(∀ x,x∈a↔x∈b)->a=b
 | [],[],_,_,_=>rfl
 | [],y :: b,_,_,h=>by have:=(h y).2 s_;cases this
 | x :: a,[],_,_,h=>by have:=(h x).1 s_;cases this
 | x :: a,y :: b,ha,hb,h=>by
  have hxy:x=y:=by
   rcases zb.1 ((h x).1 s_)with e|h1
   . exact e
   . rcases zb.1 ((h y).2 s_)with e|h2
     . exact e.symm
     . exact absurd ((wO.1 ha).1 y h2) (ht _ _ ((wO.1 hb).1 x h1))
  subst hxy
  have ha1:=(wO.1 ha).1
  have hb1:=(wO.1 hb).1
  congr 1
  refine HM hi ht (wO.1 ha).2 (wO.1 hb).2 fun z=>⟨fun hz=>?_,fun hz=>?_⟩
  . rcases zb.1 ((h z).1 (by simp[hz]))with e|h1
    . subst e;exact absurd (ha1 z hz) (hi z)
    . exact h1
  . rcases zb.1 ((h z).2 (by simp[hz]))with e|h1
    . subst e;exact absurd (hb1 z hz) (hi z)
    . exact h1
theorem Vm{a b:List Int}(ha:a.Pairwise fun x y=>x<y)(hb:b.Pairwise fun x y=>x<y)(h:∀ x,x∈a↔x∈b):a=b :=
 HM (fun a=>Int.lt_irrefl a) (fun a b h=>by omega) ha hb h
theorem fW.nt.uniq{s:fW}{a b:List Lv}(ha:s.nt a)(hb:s.nt b):a=b :=
 HM (r:=fun x y:Lv=>x.seq<y.seq) (fun a=>Int.lt_irrefl _) (fun a b h=>by omega) ha.qA hb.qA fun x=>(ha.mem x).trans (hb.mem x).symm
structure nG (ys:List Int) (x:Int) (i j:Nat):Prop where
 lo:∀ p,p<i->fM ys p<x
 hi:∀ p,j<=p->p<ys.length->x<=fM ys p
theorem nG.start:nG ys x 0 ys.length:=⟨fun p h=>by omega,fun p h1 h2=>by omega⟩
theorem DY(h:ys.Pairwise fun a b=>a<b){p q:Nat}(hpq:p<q)(hq:q<ys.length):fM ys p<fM ys q:=by
 have h2:=(wU.1 h) p q o_ hq hpq
 rw[od (zk (show p<ys.length by omega)),od (zk hq)]
 exact h2
theorem nG.up(h:nG ys x i j)(hs:ys.Pairwise fun a b=>a<b){k:Nat}(hk:k<ys.length)(hlt:fM ys k<x):nG ys x (k+1) j :=
 ⟨fun p hp=>by
  by_cases e:p=k
  . subst e;exact hlt
  . have:=DY hs (show p<k by omega) hk
    omega,h.hi⟩
theorem nG.down(h:nG ys x i j)(hs:ys.Pairwise fun a b=>a<b){k:Nat}(hlt:¬ fM ys k<x):nG ys x i k :=
 ⟨h.lo,fun p h1 h2=>by
  by_cases e:p=k
  . subst e;omega
  . have:=DY hs (show k<p by omega) h2
    omega⟩
def ir(ys:List Int)(x:Int):Nat:=(ys.filter fun y=>decide (y<x)).length
theorem nG.ir(h:nG ys x i i)(hi:i<=ys.length):i=ir ys x:=by
 have h1:(ys.take i).filter (fun y=>decide (y<x))=ys.take i:=List.filter_eq_self.2 fun y hy=>by
  obtain⟨p,hp,e⟩:=zP hy
  rw[kD]at hp
  rw[List.getElem_take]at e
  have h2:=h.lo p o_
  rw[od (zk o_),e]at h2
  exact decide_eq_true h2
 have h2:(ys.drop i).filter (fun y=>decide (y<x))=[]:=List.filter_eq_nil_iff.2 fun y hy=>by
  obtain⟨p,hp,e⟩:=zP hy
  rw[tU]at hp
  rw[List.getElem_drop]at e
  have h3:=h.hi (i+p) o_ o_
  rw[od (zk o_),e]at h3
  simp
  omega
 have h3:ys.filter (fun y=>decide (y<x))=ys.take i:=by
  conv=>lhs;rw[<-vk i ys]
  rw[List.filter_append,h1,h2,qC]
 unfold Go.Sx.ir
 rw[h3,kD]
 omega
theorem C9(hs:ys.Pairwise fun a b=>a<b)(hx:x∈ys):ir ys x<ys.length/\fM ys (ir ys x)=x:=by
 obtain⟨k,hk,e⟩:=zP hx
 have e1:fM ys k=x:=od (by rw[zk hk,e])
 have hb:nG ys x k k:=⟨fun p hp=>by have:=DY hs hp hk;omega,fun p h1 h2=>by
  by_cases h3:k=p
  . subst h3;omega
  . have:=DY hs (show k<p by omega) h2
    omega⟩
 rw[<-hb.ir o_]
 exact⟨hk,e1⟩
structure Ge where
 u:Nat
 v:Nat
 w:Int
instance:Inhabited Ge:=⟨⟨0,0,0⟩⟩
def Ge.cells(x:Ge):List Value:=[.int .i64 x.u,.int .i64 x.v,.int .i64 x.w]
structure aaX (ids:List Int) (x:Lv) (e:Ge):Prop where
 ul:e.u<ids.length
 vl:e.v<ids.length
 u:fM ids e.u=x.u
 v:fM ids e.v=x.v
 w:e.w=x.wt
structure tJ (ids:List Int) (L:List Lv) (es:List Ge) (k:Nat):Prop where
 len:es.length=L.length
 fst:∀ i,i<k->aaX ids (fM L i) (fM es i)
theorem tJ.start{ids:List Int}{L:List Lv}:tJ ids L (List.replicate L.length ⟨0,0,0⟩) 0:=⟨by rw[Fy],fun i h=>by omega⟩
theorem tJ.next{ids:List Int}{L:List Lv}{es:List Ge}{k:Nat}(h:tJ ids L es k)(hk:k<L.length)(hs:ids.Pairwise fun a b=>a<b)(hu:(fM L k).u∈ids)(hv:(fM L k).v∈ids) :
 tJ ids L (fR es k fun _=>⟨ir ids (fM L k).u,ir ids (fM L k).v,(fM L k).wt⟩) (k+1):=by
 have hl:=h.len
 refine⟨by rw[gM];exact hl,fun i hi=>?_⟩
 rw[j5 o_]
 by_cases e:k=i
 . subst e
   rw[if_pos rfl]
   exact⟨(C9 hs hu).1,(C9 hs hv).1,(C9 hs hu).2,(C9 hs hv).2,rfl⟩
 . rw[if_neg e]
   exact h.fst i o_
structure fW.qF (s:fW) (K:List Int):Prop where
 qA:K.Pairwise fun a b=>a<b
 mem:∀ x,x∈K↔s.t.mem x
theorem fW.qF.uniq{s:fW}{a b:List Int}(ha:s.qF a)(hb:s.qF b):a=b:=Vm ha.qA hb.qA fun x=>(ha.mem x).trans (hb.mem x).symm
theorem fW.qF.ends{s:fW}{fQ fN:Nat}{K:List Int}{L:List Lv}(h:s.qF K)(hu:s.ok fQ fN)(hl:s.nt L){k:Nat}(hk:k<L.length):(fM L k).u∈K/\(fM L k).v∈K:=by
 obtain⟨i,hi,e⟩:=(hl.mem _).1 (zh (gy hk))
 exact⟨(h.mem _).2 ((hu.mem _).2 ⟨i,hi,.inl (by rw[e])⟩),(h.mem _).2 ((hu.mem _).2 ⟨i,hi,.inr (by rw[e])⟩)⟩
theorem fW.qF.len{s:fW}{fQ fN:Nat}{K:List Int}(h:s.qF K)(hu:s.ok fQ fN)(hA:s.t.A.ok):K.length<=fQ:=by
 have h1:K.length<=s.t.sJ.length:=CM K _ (h.qA.imp fun {a b} hlt e=>by omega) fun x hx=>(TW.HU hA x).2 ((h.mem x).1 hx)
 rw[TW.Ng hA]at h1
 have h2:=hu.tok.ul
 have h3:=hu.tn
 omega
structure Mw where
 wa:Bool
 u:Int
 v:Int
 wt:Int
 af:Int
instance:Inhabited Mw:=⟨⟨false,0,0,0,0⟩⟩
def Mw.cells(x:Mw):List Value:=[.bool x.wa,.int .u8 x.u,.int .u8 x.v,.int .i8 x.wt,.int .u8 x.af]
def Mw.mv(x:Mw):Mv:=⟨x.u,x.v,x.wt,x.af⟩
abbrev cG:WC:=⟨20,40,10,60⟩
theorem sC.tick{c:WC}{s s2:WW}{k:Nat}{T:Int}(h:sC c s k)(hn:s2.now=T)(ht:T<=s.now+3)(ha:s2.added=s.added)(hh:∀ y,s2.u.has y↔s.u.has y/\T<y.exp):sC c s2 (k+1):=by
 have h1:=h.now
 have h2:=h.added
 exact⟨o_,o_,fun x hx=>h.ids x ((hh x).1 hx).1⟩
end
end Go.Sx
namespace Go.Sx
open Go
def H9(l:List Oper)(pre:List (List Nat))(mem:List Nat):Bool :=
 IN l pre &&
 (l.all fun o => !rZ o.op) &&
 ((List.range l.length).all fun j=>(l[j]?).all fun o=>o.after.toList.all fun e => !Region.binds .any e||decide (e.on<j)) &&
 ((
  List.range l.length).all fun j=>(List.range j).all fun i =>
  match l[i]?,l[j]? with
  | some x,some y => !(j9 l.toArray x y||j9 l.toArray y x)||(pre.getD j []).contains i
  | _,_=>true) &&
 (mem.all fun m=>decide (m<l.length))
def sK(pre:List (List Nat))(mem:List Nat)(i:Nat)(d:List Nat):Bool :=
 !(d.contains i)&&mem.all fun m=>(!((pre.getD i []).contains m)||d.contains m)&&(!(d.contains m) || !((pre.getD m []).contains i))
def wz(mem d:List Nat)(i:Nat):List Nat:=mem.filter fun j=>d.contains j||j==i
section
variable {Γ:Type} (P:Program) (ops:Array Oper) (Q:Exit->Act->World->Prop) (n:Nat) (ds:List Deferred) (s0:List (Nat×Value))
def pU(l0:List Oper)(pre:List (List Nat))(mem:List Nat)(V:List (Γ->Value))(M:List Nat->Γ->World->Prop):Nat->(Γ->List (Nat×Value))->List Oper->List (Γ->Value)->Prop
 | i,s,o :: l,v :: vs =>
  (
   bif mem.contains i then ∀ d,sK pre mem i d=true->∀ g w,M d g w->lG P ops Q n ds s0 l0 o (s g) (fun v' w' => ∃ g', M (wz mem d i) g' w' /\ v' = v g' /\ jR pre i g g' 0 V) w
   else ∀ d,sK pre mem i d=true->∀ g w,M d g w->mj P ops n o (s g) (v g) (M d g) w) /\
  pU l0 pre mem V M (i+1) (fun g=>jy o.dst (v g) (s g)) l vs
 | _,_,[],[]=>True
 | _,_,_,_=>False
end
section
variable {Γ:Type} {r:Option Nat} {P:Program} {Q:Exit->Act->World->Prop} {n:Nat} {ds:List Deferred} {s0:List (Nat×Value)} {l:List Oper} {pre:List (List Nat)} {mem:List Nat} {V:List (Γ->Value)} {M:List Nat->Γ->World->Prop}
theorem pU.get{l0:List Oper}:∀ (l:List Oper) (vs:List (Γ->Value)) (b:Nat) (s:Γ->List (Nat×Value)),pU P l0.toArray Q n ds s0 l0 pre mem V M b s l vs->l.length=vs.length /\
 ∀ k o,l[k]? = some o->∃ v,vs[k]? = some v /\
  (
   bif mem.contains (b+k)then ∀ d,sK pre mem (b+k) d=true->∀ g w,M d g w->lG P l0.toArray Q n ds s0 l0 o (ia (fun j=>decide (j<b+k)) b l (vs.map (· g)) (s g)) (fun v' w' => ∃ g', M (wz mem d (b+k)) g' w' /\ v' = v g' /\ jR pre (b+k) g g' 0 V) w
   else ∀ d,sK pre mem (b+k) d=true->∀ g w,M d g w->mj P l0.toArray n o (ia (fun j=>decide (j<b+k)) b l (vs.map (· g)) (s g)) (v g) (M d g) w):=by
 intro l
 induction l with
 | nil=>intro vs b s h;cases vs with|nil=>exact⟨rfl,fun k o hk=>by simp at hk⟩|cons v vs=>exact h.elim
 | cons o l ih =>
  intro vs b s h
  cases vs with
  | nil=>exact h.elim
  | cons v vs =>
   obtain⟨h1,h2⟩:=h
   obtain⟨e,h3⟩:=ih vs (b+1) _ h2
   refine⟨by simp[e],fun k o' hk=>?_⟩
   cases k with
   | zero =>
    simp at hk
    subst hk
    refine⟨v,rfl,?_⟩
    have hs:∀ g,ia (fun j=>decide (j<b+0)) b (o :: l) ((v :: vs).map (· g)) (s g)=s g:=by
     intro g
     have key:∀ (l:List Oper) (us:List Value) (i:Nat) (s:List (Nat×Value)),b<=i->ia (fun j=>decide (j<b+0)) i l us s=s:=by
      intro l
      induction l with
      | nil=>intro us i s _;cases us<;>rfl
      | cons o l ih=>intro us i s hi;cases us with|nil=>rfl|cons u us=>simp only[ia];rw[show decide (i<b+0)=false by simp;omega];exact ih us (i+1) s o_
     exact key _ _ _ _ (zn _)
    simp only[hs]
    exact h1
   | succ k =>
    obtain⟨v', hv', h4⟩:=h3 k o' (by simpa using hk)
    refine⟨v', by simpa using hv', ?_⟩
    rw[show b+1+k=b+(k+1) by omega]at h4
    have hs:∀ g,ia (fun j=>decide (j<b+(k+1))) b (o :: l) ((v :: vs).map (· g)) (s g)=ia (fun j=>decide (j<b+(k+1))) (b+1) l (vs.map (· g)) (jy o.dst (v g) (s g)):=by
     intro g
     simp only[z1,ia]
     rw[show decide (b<b+(k+1))=true by simp]
     rfl
    simp only[hs]
    exact h4
theorem contains_filter{S:Nat->Bool}{mem:List Nat}{j:Nat}(hj:j∈mem):(mem.filter S).contains j=S j:=by
 cases h:S j with
 | true=>simp[h,hj]
 | false=>simp[h]
theorem N2{S:Nat->Bool}{i:Nat}(hmlt:(mem.all fun m=>decide (m<l.length))=true)(nC:∀ k,(pre.getD i []).contains k=true->S k=true)(notYet:∀ k,k<l.length->(pre.getD k []).contains i=true->S k=false)(hSi:S i=false):sK pre mem i (mem.filter S)=true:=by
 simp only[sK,zo,Bool.not_eq_true', zz]
 refine⟨by simp[hSi],fun m hm=>⟨?_,?_⟩⟩
 . rw[contains_filter hm]
   cases h:(pre.getD i []).contains m with
   | true=>simp[nC m h]
   | false=>rfl
 . rw[contains_filter hm]
   have hml:m<l.length:=of_decide_eq_true (zz.1 hmlt m hm)
   cases h:(pre.getD m []).contains i with
   | true=>simp[notYet m hml h]
   | false=>simp
theorem aaE{id:Nat}{w:World}(hm:P.follows .mixedOrders=true)(pre:List (List Nat))(mem:List Nat)(hok:H9 l pre mem=true)(V:List (Γ->Value))(M:List Nat->Γ->World->Prop)(g0:Γ)(sE:Γ->List (Nat×Value))
 (h0:M [] g0 w.drew) (hO:pU P l.toArray Q n ds s0 l pre mem V M 0 (fun _=>s0) l V) (hE:∀ g,ia (fun _=>true) 0 l (V.map (· g)) s0=sE g)
 (hend:∀ g w', M mem g w' -> Q .normal (Fr n (sE g) ds) w'):WP r P (.region id l.toArray true) Q (Fr n s0 ds) w:=by
 simp only[H9,zo]at hok
 obtain⟨⟨⟨⟨hpre,hsel⟩,hacy⟩,hconf⟩,hmlt⟩:=hok
 obtain⟨hlen,hget⟩:=pU.get (l0:=l) l V 0 (fun _=>s0) hO
 simp only[jN]at hget
 -- conflicts are ordered
 have nF:∀ i j x y,l[i]? = some x->l[j]? = some y->i<j->(j9 l.toArray x y=true\/j9 l.toArray y x=true)->(pre.getD j []).contains i=true:=by
  intro i j x y hx hy hij h
  have hj:j<l.length:=(zd.1 hy).1
  have h1:=zz.1 (zz.1 hconf j (mC.2 hj)) i (mC.2 hij)
  simp only[hx,hy]at h1
  rcases qI.1 h1 with h2|h2
  . exfalso
    have h3:(j9 l.toArray x y||j9 l.toArray y x)=true:=by
     rcases h with h|h<;>simp[h]
    rw[h3]at h2
    cases h2
  . exact h2
 refine wpIn_region_any hm ?_
 have hsz:l.toArray.size=l.length:=by simp
 -- the invariant
 let Sof:Array Bool->Nat->Bool:=fun listed i=>listed.getD i false
 have main:∀ (fuel:Nat) (listed:Array Bool) (g:Γ) (w:World),listed.size=l.length->listed.toList.countP (! ·)<=fuel->Down l (Sof listed)->M (mem.filter (Sof listed)) g w ->
  wpAnyIn (FW r) 0 P .any l.toArray Q fuel listed (Fr n (ia (Sof listed) 0 l (V.map (· g)) s0) ds) w:=by
  intro fuel
  have fin:∀ (listed:Array Bool) (g:Γ) (w:World),listed.size=l.length->(∀ i,i<l.length->Sof listed i=true)->M (mem.filter (Sof listed)) g w->Q .normal (Fr n (ia (Sof listed) 0 l (V.map (· g)) s0) ds) w:=by
   intro listed g w hs hall hM
   have e1:mem.filter (Sof listed)=mem:=List.filter_eq_self.2 fun m hm' => hall m (by simpa using of_decide_eq_true (zz.1 hmlt m hm'))
   rw[e1]at hM
   have e2:Fr n (ia (Sof listed) 0 l (V.map (· g)) s0) ds=Fr n (sE g) ds:=by
    rw[<-hE g]
    refine sj ds fun t=>?_
    rw[kF,kF]
    congr 1
    refine qP l 0 _ _ rfl fun j o hj _=>⟨?_,fun _=>rfl⟩
    rw[jN]
    exact hall j (zd.1 hj).1
   rw[e2]
   exact hend g w hM
  have allOf:∀ (listed:Array Bool),listed.size=l.length->Region.ready .any l.toArray listed=[]->∀ i,i<l.length->Sof listed i=true:=by
   intro listed hs hr i
   induction i using Nat.strongRecOn with
   | _ i ih =>
    intro hi
    cases hc:Sof listed i with
    | true=>rfl
    | false =>
     exfalso
     have:i∈Region.ready .any l.toArray listed:=by
      rw[mem_ready]
      refine⟨?_,l[i],by simp[hi],fun e he hb=>?_⟩
      . have:i<listed.size:=by omega
        simp only[Sof]at hc
        simp[this]at hc ⊢
        exact hc
      . have h1:=zz.1 hacy i (mC.2 hi)
        rw[zk hi]at h1
        simp only[Option.all_some,zz]at h1
        have h2:=h1 e (by simpa using he)
        rw[hb,Bool.not_true,Bool.false_or,decide_eq_true_eq]at h2
        exact ih e.on h2 o_
     rw[hr]at this
     cases this
  induction fuel with
  | zero =>
   intro listed g w hs hc hd hM
   have hz:∀ x∈listed.toList,x=true:=by
    intro x hx
    have:=zJ.1 (Nat.le_zero.1 hc) x hx
    simpa using this
   have hall:∀ i,i<l.length->Sof listed i=true:=by
    intro i hi
    have hi' : i<listed.size:=by omega
    simp only[Sof]
    simp[hi']
    exact hz _ s_
   refine⟨?_,fin listed g w hs hall hM⟩
   cases hr:Region.ready .any l.toArray listed with
   | nil=>rfl
   | cons i rs =>
    have:i∈Region.ready .any l.toArray listed:=by rw[hr];simp
    rw[mem_ready]at this
    obtain⟨h1,o,ho,_⟩:=this
    have hi:i<l.length:=by simpa using(z8.1 ho).1
    have:=hall i hi
    simp only[Sof]at this
    have hi' : i<listed.size:=by omega
    simp[hi']at h1 this
    rw[h1]at this
    cases this
  | succ fuel ih =>
   intro listed g w hs hc hd hM
   refine⟨fun hr=>fin listed g w hs (allOf listed hs hr) hM,fun i hi=>?_⟩
   obtain⟨hun,o,ho,hed⟩:=mem_ready.1 hi
   have ho' : l[i]? = some o:=by simpa using ho
   have hil:i<l.length:=(zd.1 ho').1
   have hil' : i<listed.size:=by omega
   have hSi:Sof listed i=false:=by
    simp only[Sof];simp[hil']at hun ⊢;exact hun
   -- the set behind it
   let S:=Sof listed
   let S' := Sof (listed.setIfInBounds i true)
   have hSi:S i=false:=hSi
   have hd:Down l S:=hd
   have hS' : ∀ j,S' j=(S j||j==i):=fun j=>GL listed i j hil'
   have hd' : Down l S' := ⟨fun j oj hj hSj e he hb=>by
    rw[hS']at hSj ⊢
    rcases qI.1 hSj with h|h
    . rw[show S e.on=true from hd.closed j oj hj h e he hb];rfl
    . have:j=i:=by simpa using h
      subst this
      have:oj=o:=Option.some.inj (hj.symm.trans ho')
      subst this
      rw[show S e.on=true from hed e he hb];rfl⟩
   have hps:=fun j=>CO (S:=S) hpre hd j
   have hps' := fun j=>CO (S:=S') hpre hd' j
   -- what waits for i has not come up
   have notYet:∀ k,k<l.length->(pre.getD k []).contains i=true->S k=false:=by
    intro k hk hki
    cases hSk:S k with
    | false=>rfl
    | true=>have:=hps k hSk hk i hki;rw[hSi]at this;cases this
   -- what i waits for has
   have nC:∀ k,(pre.getD i []).contains k=true->S k=true:=by
    intro k hk
    have h1:=hps' i (by rw[hS'];simp) hil k hk
    rw[hS']at h1
    rcases qI.1 h1 with h|h
    . exact h
    . exfalso
      have e:k=i:=by simpa using h
      subst e
      have:=notYet k hil hk
      -- k is in fO own list: then it has come up before itself
      have h2:=zz.1 (zz.1 hpre k (mC.2 hil)) k (by simpa using hk)
      rw[zk hil]at h2
      simp only[Option.any_some,EE,zo,decide_eq_true_eq,sR,beq_iff_eq]at h2
      obtain⟨e,he,⟨hb,hlt⟩,h3⟩:=h2
      have hSe:S e.on=true:=by
       have:l[k]=o:=by rw[zk hil]at ho'; exact Option.some.inj ho'
       rw[this]at he
       exact hed e (by simpa using he) hb
      rcases h3 with h3|h3
      . omega
      . have:=hps e.on hSe o_ k (by simpa using h3)
        rw[hSi]at this;cases this
   -- the slots that it looks at hold what they hold in the order of the text
   have agree:∀ t,t∈o.looksAt l.toArray->look (ia S 0 l (V.map (· g)) s0) t=look (ia (fun j=>decide (j<i)) 0 l (V.map (· g)) s0) t:=by
    intro t ht
    rw[kF,kF]
    congr 1
    refine qP l 0 _ _ rfl fun j oj hj hdj=>⟨?_,fun _=>rfl⟩
    rw[jN]
    have htou:j9 l.toArray oj o=true:=by simp[j9,hdj,ht]
    rcases tV j i with h|h|h
    . simp[h,nC j (nF j i oj o hj ho' h (.inl htou))]
    . subst h;simp[hSi,S]
    . have:=notYet j (zd.1 hj).1 (nF i j o oj ho' hj h (.inr htou))
      simp[this];omega
   have hev:execOp (ev n (ia S 0 l (V.map (· g)) s0)) o=execOp (ev n (ia (fun j=>decide (j<i)) 0 l (V.map (· g)) s0)) o:=by
    refine execOp_congr o (fun cs b e=>?_) fun x hx=>?_
    . have:=zz.1 hsel o (zh ho')
      rw[e]at this
      simp[rZ]at this
    . cases x with
      | tmp t =>
       simp only[ev]
       rw[agree t (ve _ (Cq.2 ⟨.tmp t,by simpa using hx,rfl⟩))]
      | _=>rfl
   have htk:gB l.toArray n (ia S 0 l (V.map (· g)) s0) o.guard=gB l.toArray n (ia (fun j=>decide (j<i)) 0 l (V.map (· g)) s0) o.guard:=by
    cases hg:o.guard with
    | none=>rfl
    | some gd =>
     obtain⟨jg,want⟩:=gd
     simp only[gB]
     have e:qZ l.toArray.toList jg=(l.toArray[jg]?).bind (·.dst):=by rw[C8];simp
     rw[e]
     cases hdg:(l.toArray[jg]?).bind (·.dst)with
     | none=>rfl
     | some d =>
      simp only[ev]
      rw[agree d (vE _ (by rw[hg];simp only;rw[hdg];simp))]
   -- the frame behind it
   have hcnt:(listed.setIfInBounds i true).toList.countP (! ·)<=fuel:=by
    have:(listed.setIfInBounds i true).toList.countP (! ·)+1<=listed.toList.countP (! ·):=by
     rw[Ff]
     have hil2:i<listed.toList.length:=by simpa using hil'
     have hfalse:listed.toList[i]=false:=by simp[hil']at hun;simpa using hun
     have e:=vk i listed.toList
     have e2:listed.toList=listed.toList.take i++false :: listed.toList.drop (i+1):=by
      conv=>lhs;rw[<-e,wY hil2,hfalse]
     have e3:listed.toList.set i true=listed.toList.take i++true :: listed.toList.drop (i+1):=by
      rw[EV,if_pos hil2]
     rw[e3]
     conv=>rhs;rw[e2]
     simp[List.countP_append,tO]
     omega
    omega
   have frame:∀ (g' : Γ) (v:Γ->Value),V[i]? = some v->(∀ k u,V[k]? = some u->S k=true->u g' = u g) ->
    (Fr n (ia S 0 l (V.map (· g)) s0) ds).put o.dst (v g')=Fr n (ia S' 0 l (V.map (· g')) s0) ds:=by
    intro g' v hv hst
    rw[uz]
    refine sj ds fun t=>?_
    rw[CX,kF,kF]
    by_cases hdt:o.dst=some t
    . rw[if_pos hdt]
      have:l8 S' t 0 l (V.map (· g'))=some (v g'):=by
       refine C3 l 0 i _ o (v g') ho' hdt (by simp[hv]) (by rw[jN,hS'];simp) fun j oj hij hj hdj=>?_
       rw[jN,hS']
       have hto:j9 l.toArray o oj=true:=by simp[j9,hdt,hdj]
       have:=notYet j (zd.1 hj).1 (nF i j o oj ho' hj hij (.inl hto))
       simp[this];omega
      rw[this];rfl
    . rw[if_neg hdt]
      congr 1
      refine qP l 0 _ _ s_ fun j oj hj hdj=>?_
      rw[jN,hS']
      have hji:¬ j=i:=by
       rintro rfl
       have:oj=o:=Option.some.inj (hj.symm.trans ho')
       subst this
       exact hdt hdj
      refine⟨by simp[hji],fun hSj=>?_⟩
      have hjl:j<V.length:=by have:=(zd.1 hj).1;omega
      simp only[kJ,zk hjl,nu]
      rw[hst j _ (zk hjl) hSj]
   obtain⟨v,hv,hob⟩:=hget i o ho'
   unfold wpOpIn
   rw[ho]
   simp only
   by_cases himem:i∈mem
   . -- an operation on memory
     have hcon:mem.contains i=true:=by simpa using himem
     rw[hcon]at hob
     have hokD:sK pre mem i (mem.filter S)=true:=N2 hmlt nC notYet hSi
     have hins:wz mem (mem.filter S) i=mem.filter S' := by
      unfold wz
      refine FC fun j hj=>?_
      rw[hS']
      have:(mem.filter S).contains j=S j:=contains_filter hj
      rw[this]
     have hM' : M (mem.filter S) g w:=hM
     have next:∀ v' w', (∃ g', M (wz mem (mem.filter S) i) g' w' /\ v' = v g' /\ jR pre i g g' 0 V) ->
      wpAnyIn (FW r) 0 P .any l.toArray Q fuel (listed.setIfInBounds i true) ((Fr n (ia S 0 l (V.map (· g)) s0) ds).put o.dst v') w' := by
      rintro v' w' ⟨g', hM2,rfl,hstab⟩
      have:=ih (listed.setIfInBounds i true) g' w' (by simpa using hs) hcnt hd' (by rw[show mem.filter (Sof (listed.setIfInBounds i true))=wz mem (mem.filter S) i from hins.symm];exact hM2)
      rw[frame g' v hv ?_]
      . exact this
      . intro k u hk hSk
        refine jR.get V 0 hstab k u hk ?_
        rw[jN]
        have hkl:k<l.length:=by have:=(zd.1 hk).1;omega
        have h1:(pre.getD k []).contains i=false:=by
         cases h:(pre.getD k []).contains i with
         | false=>rfl
         | true=>have:=notYet k hkl h;rw[hSk]at this;cases this
        have h2:¬ k=i:=by rintro rfl;rw[hSi]at hSk;cases hSk
        rw[h1];simp[h2]
     rcases hob _ hokD g w hM' with ⟨ht,hnd,hcase⟩|⟨ht,hN⟩
     . rw[mX,htk,ht,if_pos rfl]
       refine⟨fun _ _=>trivial,?_⟩
       rw[semAt_eq (sX hnd),pe, hev]
       rcases hcase with ⟨v', w', hr,hN⟩|⟨w', hr,hN⟩|⟨f,args,hr,hC⟩
       . rw[hr];exact next v' w' hN
       . rw[hr];exact next undef w' hN
       . rw[hr]
         refine⟨fun h=>by simp[FW]at h,qQ.2 (Calls.mono hC ?_)⟩
         intro e w' he
         cases e with
         | returned v' => exact next v' w' he
         | panicked ch =>
          refine he _ fun t ht' => ?_
          rw[kF,vL l 0 _ (fun j oj hj hdj=>absurd hdj (ht' oj (zh hj)))]
          rfl
         | outgrown=>exact he
     . rw[mX,htk,ht]
       exact⟨fun _ _=>trivial,next undef w hN⟩
   . have hcon:mem.contains i=false:=by simpa using himem
     rw[hcon]at hob
     have hc' : mem.filter S' = mem.filter S:=by
      refine FC fun j hj=>?_
      rw[hS']
      have:¬ j=i:=by rintro rfl;exact himem hj
      simp[this]
     have hokD:sK pre mem i (mem.filter S)=true:=N2 hmlt nC notYet hSi
     have next:∀ w', M (mem.filter S) g w' -> wpAnyIn (FW r) 0 P .any l.toArray Q fuel (listed.setIfInBounds i true) ((Fr n (ia S 0 l (V.map (· g)) s0) ds).put o.dst (v g)) w' := by
      intro w' hM2
      have:=ih (listed.setIfInBounds i true) g w' (by simpa using hs) hcnt hd' (by rw[show mem.filter (Sof (listed.setIfInBounds i true))=mem.filter S from hc'];exact hM2)
      rw[frame g v hv (fun _ _ _ _=>rfl)]
      exact this
     rcases hob _ hokD g w hM with ⟨ht,hnd,hcase⟩|⟨ht,hN⟩
     . rw[mX,htk,ht,if_pos rfl]
       refine⟨fun _ _=>trivial,?_⟩
       rw[semAt_eq (sX hnd),pe, hev]
       rcases hcase with hr|⟨f,args,hr,hC⟩
       . rw[hr];exact next w hM
       . rw[hr]
         refine⟨fun h=>by simp[FW]at h,qQ.2 (Calls.mono hC ?_)⟩
         rintro e w' ⟨v', rfl,rfl,hC'⟩
         exact next w' hC'
     . rw[mX,htk,ht]
       exact⟨fun _ _=>trivial,by rw[<-hN];exact next w hM⟩
 have e0:Fr n s0 ds=Fr n (ia (Sof (Array.replicate l.toArray.size false)) 0 l (V.map (· g0)) s0) ds:=by
  refine sj ds fun t=>?_
  rw[kF,vL l 0 _ (fun j o _ _=>?_)]
  . rfl
  . simp only[Sof];exact uu _ _
 have hz:mem.filter (Sof (Array.replicate l.toArray.size false))=[]:=List.filter_eq_nil_iff.2 fun j _=>by
  simp only[Sof];rw[uu];simp
 rw[e0]
 refine main _ _ g0 _ s_ (z7 JU s_) ⟨fun j o _ h=>?_⟩ (by rw[hz];exact h0)
 exfalso
 simp only[Sof]at h
 rw[uu]at h
 cases h
end
def BO:List Nat->List Nat->Bool
 | [],[]=>true
 | a :: l,b :: m=>Nat.beq a b&&BO l m
 | _,_=>false
theorem NK:∀ {l m:List Nat},BO l m=true->l=m
 | [],[],_=>rfl
 | a :: l,b :: m,h=>by
  simp only[BO,zo]at h
  rw[zt h.1,NK h.2]
 | [],_ :: _,h=>by cases h
 | _ :: _,[],h=>by cases h
def tj{α:Type}:List (List Nat×α)->List Nat->Option α
 | [],_=>none
 | (k,a) :: l,d=>bif BO k d then some a else tj l d
section
variable {Γ:Type} {r:Option Nat} {P:Program} {ops:Array Oper} {Q:Exit->Act->World->Prop} {n:Nat} {ds:List Deferred} {s0:List (Nat×Value)} {l0 l:List Oper} {pre:List (List Nat)} {mem:List Nat} {V vs:List (Γ->Value)} {v:Γ->Value}
variable {bs:List (World×List Nat)} {Ls:List (List Nat×((Γ->List gi)×(Γ->World->Prop)))} {i:Nat} {s:Γ->List (Nat×Value)} {o:Oper} {L L' : Γ->List gi} {F F' : Γ->World->Prop}
def o4(bs:List (World×List Nat))(Ls:List (List Nat×((Γ->List gi)×(Γ->World->Prop))))(d:List Nat)(g:Γ)(w:World):Prop :=
 match tj Ls d with
 | some (L,F)=>St bs (L g) w/\F g w
 | none=>False
def yY(C:List Nat->(Γ->List gi)->(Γ->World->Prop)->Prop):List (List Nat×((Γ->List gi)×(Γ->World->Prop)))->Prop
 | []=>True
 | (d,L,F) :: r=>C d L F/\yY C r
theorem yY.get{C:List Nat->(Γ->List gi)->(Γ->World->Prop)->Prop}:∀ {Ls:List (List Nat×((Γ->List gi)×(Γ->World->Prop)))} {d:List Nat},yY C Ls->tj Ls d=some (L,F)->C d L F
 | [],_,_,h=>by cases h
 | (k,L0,F0) :: r,d,hf,h=>by
  simp only[tj]at h
  cases hk:BO k d with
  | true =>
   rw[hk]at h
   simp only[cond_true,Option.some.injEq,Prod.mk.injEq]at h
   obtain⟨rfl,rfl⟩:=h
   rw[<-NK hk]
   exact hf.1
  | false =>
   rw[hk]at h
   exact yY.get hf.2 h
theorem Po:pU P ops Q n ds s0 l0 pre mem V (o4 bs Ls) i s [] []:=trivial
theorem mG(hm:mem.contains i=false)(h:∀ g w C,mj P ops n o (s g) (v g) C w)(K:pU P ops Q n ds s0 l0 pre mem V (o4 bs Ls) (i+1) (fun g=>jy o.dst (v g) (s g)) l vs) :
 pU P ops Q n ds s0 l0 pre mem V (o4 bs Ls) i s (o :: l) (v :: vs):=by
 refine⟨?_,K⟩
 rw[hm]
 intro d _ g w hM
 rcases h g w (o4 bs Ls d g)with ⟨h1,h2,h3|h3⟩|h3
 . exact .inl ⟨h1,h2,.inl h3⟩
 . exact .inl ⟨h1,h2,.inr h3⟩
 . exact .inr h3
theorem yB(hm:mem.contains i=false)(h:yY (fun d L F=>bif sK pre mem i d then ∀ g w,St bs (L g) w->F g w->mj P ops n o (s g) (v g) (fun w' => St bs (L g) w' /\ F g w') w else True) Ls)
 (K:pU P ops Q n ds s0 l0 pre mem V (o4 bs Ls) (i+1) (fun g=>jy o.dst (v g) (s g)) l vs):pU P ops Q n ds s0 l0 pre mem V (o4 bs Ls) i s (o :: l) (v :: vs):=by
 refine⟨?_,K⟩
 rw[hm]
 intro d hd g w hM
 unfold o4 at hM ⊢
 cases hl:tj Ls d with
 | none=>rw[hl]at hM;exact hM.elim
 | some p =>
  obtain⟨L,F⟩:=p
  rw[hl]at hM
  have h1:=h.get hl
  simp only[hd,cond_true]at h1
  exact h1 g w hM.1 hM.2
theorem yK(hm:mem.contains i=true)
 (h:yY (fun d L F=>bif sK pre mem i d then ∃ L' F', tj Ls (wz mem d i)=some (L', F')/\∀ g w,St bs (L g) w->F g w->lG P ops Q n ds s0 l0 o (s g) (fun v' w' => ∃ g', (St bs (L' g') w' /\ F' g' w')/\v' = v g' /\ jR pre i g g' 0 V) w else True) Ls)
 (K:pU P ops Q n ds s0 l0 pre mem V (o4 bs Ls) (i+1) (fun g=>jy o.dst (v g) (s g)) l vs):pU P ops Q n ds s0 l0 pre mem V (o4 bs Ls) i s (o :: l) (v :: vs):=by
 refine⟨?_,K⟩
 rw[hm]
 intro d hd g w hM
 unfold o4 at hM ⊢
 cases hl:tj Ls d with
 | none=>rw[hl]at hM;exact hM.elim
 | some p =>
  obtain⟨L,F⟩:=p
  rw[hl]at hM
  have h1:=h.get hl
  simp only[hd,cond_true]at h1
  obtain⟨L', F', hL', h2⟩:=h1
  rw[hL']
  exact h2 g w hM.1 hM.2
theorem Pu{id:Nat}{w:World}(hm:P.follows .mixedOrders=true)(pre:List (List Nat))(mem:List Nat)(hok:H9 l pre mem=true)(V:List (Γ->Value))(Ls:List (List Nat×((Γ->List gi)×(Γ->World->Prop))))(g0:Γ)
 (sE:Γ->List (Nat×Value)) (hL:tj Ls []=some (L,F)) (hst:St bs (L g0) w) (hF:∀ w', gD [] w w' -> F g0 w') (hO:pU P l.toArray Q n ds s0 l pre mem V (o4 bs Ls) 0 (fun _=>s0) l V)
 (hE:∀ g,ia (fun _=>true) 0 l (V.map (· g)) s0=sE g) (hLe:tj Ls mem=some (L', F'))
 (hend:∀ g w', St bs (L' g) w' -> F' g w' -> Q .normal (Fr n (sE g) ds) w'):WP r P (.region id l.toArray true) Q (Fr n s0 ds) w :=
 aaE hm pre mem hok V (o4 bs Ls) g0 sE (by unfold o4;rw[hL];exact⟨hst.grow (gD.drew [] w),hF _ (gD.drew [] w)⟩) hO hE fun g w' h=>by
  unfold o4 at h
  rw[hLe]at h
  exact hend g w' h.1 h.2
end
end Go.Sx
namespace Go.Sx
open Go
def wL(b:Bool)(rc:Loop):Loop:=if b then { rc with state:=.done,pending:=some .ret } else rc
section
variable {P:Program} {ops:Array Oper} {Q:Exit->Act->World->Prop} {rest:List Oper} {n:Nat} {s:List (Nat×Value)} {ds:List Deferred} {w:World}
variable {x:Operand} {l:Nat} {bs:List (World×List Nat)} {L LL:List gi} {i:Nat} {rc:Loop}
theorem Qc{R:Ending->World->Prop}{a:Act}(i:Nat)(hst:St bs L w)(hi:L[i]? = some (jd l { rc with state:=.busy }))(hL:L.set i (jd l (wL true rc))=LL)(K:∀ w', St bs LL w' -> R (.returned (.bool false)) w'):roundPost P l R .ret a w:=by
 refine⟨_,_,run_endRound (some .ret) (hst.vR hi),K _ ?_⟩
 subst hL
 exact hst.A8 hi _
theorem rfx{f:FuncId}{fi ca:List Value}{ps:List Nat}{assign body:Code}{α:Type}(LZ:α->List gi)(C:α->Prop)(stop:α->Bool)(hst:St bs L w)(hx:ev n s x = .func (.func f) fi.toArray ca.toArray)(he:gz P f)
 (h1:∀ fn dd l w₁ rc,rc=(⟨.ready,none,fn,(Fr n s ds).tmps,ps.toArray,assign,body,dd⟩:Loop)->St bs (jd l rc :: kA dd (some []) :: L) w₁ ->
  CR P f (fi++[Value.func (.yield l) #[] #[]]++ca).toArray w₁ (fun _ w₃=>∃ z,C z/\St bs (jd l (wL (stop z) rc) :: kA dd (some []) :: LZ z) w₃))
 (h2:∀ z dd w₄,C z->stop z=false->St bs (kA dd (some []) :: LZ z) w₄->Q .normal (Fr n s (⟨.collected dd,#[]⟩ :: ds)) w₄)
 (h3:∀ z dd w₄,C z->stop z=true->St bs (kA dd (some []) :: LZ z) w₄->Q .ret (Fr n s (⟨.collected dd,#[]⟩ :: ds)) w₄):WP none P (.rangeFunc x ps.toArray assign body) Q (Fr n s ds) w:=by
 refine wpIn_rangeFunc fun fn _=>?_
 have hs1:St bs (kA w.heap.size (some []) :: L) (w.alloc (.deferred (some []))) :=
  hst.qX (gD.alloc [] w _) (fun b hb=>by simp[kA]at hb;omega) (by simp[kA]) (fun b hb=>by simp[kA]at hb;simp;omega) (World.alloc_heap_new w _)
 have hs2:St bs (jd (w.heap.size+1) ⟨.ready,none,fn,(Fr n s ds).tmps,ps.toArray,assign,body,w.heap.size⟩ :: kA w.heap.size (some []) :: L) ((w.alloc (.deferred (some []))).alloc (.loop ⟨.ready,none,fn,(Fr n s ds).tmps,ps.toArray,assign,body,w.heap.size⟩)) :=
  hs1.qX (gD.alloc [] _ _) (fun b hb=>by simp[jd]at hb;simp;omega) (by simp[jd]) (fun b hb=>by simp[jd]at hb;simp;omega) (by have:=World.alloc_heap_new (w.alloc (.deferred (some []))) (.loop ⟨.ready,none,fn,(Fr n s ds).tmps,ps.toArray,assign,body,w.heap.size⟩);simpa[jd]using this)
 refine⟨w.heap.size+1,_,_,⟨.fn (.func f) ca.toArray,(fi++[Value.func (.yield (w.heap.size+1)) #[] #[]]).toArray⟩,((w.alloc (.deferred (some []))).alloc (.loop ⟨.ready,none,fn,(Fr n s ds).tmps,ps.toArray,assign,body,w.heap.size⟩)),f,(fi++[Value.func (.yield (w.heap.size+1)) #[] #[]]++ca).toArray,((w.alloc (.deferred (some []))).alloc (.loop ⟨.ready,none,fn,(Fr n s ds).tmps,ps.toArray,assign,body,w.heap.size⟩)),run_enterLoop_outer fn _ _ _ _,?_,fun _ _=>trivial,?_,fun h=>by simp[FW]at h,?_⟩
 . rw[pe]
   simp only[resolve,rangeCall,Deferred.ofValue,hx]
   simp[ev]
 . have:=he ((fi++[Value.func (.yield (w.heap.size+1)) #[] #[]]++ca).toArray) ((w.alloc (.deferred (some []))).alloc (.loop ⟨.ready,none,fn,(Fr n s ds).tmps,ps.toArray,assign,body,w.heap.size⟩))
   simp only[invoke]
   simpa using this
 . refine qQ.2 (Calls.mono (h1 fn w.heap.size (w.heap.size+1) _ _ rfl hs2) ?_)
   rintro e w₃ ⟨v,rfl,z,hC,hs3⟩
   have hs4:=fun rc' => (hs3.A8 (i:=0) rfl rc').sub (JC _ _)
   cases hz:stop z with
   | false =>
    rw[hz]at hs3
    refine⟨none,_,run_endLoop (hs3.vR (i:=0) rfl) (by simp[wL]),?_⟩
    exact h2 z w.heap.size _ hC hz (hs4 _)
   | true =>
    rw[hz]at hs3
    refine⟨some .ret,_,run_endLoop (hs3.vR (i:=0) rfl) (by simp[wL]),?_⟩
    exact wpIn_ret (h3 z w.heap.size _ hC hz (hs4 _))
end
end Go.Sx
namespace Go.Ex
open Go Go.Sx
noncomputable section
def gb(t:Tr Nat)(k:Nat):Nat:=match t.get k with
 | some m=>m
 | none=>0
def Eo(t:Tr Nat)(k j:Nat):Tr Nat:=t.put k (some (gb t k ||| 2 ^ j))
def sub(a b:Nat):Bool:=Nat.beq (a &&& b) a
def Bn(ms:Tr Nat)(j:Nat):List Edge->Nat->Option Nat
 | [],acc=>some acc
 | e :: es,acc=>bif Region.binds .any e then(bif Nat.blt e.on j then Bn ms j es (acc ||| (2 ^ e.on ||| gb ms e.on))else none)else Bn ms j es acc
def yL(wr:Tr Nat):List Nat->Nat->Nat
 | [],a=>a
 | t :: ts,a=>yL wr ts (a ||| gb wr t)
def xP(j:Nat):List Nat->Tr Nat->Tr Nat
 | [],rd=>rd
 | t :: ts,rd=>xP j ts (Eo rd t j)
def Ez(wr rd:Tr Nat):Option Nat->Nat
 | some d=>gb wr d ||| gb rd d
 | none=>0
def BE(wr:Tr Nat)(j:Nat):Option Nat->Tr Nat
 | some d=>Eo wr d j
 | none=>wr
def scan(ops:List Oper):List Oper->Nat->Tr Nat->Tr Nat->Tr Nat->Option (List Nat)
 | [],_,_,_,_=>some []
 | o :: l,j,ms,wr,rd=>match Bn ms j o.after.toList 0 with
  | some m=>bif !rZ o.op&&sub (yL wr (o.looksAt ops.toArray) 0 ||| Ez wr rd o.dst) m then
   (match scan ops l (j+1) (ms.put j (some m)) (BE wr j o.dst) (xP j (o.looksAt ops.toArray) rd)with
   | some r=>some (m :: r)
   | none=>none)else none
  | none=>none
def mI(masks:List Nat)(j i:Nat):Bool:=Nat.testBit ((masks[j]?).getD 0) i
theorem HP{a b:Nat}(h:sub a b=true){i:Nat}(hi:Nat.testBit a i=true):Nat.testBit b i=true:=by
 have:=zt h
 rw[<-this,B8]at hi
 simp at hi
 exact hi.2
theorem Oc(t:Tr Nat)(k k' m:Nat):gb (t.put k (some m)) k' = if k' = k then m else gb t k' := by
 unfold gb
 rw[Tr.r7]
 by_cases h:k' = k
 . rw[if_pos h,if_pos h]
 . rw[if_neg h,if_neg h]
theorem nX{a b i:Nat}:Nat.testBit (a ||| b) i=true↔Nat.testBit a i=true\/Nat.testBit b i=true:=by rw[Nat.testBit_or];simp
theorem s8{j i:Nat}:Nat.testBit (2 ^ j) i=true↔j=i:=by rw[Nat.testBit_two_pow];simp
theorem Hs(t:Tr Nat)(k j k' i:Nat):Nat.testBit (gb (Eo t k j) k') i=true↔Nat.testBit (gb t k') i=true\/(k' = k/\i=j):=by
 unfold Eo
 rw[Oc]
 split
 . rename_i h;subst h
   rw[nX,s8]
   constructor
   . rintro(h|h)
     . exact .inl h
     . exact .inr ⟨rfl,h.symm⟩
   . rintro(h|⟨_,h⟩)
     . exact .inl h
     . exact .inr h.symm
 . rename_i h
   constructor
   . exact .inl
   . rintro(h1|⟨h1,_⟩)
     . exact h1
     . exact absurd h1 h
theorem R5{ms:Tr Nat}{j:Nat}:∀ (es:List Edge) (acc m:Nat),Bn ms j es acc=some m ->
 (∀ i,Nat.testBit m i=true->Nat.testBit acc i=true\/∃ e∈es,Region.binds .any e=true/\e.on<j/\(e.on=i\/Nat.testBit (gb ms e.on) i=true))/\(∀ e∈es,Region.binds .any e=true->e.on<j):=by
 intro es
 induction es with
 | nil=>intro acc m h;cases h;exact⟨fun i hi=>.inl hi,fun e he=>by cases he⟩
 | cons e es ih =>
  intro acc m h
  simp only[Bn]at h
  cases hb:Region.binds .any e with
  | false =>
   rw[hb]at h
   obtain⟨h1,h2⟩:=ih acc m h
   refine⟨fun i hi=>?_,fun e' he' hb' => ?_⟩
   . rcases h1 i hi with h3|⟨e', he', h3⟩
     . exact .inl h3
     . exact .inr ⟨e', lu _ he', h3⟩
   . rcases zb.1 he' with rfl|he'
     . rw[hb]at hb'; cases hb'
     . exact h2 e' he' hb'
  | true =>
   rw[hb]at h
   simp only[cond_true]at h
   cases hl:Nat.blt e.on j with
   | false=>rw[hl]at h;cases h
   | true =>
    rw[hl]at h
    simp only[cond_true]at h
    have hlt:e.on<j:=by simpa[Nat.blt,uc]using hl
    obtain⟨h1,h2⟩:=ih _ m h
    refine⟨fun i hi=>?_,fun e' he' hb' => ?_⟩
    . rcases h1 i hi with h3|⟨e', he', h3⟩
      . rw[nX,nX,s8]at h3
        rcases h3 with h3|h3|h3
        . exact .inl h3
        . exact .inr ⟨e,zg ..,hb,hlt,.inl h3⟩
        . exact .inr ⟨e,zg ..,hb,hlt,.inr h3⟩
      . exact .inr ⟨e', lu _ he', h3⟩
    . rcases zb.1 he' with rfl|he'
      . exact hlt
      . exact h2 e' he' hb'
theorem TO{wr:Tr Nat}{i:Nat}:∀ (ts:List Nat) (a:Nat),Nat.testBit (yL wr ts a) i=true↔Nat.testBit a i=true\/∃ t∈ts,Nat.testBit (gb wr t) i=true:=by
 intro ts
 induction ts with
 | nil=>intro a;simp[yL]
 | cons t ts ih =>
  intro a
  rw[yL,ih,nX]
  constructor
  . rintro((h|h)|⟨u,hu,h⟩)
    . exact .inl h
    . exact .inr ⟨t,zg ..,h⟩
    . exact .inr ⟨u,lu _ hu,h⟩
  . rintro(h|⟨u,hu,h⟩)
    . exact .inl (.inl h)
    . rcases zb.1 hu with rfl|hu
      . exact .inl (.inr h)
      . exact .inr ⟨u,hu,h⟩
theorem SY{j t i:Nat}:∀ (ts:List Nat) (rd:Tr Nat),Nat.testBit (gb (xP j ts rd) t) i=true↔Nat.testBit (gb rd t) i=true\/(t∈ts/\i=j):=by
 intro ts
 induction ts with
 | nil=>intro rd;simp[xP]
 | cons u ts ih =>
  intro rd
  rw[xP,ih,Hs]
  constructor
  . rintro((h|⟨rfl,h⟩)|⟨h1,h2⟩)
    . exact .inl h
    . exact .inr ⟨zg ..,h⟩
    . exact .inr ⟨lu _ h1,h2⟩
  . rintro(h|⟨h1,h2⟩)
    . exact .inl (.inl h)
    . rcases zb.1 h1 with rfl|h1
      . exact .inl (.inr ⟨rfl,h2⟩)
      . exact .inr ⟨h1,h2⟩
theorem Tm(ops:List Oper):∀ (l:List Oper) (j:Nat) (Mp:List Nat) (ms wr rd:Tr Nat) (r:List Nat),scan ops l j ms wr rd=some r->ops.drop j=l->Mp.length=j->(∀ i,i<j->gb ms i=(Mp[i]?).getD 0) ->
 (∀ i x t,i<j->ops[i]? = some x->x.dst=some t->Nat.testBit (gb wr t) i=true)->(∀ i x t,i<j->ops[i]? = some x->t∈x.looksAt ops.toArray->Nat.testBit (gb rd t) i=true) ->
 r.length=l.length/\∀ k o,l[k]? = some o ->
  (∀ i,mI (Mp++r) (j+k) i=true->∃ e∈o.after,Region.binds .any e=true/\e.on<j+k/\(e.on=i\/mI (Mp++r) e.on i=true))/\rZ o.op=false/\(∀ e∈o.after,Region.binds .any e=true->e.on<j+k) /\
  (∀ i x,i<j+k->ops[i]? = some x->(j9 ops.toArray x o=true\/j9 ops.toArray o x=true)->mI (Mp++r) (j+k) i=true):=by
 intro l
 induction l with
 | nil=>intro j Mp ms wr rd r h _ _ _ _ _;cases h;exact⟨rfl,fun k o hk=>by simp at hk⟩
 | cons o l ih =>
  intro j Mp ms wr rd r h hdrop hMp hms hwr hrd
  simp only[scan]at h
  have hoj:ops[j]? = some o:=by
   have:=congrArg List.head? hdrop
   simpa using this
  have hdrop' : ops.drop (j+1)=l:=by
   have:=congrArg List.tail hdrop
   simpa[List.tail_drop]using this
  split at h
  . rename_i m hm
    cases hb:(!rZ o.op&&sub (yL wr (o.looksAt ops.toArray) 0 ||| Ez wr rd o.dst) m)with
    | false=>rw[hb]at h;cases h
    | true =>
     rw[hb]at h
     simp only[cond_true]at h
     split at h
     . rename_i r' hr'
       cases h
       rw[zo]at hb
       obtain⟨hsel,hsub⟩:=hb
       have hsel:rZ o.op=false:=by simpa using hsel
       obtain⟨hm1,hm2⟩:=R5 _ _ _ hm
       have IH:=ih (j+1) (Mp++[m]) (ms.put j (some m)) (BE wr j o.dst) (xP j (o.looksAt ops.toArray) rd) r' hr' hdrop' (by simp[hMp]) (fun i hi=>by
        rw[Oc]
        by_cases e:i=j
        . subst e;rw[if_pos rfl,u9 o_];simp[hMp]
        . rw[if_neg e,hms i o_,sS o_])
        (fun i x t hi hx ht=>by
         by_cases e:i=j
         . subst e
           have:x=o:=Option.some.inj (hx.symm.trans hoj)
           subst this
           rw[ht,BE,Hs];exact .inr ⟨rfl,rfl⟩
         . have:=hwr i x t o_ hx ht
           cases hd:o.dst with
           | none=>rw[BE];exact this
           | some d=>rw[BE,Hs];exact .inl this)
        (fun i x t hi hx ht=>by
         rw[SY]
         by_cases e:i=j
         . subst e
           have:x=o:=Option.some.inj (hx.symm.trans hoj)
           subst this
           exact .inr ⟨ht,rfl⟩
         . exact .inl (hrd i x t o_ hx ht))
       have hcat:Mp++[m]++r' = Mp++(m :: r'):=by simp
       rw[hcat]at IH
       have hpj:∀ i,mI (Mp++(m :: r')) j i=Nat.testBit m i:=by
        intro i
        unfold mI
        rw[u9 o_,hMp]
        simp
       have hplt:∀ k i,k<j->mI (Mp++(m :: r')) k i=Nat.testBit (gb ms k) i:=by
        intro k i hk
        unfold mI
        rw[sS o_,hms k hk]
       refine⟨by simp[IH.1],fun k o' hk=>?_⟩
       cases k with
       | succ k =>
        have:=IH.2 k o' (by simpa using hk)
        rw[show j+1+k=j+(k+1) by omega]at this
        exact this
       | zero =>
        simp at hk
        subst hk
        rw[mL]
        refine⟨fun i hi=>?_,hsel,fun e he hb=>hm2 e (by simpa using he) hb,fun i x hi hx ht=>?_⟩
        . rw[hpj]at hi
          rcases hm1 i hi with h0|⟨e,he,hb,hlt,h3⟩
          . simp at h0
          . refine⟨e,by simpa using he,hb,hlt,?_⟩
            rcases h3 with h3|h3
            . exact .inl h3
            . exact .inr (by rw[hplt e.on i hlt];exact h3)
        . rw[hpj]
          refine HP hsub ?_
          rw[nX,TO]
          rcases ht with ht|ht
          . unfold j9 at ht
            cases hxd:x.dst with
            | none=>rw[hxd]at ht;cases ht
            | some d =>
             rw[hxd]at ht
             have hw:=hwr i x d hi hx hxd
             rcases qI.1 ht with h1|h1
             . exact .inl (.inr ⟨d,by simpa using h1,hw⟩)
             . have:o.dst=some d:=by simpa using h1
               rw[this,Ez,nX]
               exact .inr (.inl hw)
          . unfold j9 at ht
            cases hod:o.dst with
            | none=>rw[hod]at ht;cases ht
            | some d =>
             rw[hod]at ht
             rw[Ez,nX]
             rcases qI.1 ht with h1|h1
             . exact .inr (.inr (hrd i x d hi hx (by simpa using h1)))
             . have:x.dst=some d:=by simpa using h1
               exact .inr (.inl (hwr i x d hi hx this))
     . cases h
  . cases h
theorem Tf{ops:List Oper}{masks:List Nat}(h:scan ops ops 0 .e .e .e=some masks):Bz ops (mI masks)/\masks.length=ops.length:=by
 have:=Tm ops ops 0 [] .e .e .e masks h rfl rfl (fun i hi=>by omega) (fun i x t hi=>by omega) (fun i x t hi=>by omega)
 simp only[rK,jN]at this
 obtain⟨h1,h2⟩:=this
 refine⟨⟨fun j o hj i hi=>(h2 j o hj).1 i hi,fun o ho=>?_,fun j o hj e he hb=>(h2 j o hj).2.2.1 e he hb,fun i j x y hx hy hij ht=>(h2 j y hy).2.2.2 i x hij hx ht⟩,h1⟩
 obtain⟨j,hj⟩:=zL.1 ho
 exact(h2 j o hj).2.1
end
end Go.Ex
namespace Go.Ex
open Go Go.Sx
noncomputable section
inductive Rb where
 | pure
 | read
 | fl
 | ch
def kindOf:Op->Rb
 | .move _=>.pure
 | .assign _=>.pure
 | .pick .. => .pure
 | .build .. => .pure
 | .nilCheck _=>.pure
 | .binOp .. => .pure
 | .unOp .. => .pure
 | .makeInterface .. => .pure
 | .makeFunc .. => .pure
 | .slice .. => .pure
 | .fieldAddr .. => .pure
 | .field .. => .pure
 | .indexAddr .. => .pure
 | .index .. => .pure
 | .extract .. => .pure
 | .load .. => .read
 | .lookup .. => .read
 | .convert .. => .read
 | .call ⟨.builtin .len,_,_⟩=>.read
 | .call ⟨.builtin .cap,_,_⟩=>.pure
 | .call ⟨.builtin .min,_,_⟩=>.pure
 | .call ⟨.builtin .max,_,_⟩=>.pure
 | .alloc _=>.fl
 | .makeSlice .. => .fl
 | .makeMap .. => .fl
 | _=>.ch
def pY:Nat:=4611686018427387904
mutual
def kI(k:Nat)(fs:List Nat):Value->Bool
 | .pointer (some a)=>Nat.blt a.block k||fs.any (Nat.beq a.block)
 | .slice (some a) _ _=>Nat.blt a.block k||fs.any (Nat.beq a.block)
 | .map (some r)=>Nat.blt r k||fs.any (Nat.beq r)
 | .chan (some r)=>Nat.blt r k||fs.any (Nat.beq r)
 | .func fn fi ca=>(match fn with | .yield l=>Nat.blt l k||fs.any (Nat.beq l)|_=>true)&&uO k fs fi&&uO k fs ca
 | .iface _ v=>kI k fs v
 | .agg cs=>uO k fs cs
 | .tuple cs=>uO k fs cs
 | .pointer none=>true
 | .slice none _ _=>true
 | .map none=>true
 | .chan none=>true
 | .bool _=>true
 | .int _ _=>true
 | .float _ _=>true
 | .complex _ _ _=>true
 | .string _=>true
 | .nilFunc=>true
 | .nilIface=>true
termination_by structural x=>x
def uO(k:Nat)(fs:List Nat):Array Value->Bool
 | ⟨l⟩=>yZ k fs l
termination_by structural x=>x
def yZ(k:Nat)(fs:List Nat):List Value->Bool
 | []=>true
 | v :: l=>kI k fs v&&yZ k fs l
termination_by structural x=>x
end
mutual
def i6:Value->Value->Bool
 | .pointer (some ⟨b,o,none⟩),.pointer (some ⟨b', o', none⟩)=>Nat.beq b b' && Nat.beq o o'
 | .slice (some ⟨b,o,none⟩) m c,.slice (some ⟨b', o', none⟩) m' c' => Nat.beq b b' && Nat.beq o o' && Nat.beq m m' && Nat.beq c c'
 | .map (some r),.map (some r')=>Nat.beq r r'
 | .agg cs,.agg cs' => zB cs cs'
 | .func (.func f) fi ca,.func (.func f') fi' ca' => Nat.beq f f' && zB fi fi' && zB ca ca'
 | .iface t v,.iface t' v' => Nat.beq t t' && i6 v v'
 | .tuple cs,.tuple cs' => zB cs cs'
 | .pointer none,.pointer none=>true
 | .slice none m c,.slice none m' c' => Nat.beq m m' && Nat.beq c c'
 | .map none,.map none=>true
 | .bool b,.bool b' => b==b'
 | .int k x,.int k' x' => decide (k=k')&&decide (x=x')
 | .string s,.string s' => decide (s.data.toList=s'.data.toList)
 | .nilFunc,.nilFunc=>true
 | .nilIface,.nilIface=>true
 | _,_=>false
termination_by structural x=>x
def zB:Array Value->Array Value->Bool
 | ⟨l⟩,⟨l'⟩=>tH l l'
termination_by structural x=>x
def tH:List Value->List Value->Bool
 | [],[]=>true
 | v :: l,v' :: l' => i6 v v' && tH l l'
 | _,_=>false
termination_by structural x=>x
end
structure Pl where
 i:Nat
 o:Oper
 m:Nat
def pick(want:Nat):List Oper->List Nat->Nat->List Pl
 | o :: l,m :: ms,j=>bif Nat.testBit want j then⟨j,o,m⟩ :: pick want l ms (j+1)else pick want l ms (j+1)
 | _,_,_=>[]
def qW:List Oper->List Nat->Nat->List Pl
 | o :: l,m :: ms,j=>match kindOf o.op with
  | .ch=>⟨j,o,m⟩ :: qW l ms (j+1)
  | _=>qW l ms (j+1)
 | _,_,_=>[]
def plan(ops:List Oper)(masks:List Nat):List Pl->Nat->List Pl
 | c :: cs,placed=>pick (c.m ^^^ (c.m &&& placed)) ops masks 0++c :: plan ops masks cs (placed ||| (c.m ||| 2 ^ c.i))
 | [],placed=>pick ((2 ^ ops.length-1) ^^^ ((2 ^ ops.length-1) &&& placed)) ops masks 0
def Bd(f:Nat):List Pl->Bool
 | []=>true
 | p :: l=>match kindOf p.o.op with
  | .ch=>Nat.testBit p.m f
  | _=>Bd f l
def wE(all:Nat):List Pl->Nat->Nat->Bool
 | [],pl,_=>Nat.beq pl all
 | p :: l,pl,cb => !Nat.testBit pl p.i&&sub p.m pl&&(match kindOf p.o.op with
  | .ch=>sub cb p.m&&wE all l (pl ||| 2 ^ p.i) (cb ||| 2 ^ p.i)
  | .fl=>Bd p.i l&&wE all l (pl ||| 2 ^ p.i) cb
  | _=>wE all l (pl ||| 2 ^ p.i) cb)
section
variable (P:Program)
def xq(o:Oper)(n:Nat)(σ:ja)(h:Tr PO):Option Value:=match jh P o.type o.op (l5 n σ) ⟨h,pY⟩with
 | some (.val v,_)=>some v
 | _=>none
def Qu(o:Oper)(n:Nat)(σ:ja)(A:AH):Option (Value×AH):=match jh P o.type o.op (l5 n σ) ⟨.e,A.nf⟩with
 | some (.val v,B)=>match B.get A.nf with
  | some ob=>some (v,A.add ob)
  | none=>none
 | _=>none
def uT(rec:Rec)(o:Oper)(n:Nat)(σ:ja)(A B:AH):Option (Value×AH):=match kindOf o.op with
 | .pure=>(xq P o n σ .e).map fun v=>(v,A)
 | .read=>(xq P o n σ B.h).map fun v=>(v,A)
 | .fl=>Qu P o n σ A
 | .ch=>Ap P rec false o n σ A
structure Rc where
 p:Pl
 σ:ja
 A:AH
 B:AH
 v:Value
 tk:Bool
def wg(o:Oper)(A' B:AH):AH:=match kindOf o.op with
 | .ch=>A'
 | _=>B
def EW(rec:Rec)(ops:List Oper)(n:Nat):List Pl->ja -> AH->AH->Option (List Rc×ja × AH×AH)
 | [],σ,A,B=>some ([],σ,A,B)
 | p :: l,σ,A,B=>match (bif sg ops n σ p.o.guard then(uT P rec p.o n σ A B).map fun x=>(x,true)else some ((undef,A),false))with
  | some ((v,A'),tk)=>bif Nat.ble (nm v) A'.nf&&Nat.ble A.nf A'.nf then(match EW rec ops n l (oO σ p.o.dst v) A' (wg p.o A' B)with
   | some (rs,z)=>some (⟨p,σ,A,B,v,tk⟩ :: rs,z)
   | none=>none)else none
  | none=>none
def uS:List Rc->Nat->AH->List (Nat×AH)
 | [],cb,Bf=>[(cb,Bf)]
 | r :: rs,cb,Bf=>match kindOf r.p.o.op with
  | .ch=>(cb,r.B) :: uS rs (cb ||| 2 ^ r.p.i) Bf
  | _=>uS rs cb Bf
def waiters(k:Nat):List Pl->Nat
 | []=>0
 | p :: l=>match kindOf p.o.op with
  | .ch=>bif Nat.testBit p.m k then 2 ^ p.i ||| waiters k l else waiters k l
  | _=>waiters k l
def q5:List Pl->Nat
 | []=>0
 | p :: l=>match kindOf p.o.op with
  | .ch=>2 ^ p.i ||| q5 l
  | _=>q5 l
def Ds:List Pl->Bool
 | []=>true
 | p :: l=>match kindOf p.o.op with
  | .ch=>false
  | .fl=>false
  | _=>Ds l
def qV(m:Nat):List Rc->List Nat
 | []=>[]
 | r :: rs=>match kindOf r.p.o.op with
  | .fl=>bif r.tk&&Nat.testBit m r.p.i then r.A.nf :: qV m rs else qV m rs
  | _=>qV m rs
def wG(rd:Bool)(n:Nat)(r:Rc)(fs:List Nat)(mk wk:Nat):List (Nat×AH)->Bool
 | []=>true
 | (cb,H) :: l=>(bif sub mk cb&&Nat.beq (wk &&& cb) 0 then
  kI H.nf fs r.v&&(bif rd&&r.tk then(match xq P r.p.o n r.σ H.h with
   | some v=>i6 v r.v
   | none=>false)else true)
  else true)&&wG rd n r fs mk wk l
def DJ(n:Nat)(hs:List (Nat×AH))(pln:List Pl)(all:List Rc):List Rc->Bool
 | []=>true
 | r :: rs=>(match kindOf r.p.o.op with
  | .pure=>wG P false n r (qV r.p.m all) (r.p.m &&& q5 pln) (waiters r.p.i pln) hs
  | .read=>wG P true n r (qV r.p.m all) (r.p.m &&& q5 pln) (waiters r.p.i pln) hs
  | _=>true)&&DJ n hs pln all rs
def yO:p9:=fun rec q ops n σ A=>match scan ops ops 0 .e .e .e with
 | some masks=>bif wE (2 ^ ops.length-1) (plan ops masks (qW ops masks 0) 0) 0 0 then
  (match EW P rec ops n (plan ops masks (qW ops masks 0) 0) σ A A with
  | some (rs,σ', A', B')=>bif Nat.ble A'.nf pY&&(Ds (plan ops masks (qW ops masks 0) 0)||DJ P n (uS rs 0 B') (plan ops masks (qW ops masks 0) 0) rs rs)then some (σ', A')else none
  | none=>none)else none
 | none=>none
end
end
end Go.Ex
namespace Go.Ex
open Go Go.Sx
theorem Cd{k b:Nat}{fs:List Nat}(h:(Nat.blt b k||fs.any (Nat.beq b))=true):b<k\/b∈fs:=by
 rcases qI.1 h with h|h
 . exact .inl (by simpa[Nat.blt,uc]using h)
 . obtain⟨x,hx,e⟩:=EE.1 h
   have:=zt e
   subst this
   exact .inr hx
mutual
theorem A6{k:Nat}{fs:List Nat}{E E' : Env}(h:∀ b,b<k\/b∈fs->E' b=E b):∀ v:Value,kI k fs v=true->fT E' v=fT E v
 | .pointer (some a),hn=>by simp only[kI]at hn;simp only[fT,iZ,h a.block (Cd hn)]
 | .slice (some a) _ _,hn=>by simp only[kI]at hn;simp only[fT,iZ,jT,h a.block (Cd hn)]
 | .map (some r),hn=>by simp only[kI]at hn;simp only[fT,h r (Cd hn)]
 | .chan (some r),hn=>by simp only[kI]at hn;simp only[fT,h r (Cd hn)]
 | .func fn fi ca,hn=>by
  simp only[kI,zo]at hn
  simp only[fT]
  rw[Dg h fi hn.1.2,Dg h ca hn.2]
  have:mP E' fn=mP E fn:=by
   cases fn<;>simp only[mP]
   rename_i l
   rw[h l (Cd hn.1.1)]
  rw[this]
 | .iface t v,hn=>by simp only[kI]at hn;simp only[fT,A6 h v hn]
 | .agg cs,hn=>by simp only[kI]at hn;simp only[fT,Dg h cs hn]
 | .tuple cs,hn=>by simp only[kI]at hn;simp only[fT,Dg h cs hn]
 | .pointer none,_=>rfl
 | .slice none _ _,_=>rfl
 | .map none,_=>rfl
 | .chan none,_=>rfl
 | .bool _,_=>rfl
 | .int _ _,_=>rfl
 | .float _ _,_=>rfl
 | .complex _ _ _,_=>rfl
 | .string _,_=>rfl
 | .nilFunc,_=>rfl
 | .nilIface,_=>rfl
theorem Dg{k:Nat}{fs:List Nat}{E E' : Env}(h:∀ b,b<k\/b∈fs->E' b=E b):∀ a:Array Value,uO k fs a=true->ko E' a=ko E a
 | ⟨l⟩,hn=>by simp only[uO]at hn;simp only[ko,Mt h l hn]
theorem Mt{k:Nat}{fs:List Nat}{E E' : Env}(h:∀ b,b<k\/b∈fs->E' b=E b):∀ l:List Value,yZ k fs l=true->lF E' l=lF E l
 | [],_=>rfl
 | v :: l,hn=>by simp only[yZ,zo]at hn;simp only[lF,A6 h v hn.1,Mt h l hn.2]
end
theorem rj{a b:Nat}(h:Nat.beq a b=true):a=b:=zt h
theorem Yi{s s' : ByteArray}(h:s.data.toList=s'.data.toList):s=s' := by
 cases s;cases s'
 simp only at h
 congr 1
 exact Array.ext' h
mutual
theorem xM:∀ v v' : Value,i6 v v' = true->v=v'
 | .pointer (some ⟨b,o,none⟩),v', h=>by
  cases v' <;> try (simp[i6]at h;done)
  rename_i p
  cases p with
  | none=>simp[i6]at h
  | some a =>
   obtain⟨b', o', sp⟩:=a
   cases sp with
   | some _=>simp[i6]at h
   | none=>simp only[i6,zo]at h;rw[rj h.1,rj h.2]
 | .pointer (some ⟨b,o,some _⟩),v', h=>by simp[i6]at h
 | .slice (some ⟨b,o,none⟩) m c,v', h=>by
  cases v' <;> try (simp[i6]at h;done)
  rename_i p m' c'
  cases p with
  | none=>simp[i6]at h
  | some a =>
   obtain⟨b', o', sp⟩:=a
   cases sp with
   | some _=>simp[i6]at h
   | none=>simp only[i6,zo]at h;rw[rj h.1.1.1,rj h.1.1.2,rj h.1.2,rj h.2]
 | .slice (some ⟨b,o,some _⟩) m c,v', h=>by simp[i6]at h
 | .map (some r),v', h=>by
  cases v' <;> try (simp[i6]at h;done)
  rename_i p
  cases p with
  | none=>simp[i6]at h
  | some r' => simp only[i6]at h;rw[rj h]
 | .agg cs,v', h=>by
  cases v' <;> try (simp[i6]at h;done)
  simp only[i6]at h;rw[Di _ _ h]
 | .tuple cs,v', h=>by
  cases v' <;> try (simp[i6]at h;done)
  simp only[i6]at h;rw[Di _ _ h]
 | .pointer none,v', h=>by
  cases v' <;> try (simp[i6]at h;done)
  rename_i p
  cases p with
  | none=>rfl
  | some a=>simp[i6]at h
 | .slice none m c,v', h=>by
  cases v' <;> try (simp[i6]at h;done)
  rename_i p m' c'
  cases p with
  | none=>simp only[i6,zo]at h;rw[rj h.1,rj h.2]
  | some a=>simp[i6]at h
 | .map none,v', h=>by
  cases v' <;> try (simp[i6]at h;done)
  rename_i p
  cases p with
  | none=>rfl
  | some a=>simp[i6]at h
 | .bool b,v', h=>by
  cases v' <;> try (simp[i6]at h;done)
  simp only[i6]at h
  simpa using h
 | .int k x,v', h=>by
  cases v' <;> try (simp[i6]at h;done)
  simp only[i6,zo,decide_eq_true_eq]at h
  rw[h.1,h.2]
 | .string s,v', h=>by
  cases v' <;> try (simp[i6]at h;done)
  simp only[i6,decide_eq_true_eq]at h
  rw[Yi h]
 | .nilFunc,v', h=>by cases v' <;> first|rfl|(simp[i6]at h;done)
 | .nilIface,v', h=>by cases v' <;> first|rfl|(simp[i6]at h;done)
 | .chan _,v', h=>by simp[i6]at h
 | .func fn fi ca,v', h=>by
  cases v' <;> try (simp[i6]at h;done)
  rename_i fn' fi' ca'
  cases fn<;>try (simp[i6]at h;done)
  cases fn' <;> try (simp[i6]at h;done)
  simp only[i6,zo]at h
  rw[rj h.1.1,Di _ _ h.1.2,Di _ _ h.2]
 | .iface t v,v', h=>by
  cases v' <;> try (simp[i6]at h;done)
  simp only[i6,zo]at h
  rw[rj h.1,xM _ _ h.2]
 | .float ..,v', h=>by simp[i6]at h
 | .complex ..,v', h=>by simp[i6]at h
theorem Di:∀ a a' : Array Value,zB a a' = true->a=a'
 | ⟨l⟩,⟨l'⟩,h=>by simp only[zB]at h;rw[Dk l l' h]
theorem Dk:∀ l l' : List Value,tH l l' = true->l=l'
 | [],[],_=>rfl
 | [],_ :: _,h=>by simp[tH]at h
 | _ :: _,[],h=>by simp[tH]at h
 | v :: l,v' :: l', h=>by simp only[tH,zo]at h;rw[xM v v' h.1,Dk l l' h.2]
end
section
variable {P:Program} {A A' : AH} {r:XR} {ρ:jb} {ty:TypeId} {op:Op} {v:Value}
theorem yU{α:Type}{c:Bool}{x:Option α}{y:α}(h:(bif c then x else none)=some y):c=true/\x=some y:=by
 cases c with
 | false=>cases h
 | true=>exact⟨rfl,h⟩
theorem abb{α:Type}{c:Bool}{x:Option α}{y:α}(h:(bif c then none else x)=some y):c=false/\x=some y:=by
 cases c with
 | true=>cases h
 | false=>exact⟨rfl,h⟩
theorem Sm{s d:TypeId}{x:Value}(h:Eg P s d x A=some (r,A')):A' = A:=by
 unfold Eg at h
 split at h
 . cases h;rfl
 . cases h;rfl
 . split at h
   . cases h;rfl
   . split at h
     . obtain⟨q,_,e⟩:=map_some h;cases e;rfl
     . cases h
   . cases h
 . cases h
theorem Rp{b:Builtin}{vs:List Value}{T:List TypeId}(hb:b = .len\/b = .cap\/b = .min\/b = .max)(h:ng P b vs T A=some (r,A')):A' = A:=by
 rcases hb with rfl|rfl|rfl|rfl
 . simp only[ng,D0]at h
   repeat' split at h
   all_goals first
    | (cases h;done)
    | (cases h;rfl)
 . simp[ng]at h
 . simp only[ng,DQ]at h
   repeat' split at h
   all_goals first
    | (cases h;done)
    | (obtain⟨q,_,e⟩:=map_some h;cases e;rfl)
 . simp only[ng,DN]at h
   repeat' split at h
   all_goals first
    | (cases h;done)
    | (obtain⟨q,_,e⟩:=map_some h;cases e;rfl)
theorem SA(hk:kindOf op = .pure\/kindOf op = .read)(h:jh P ty op ρ A=some (r,A')):A' = A:=by
 cases op with
 | call c =>
  obtain⟨ce,az,T⟩:=c
  cases ce with
  | builtin b =>
   simp only[jh,AV,Is]at h
   split at h
   . exact Rp (by cases b<;>simp[kindOf]at hk<;>simp) h
   . cases h
  | value f=>simp[kindOf]at hk
  | invoke x name=>simp[kindOf]at hk
 | convert s d x =>
  simp only[jh,Gk]at h
  split at h
  . exact Sm h
  . cases h
 | _=>first
  | (simp[kindOf]at hk;done)
  | (
   simp only[jh,NH,LO,HF,GP,FR,Hl,HR,FE,FX,GU,FI,GN,FQ,G2,F8,Ht,Gu]at h
   repeat' split at h
   all_goals first
    | (cases h;done)
    | (cases h;rfl)
    | (obtain⟨q,_,e⟩:=map_some h;cases e;rfl)
    | (have h:=(yU h).2;cases h;rfl)
    | (have h:=(yU h).2;obtain⟨q,_,e⟩:=map_some h;cases e;rfl))
theorem U0{N:Nat}{B:AH}(hk:kindOf op = .fl)(h:jh P ty op ρ ⟨.e,N⟩=some (.val v,B)):∃ ob:AO,B=(⟨.e,N⟩:AH).add ob/\ob.Wf 0/\ob.ro=false/\kI 0 [N] v=true/\nm v<=N+1:=by
 have hN:Nat.beq N N=true:=by simp
 cases op with
 | alloc t =>
  simp only[jh,Mg]at h
  obtain⟨z,hz,e⟩:=map_some h
  cases e
  obtain⟨i,_,_,h0,_⟩:=qo hz
  exact⟨_,rfl,by simp only[AO.Wf];have:=xy h0;omega,rfl,by simp[ptr,kI,hN],by simp[ptr,nm]⟩
 | makeSlice t l c =>
  simp only[jh,FL]at h
  split at h
  . split at h
    . rename_i z _ _ _ _ hz
      obtain⟨_,h⟩:=yU h
      cases h
      obtain⟨i,_,_,h0,_⟩:=qo hz
      refine⟨_,rfl,?_,rfl,by simp[kI,hN],by simp[nm]⟩
      simp only[AO.Wf]
      have:=Gn (xy h0)
      rw[this]
      exact zn _
    . cases h
  . cases h
 | makeMap t r =>
  simp only[jh,Gi]at h
  split at h
  . cases h
    exact⟨_,rfl,fun e he=>by simp at he,rfl,by simp[kI,hN],by simp[nm]⟩
  . cases h
 | call c =>
  obtain⟨ce,az,T⟩:=c
  cases ce with
  | builtin b=>cases b<;>simp[kindOf]at hk
  | value f=>simp[kindOf]at hk
  | invoke x name=>simp[kindOf]at hk
 | _=>simp[kindOf]at hk
end
end Go.Ex
namespace Go.Ex
open Go Go.Sx
abbrev Pl.k(p:Pl):Rb:=kindOf p.o.op
def yE(ops:List Oper)(masks:List Nat)(p:Pl):Prop:=ops[p.i]? = some p.o/\masks[p.i]? = some p.m
theorem KT(ops0:List Oper)(masks0:List Nat)(want:Nat):∀ (ops:List Oper) (masks:List Nat) (j:Nat),(∀ k,ops[k]? = ops0[j+k]?)->(∀ k,masks[k]? = masks0[j+k]?)->∀ p∈pick want ops masks j,yE ops0 masks0 p:=by
 intro ops
 induction ops with
 | nil=>intro masks j _ _ p hp;cases masks<;>simp[pick]at hp
 | cons o l ih =>
  intro masks j h1 h2 p hp
  cases masks with
  | nil=>simp[pick]at hp
  | cons m ms =>
   have i1:∀ k,l[k]? = ops0[j+1+k]? := fun k=>by have:=h1 (k+1);rw[show j+1+k=j+(k+1) by omega,<-this];simp
   have i2:∀ k,ms[k]? = masks0[j+1+k]? := fun k=>by have:=h2 (k+1);rw[show j+1+k=j+(k+1) by omega,<-this];simp
   simp only[pick]at hp
   cases hb:Nat.testBit want j with
   | false=>rw[hb]at hp;exact ih ms (j+1) i1 i2 p hp
   | true =>
    rw[hb]at hp
    simp only[cond_true,zb]at hp
    rcases hp with rfl|hp
    . exact⟨(h1 0).symm.trans rfl,(h2 0).symm.trans rfl⟩
    . exact ih ms (j+1) i1 i2 p hp
theorem RJ(ops0:List Oper)(masks0:List Nat):∀ (ops:List Oper) (masks:List Nat) (j:Nat),(∀ k,ops[k]? = ops0[j+k]?)->(∀ k,masks[k]? = masks0[j+k]?)->∀ p∈qW ops masks j,yE ops0 masks0 p:=by
 intro ops
 induction ops with
 | nil=>intro masks j _ _ p hp;cases masks<;>simp[qW]at hp
 | cons o l ih =>
  intro masks j h1 h2 p hp
  cases masks with
  | nil=>simp[qW]at hp
  | cons m ms =>
   have i1:∀ k,l[k]? = ops0[j+1+k]? := fun k=>by have:=h1 (k+1);rw[show j+1+k=j+(k+1) by omega,<-this];simp
   have i2:∀ k,ms[k]? = masks0[j+1+k]? := fun k=>by have:=h2 (k+1);rw[show j+1+k=j+(k+1) by omega,<-this];simp
   simp only[qW]at hp
   split at hp
   . simp only[zb]at hp
     rcases hp with rfl|hp
     . exact⟨(h1 0).symm.trans rfl,(h2 0).symm.trans rfl⟩
     . exact ih ms (j+1) i1 i2 p hp
   . exact ih ms (j+1) i1 i2 p hp
theorem S0{ops:List Oper}{masks:List Nat}:∀ (cs:List Pl) (placed:Nat),(∀ p∈cs,yE ops masks p)->∀ p∈plan ops masks cs placed,yE ops masks p:=by
 intro cs
 induction cs with
 | nil=>intro placed _ p hp;exact KT ops masks _ ops masks 0 s_ s_ p hp
 | cons c cs ih =>
  intro placed h p hp
  simp only[plan,zq,zb]at hp
  rcases hp with hp|rfl|hp
  . exact KT ops masks _ ops masks 0 s_ s_ p hp
  . exact h p (zg ..)
  . exact ih _ (fun q hq=>h q (lu _ hq)) p hp
theorem RS{f:Nat}:∀ (l:List Pl) (u:Nat) (p:Pl),Bd f l=true->l[u]? = some p->p.k = .ch->(∀ (x:Nat) (q:Pl),x<u->l[x]? = some q->q.k ≠ .ch)->Nat.testBit p.m f=true:=by
 intro l
 induction l with
 | nil=>intro u p _ h;simp at h
 | cons q l ih =>
  intro u p h hu hk hn
  simp only[Bd]at h
  cases u with
  | zero =>
   simp at hu
   subst hu
   split at h
   . exact h
   . rename_i hx;exact absurd hk hx
  | succ u =>
   split at h
   . rename_i hx;exact absurd hx (hn 0 q o_ rfl)
   . exact ih u p h (by simpa using hu) hk fun x r hx hr=>hn (x+1) r o_ (by simpa using hr)
theorem Th{all:Nat}:∀ (l:List Pl) (pl cb:Nat),wE all l pl cb=true ->
 (∀ (t:Nat) (p:Pl),l[t]? = some p->Nat.testBit pl p.i=false/\(∀ k,Nat.testBit p.m k=true->Nat.testBit pl k=true\/∃ (t' : Nat) (p' : Pl),t' < t/\l[t']? = some p' /\ p'.i=k)/\(∀ (t' : Nat) (p' : Pl),t' < t->l[t']? = some p' -> p'.i≠p.i) /\
  (p.k = .ch->(∀ k,Nat.testBit cb k=true->Nat.testBit p.m k=true)/\∀ (t' : Nat) (p' : Pl),t' < t->l[t']? = some p' -> p'.k = .ch->Nat.testBit p.m p'.i=true) /\
  (p.k = .fl->∀ (u:Nat) (q:Pl),t<u->l[u]? = some q->q.k = .ch->(∀ (x:Nat) (r:Pl),t<x->x<u->l[x]? = some r->r.k ≠ .ch)->Nat.testBit q.m p.i=true)) /\
 (∀ k,Nat.testBit all k=true->Nat.testBit pl k=true\/∃ (t:Nat) (p:Pl),l[t]? = some p/\p.i=k):=by
 intro l
 induction l with
 | nil =>
  intro pl cb h
  have:=zt h
  subst this
  exact⟨fun t p hp=>by simp at hp,fun k hk=>.inl hk⟩
 | cons q l ih =>
  intro pl cb h
  simp only[wE,zo]at h
  obtain⟨⟨h1,h2⟩,h3⟩:=h
  have h1:Nat.testBit pl q.i=false:=by simpa using h1
  have key:∀ cb', wE all l (pl ||| 2 ^ q.i) cb' = true->(q.k = .ch->cb' = cb ||| 2 ^ q.i)->(q.k ≠ .ch->cb' = cb)->(q.k = .ch->sub cb q.m=true)->(q.k = .fl->Bd q.i l=true) ->
   (∀ (t:Nat) (p:Pl),(q :: l)[t]? = some p->Nat.testBit pl p.i=false/\(∀ k,Nat.testBit p.m k=true->Nat.testBit pl k=true\/∃ (t' : Nat) (p' : Pl),t' < t/\(q :: l)[t']? = some p' /\ p'.i=k)/\(∀ (t' : Nat) (p' : Pl),t' < t->(q :: l)[t']? = some p' -> p'.i≠p.i) /\
    (p.k = .ch->(∀ k,Nat.testBit cb k=true->Nat.testBit p.m k=true)/\∀ (t' : Nat) (p' : Pl),t' < t->(q :: l)[t']? = some p' -> p'.k = .ch->Nat.testBit p.m p'.i=true) /\
    (p.k = .fl->∀ (u:Nat) (q' : Pl),t<u->(q :: l)[u]? = some q' -> q'.k = .ch->(∀ (x:Nat) (r:Pl),t<x->x<u->(q :: l)[x]? = some r->r.k ≠ .ch)->Nat.testBit q'.m p.i=true)) /\
   (∀ k,Nat.testBit all k=true->Nat.testBit pl k=true\/∃ (t:Nat) (p:Pl),(q :: l)[t]? = some p/\p.i=k):=by
   intro cb' h4 hc1 hc2 hs hf
   obtain⟨IH1,IH2⟩:=ih _ _ h4
   refine⟨fun t p hp=>?_,fun k hk=>?_⟩
   . cases t with
     | zero =>
      simp at hp
      subst hp
      refine⟨h1,fun k hk=>.inl (HP h2 hk),fun t' p' ht=>by omega,fun hk=>⟨fun k hk' => HP (hs hk) hk', fun t' p' ht=>by omega⟩,fun hk u q' hu hq' hk' hn=>?_⟩
      cases u with
      | zero=>omega
      | succ u=>exact RS l u q' (hf hk) (by simpa using hq') hk' fun x r hx hr=>hn (x+1) r o_ o_ (by simpa using hr)
     | succ t =>
      obtain⟨g1,g2,g3,g4,g5⟩:=IH1 t p (by simpa using hp)
      have g1' : Nat.testBit pl p.i=false/\q.i≠p.i:=by
       have hn:¬ (Nat.testBit pl p.i=true\/Nat.testBit (2 ^ q.i) p.i=true):=by
        rw[<-nX,g1];simp
       refine⟨?_,fun e=>hn (.inr (s8.2 e))⟩
       cases hb:Nat.testBit pl p.i with
       | false=>rfl
       | true=>exact absurd (.inl hb) hn
      refine⟨g1'.1,fun k hk=>?_,fun t' p' ht hp' => ?_,fun hk=>⟨fun k hk' => ?_,fun t' p' ht hp' hk' => ?_⟩,fun hk u q' hu hq' hk' hn=>?_⟩
      . rcases g2 k hk with h5|⟨t', p', ht,hp', e⟩
        . rw[nX,s8]at h5
          rcases h5 with h5|h5
          . exact .inl h5
          . exact .inr ⟨0,q,o_,rfl,h5⟩
        . exact .inr ⟨t' + 1,p', o_,by simpa using hp', e⟩
      . cases t' with
        | zero=>simp at hp'; subst hp'; exact g1'.2
        | succ t' => exact g3 t' p' o_ (by simpa using hp')
      . refine(g4 hk).1 k ?_
        by_cases hq:q.k = .ch
        . rw[hc1 hq,nX];exact .inl hk'
        . rw[hc2 hq];exact hk'
      . cases t' with
        | zero =>
         simp at hp'
         subst hp'
         refine(g4 hk).1 q.i ?_
         rw[hc1 hk', nX,s8]
         exact .inr rfl
        | succ t' => exact(g4 hk).2 t' p' o_ (by simpa using hp') hk'
      . cases u with
        | zero=>omega
        | succ u=>exact g5 hk u q' o_ (by simpa using hq') hk' fun x r hx hx' hr=>hn (x+1) r o_ o_ (by simpa using hr)
   . rcases IH2 k hk with h5|⟨t,p,hp,e⟩
     . rw[nX,s8]at h5
       rcases h5 with h5|h5
       . exact .inl h5
       . exact .inr ⟨0,q,rfl,h5⟩
     . exact .inr ⟨t+1,p,by simpa using hp,e⟩
  split at h3
  . rename_i hk
    rw[zo]at h3
    exact key _ h3.2 (fun _=>rfl) (fun h=>absurd hk h) (fun _=>h3.1) (fun h=>by rw[show q.k = .ch from hk]at h;cases h)
  . rename_i hk
    rw[zo]at h3
    exact key _ h3.2 (fun h=>by rw[show q.k = .fl from hk]at h;cases h) (fun _=>rfl) (fun h=>by rw[show q.k = .fl from hk]at h;cases h) (fun _=>h3.1)
  . rename_i hk1 hk2
    exact key _ h3 (fun h=>absurd h hk1) (fun _=>rfl) (fun h=>absurd h hk1) (fun h=>absurd h hk2)
section
variable {P:Program} {rec:Rec} {ops:List Oper} {n:Nat}
def mh(rs:List Rc)(z:ja)(t:Nat):ja := match rs[t]? with
 | some r=>r.σ
 | none=>z
def iI(rs:List Rc)(z:AH)(t:Nat):AH:=match rs[t]? with
 | some r=>r.A
 | none=>z
def i7(rs:List Rc)(z:AH)(t:Nat):AH:=match rs[t]? with
 | some r=>r.B
 | none=>z
structure I2 (P:Program) (rec:Rec) (ops:List Oper) (n:Nat) (r:Rc) (σ1:ja) (A1 B1:AH):Prop where
 σ:σ1=oO r.σ r.p.o.dst r.v
 EJ:nm r.v<=A1.nf
 nf:r.A.nf<=A1.nf
 B:B1=wg r.p.o A1 r.B
 tk:r.tk=sg ops n r.σ r.p.o.guard
 off:r.tk=false->r.v=undef/\A1=r.A
 on:r.tk=true->uT P rec r.p.o n r.σ r.A r.B=some (r.v,A1)
theorem Vp:∀ (l:List Pl) (σ:ja) (A B:AH) (rs:List Rc) (σ' : ja) (A' B' : AH),EW P rec ops n l σ A B=some (rs,σ', A', B') ->
 rs.map (·.p)=l/\mh rs σ' 0=σ/\iI rs A' 0=A/\i7 rs B' 0=B/\∀ (t:Nat) (r:Rc),rs[t]? = some r->I2 P rec ops n r (mh rs σ' (t+1)) (iI rs A' (t+1)) (i7 rs B' (t+1)):=by
 intro l
 induction l with
 | nil =>
  intro σ A B rs σ' A' B' h
  cases h
  exact⟨rfl,rfl,rfl,rfl,fun t r hr=>by simp at hr⟩
 | cons p l ih =>
  intro σ A B rs σ' A' B' h
  simp only[EW]at h
  split at h
  . rename_i v A1 tk hx
    obtain⟨hb,h⟩:=yU h
    split at h
    . rename_i rs1 z hz
      cases h
      obtain⟨h1,h2,h3,h4,h5⟩:=ih _ _ _ _ _ _ _ hz
      rw[zo]at hb
      have hst:I2 P rec ops n ⟨p,σ,A,B,v,tk⟩ (mh rs1 σ' 0) (iI rs1 A' 0) (i7 rs1 B' 0):=by
       rw[h2,h3,h4]
       refine⟨rfl,za hb.1,za hb.2,rfl,?_,?_,?_⟩
       . simp only
         cases ht:sg ops n σ p.o.guard with
         | true =>
          rw[ht]at hx
          simp only[cond_true]at hx
          obtain⟨y,_,e⟩:=map_some hx
          cases e;rfl
         | false=>rw[ht]at hx;cases hx;rfl
       . intro ht
         simp only at ht
         subst ht
         cases ht:sg ops n σ p.o.guard with
         | true =>
          rw[ht]at hx
          simp only[cond_true]at hx
          obtain⟨y,_,e⟩:=map_some hx
          cases e
         | false=>rw[ht]at hx;cases hx;exact⟨rfl,rfl⟩
       . intro ht
         simp only at ht
         subst ht
         cases ht:sg ops n σ p.o.guard with
         | true =>
          rw[ht]at hx
          simp only[cond_true]at hx
          obtain⟨y,hy,e⟩:=map_some hx
          cases e;exact hy
         | false=>rw[ht]at hx;cases hx
      refine⟨by simp[h1],rfl,rfl,rfl,fun t r hr=>?_⟩
      cases t with
      | zero=>simp at hr;subst hr;exact hst
      | succ t=>exact h5 t r (by simpa using hr)
    . cases h
  . cases h
def BX(rs:List Rc)(u:Nat):Prop:=u=rs.length\/∃ r,rs[u]? = some r/\r.p.k = .ch
theorem Ul{Bf:AH}:∀ (rs:List Rc) (cb u:Nat),BX rs u->∃ cb', (cb', i7 rs Bf u)∈uS rs cb Bf/\∀ k,Nat.testBit cb' k=true↔Nat.testBit cb k=true\/∃ (t:Nat) (r:Rc),t<u/\rs[t]? = some r/\r.p.k = .ch/\r.p.i=k:=by
 intro rs
 induction rs with
 | nil =>
  intro cb u hu
  rcases hu with rfl|⟨r,hr,_⟩
  . exact⟨cb,by simp[uS,i7],fun k=>⟨.inl,fun h=>by rcases h with h|⟨t,r,ht,_⟩;exact h;simp at ht⟩⟩
  . simp at hr
 | cons q rs ih =>
  intro cb u hu
  cases u with
  | zero =>
   rcases hu with h|⟨r,hr,hk⟩
   . simp at h
   . simp at hr
     subst hr
     refine⟨cb,?_,fun k=>⟨.inl,fun h=>by rcases h with h|⟨t,r,ht,_⟩;exact h;omega⟩⟩
     simp only[uS]
     rw[show kindOf q.p.o.op = .ch from hk]
     simp[i7]
  | succ u =>
   have hu' : BX rs u:=by
    rcases hu with h|⟨r,hr,hk⟩
    . exact .inl (by simpa using h)
    . exact .inr ⟨r,by simpa using hr,hk⟩
   by_cases hq:q.p.k = .ch
   . obtain⟨cb', h1,h2⟩:=ih (cb ||| 2 ^ q.p.i) u hu'
     refine⟨cb', ?_,fun k=>?_⟩
     . simp only[uS]
       rw[show kindOf q.p.o.op = .ch from hq]
       exact lu _ h1
     . rw[h2,nX,s8]
       constructor
       . rintro((h|h)|⟨t,r,ht,hr,h⟩)
         . exact .inl h
         . exact .inr ⟨0,q,o_,rfl,hq,h⟩
         . exact .inr ⟨t+1,r,o_,by simpa using hr,h⟩
       . rintro(h|⟨t,r,ht,hr,hk,h⟩)
         . exact .inl (.inl h)
         . cases t with
           | zero=>simp at hr;subst hr;exact .inl (.inr h)
           | succ t=>exact .inr ⟨t,r,o_,by simpa using hr,hk,h⟩
   . obtain⟨cb', h1,h2⟩:=ih cb u hu'
     refine⟨cb', ?_,fun k=>?_⟩
     . simp only[uS]
       exact h1
     . rw[h2]
       constructor
       . rintro(h|⟨t,r,ht,hr,h⟩)
         . exact .inl h
         . exact .inr ⟨t+1,r,o_,by simpa using hr,h⟩
       . rintro(h|⟨t,r,ht,hr,hk,h⟩)
         . exact .inl h
         . cases t with
           | zero=>simp at hr;subst hr;exact absurd hk hq
           | succ t=>exact .inr ⟨t,r,o_,by simpa using hr,hk,h⟩
theorem R8{k j:Nat}:∀ (l:List Pl),Nat.testBit (waiters k l) j=true↔∃ p∈l,p.k = .ch/\Nat.testBit p.m k=true/\p.i=j:=by
 intro l
 induction l with
 | nil=>simp[waiters]
 | cons r l ih =>
  simp only[waiters]
  split
  . rename_i hk
    cases hb:Nat.testBit r.m k with
    | true =>
     simp only[cond_true,nX,s8,ih,zb]
     constructor
     . rintro(h|⟨q,hq,h⟩)
       . exact⟨r,.inl rfl,hk,hb,h⟩
       . exact⟨q,.inr hq,h⟩
     . rintro⟨q,rfl|hq,h⟩
       . exact .inl h.2.2
       . exact .inr ⟨q,hq,h⟩
    | false =>
     simp only[cond_false,ih,zb]
     constructor
     . rintro⟨q,hq,h⟩;exact⟨q,.inr hq,h⟩
     . rintro⟨q,rfl|hq,h⟩
       . rw[hb]at h;simp at h
       . exact⟨q,hq,h⟩
  . rename_i hk
    rw[ih]
    simp only[zb]
    constructor
    . rintro⟨q,hq,h⟩;exact⟨q,.inr hq,h⟩
    . rintro⟨q,rfl|hq,h⟩
      . exact absurd h.1 hk
      . exact⟨q,hq,h⟩
theorem T5{j:Nat}:∀ (l:List Pl),Nat.testBit (q5 l) j=true↔∃ p∈l,p.k = .ch/\p.i=j:=by
 intro l
 induction l with
 | nil=>simp[q5]
 | cons r l ih =>
  simp only[q5]
  split
  . rename_i hk
    simp only[nX,s8,ih,zb]
    constructor
    . rintro(h|⟨q,hq,h⟩)
      . exact⟨r,.inl rfl,hk,h⟩
      . exact⟨q,.inr hq,h⟩
    . rintro⟨q,rfl|hq,h⟩
      . exact .inl h.2
      . exact .inr ⟨q,hq,h⟩
  . rename_i hk
    rw[ih]
    simp only[zb]
    constructor
    . rintro⟨q,hq,h⟩;exact⟨q,.inr hq,h⟩
    . rintro⟨q,rfl|hq,h⟩
      . exact absurd h.1 hk
      . exact⟨q,hq,h⟩
theorem RD:∀ (l:List Pl),Ds l=true->∀ p∈l,p.k ≠ .ch/\p.k ≠ .fl:=by
 intro l
 induction l with
 | nil=>intro _ p hp;cases hp
 | cons r l ih =>
  intro h p hp
  simp only[Ds]at h
  split at h
  . cases h
  . cases h
  . rename_i h1 h2
    rcases zb.1 hp with rfl|hp
    . exact⟨h1,h2⟩
    . exact ih h p hp
theorem Sj{m b:Nat}:∀ (rs:List Rc),b∈qV m rs->∃ r∈rs,r.p.k = .fl/\r.tk=true/\Nat.testBit m r.p.i=true/\r.A.nf=b:=by
 intro rs
 induction rs with
 | nil=>simp[qV]
 | cons r rs ih =>
  intro h
  simp only[qV]at h
  have up:(∃ q∈rs,q.p.k = .fl/\q.tk=true/\Nat.testBit m q.p.i=true/\q.A.nf=b)->∃ q∈r :: rs,q.p.k = .fl/\q.tk=true/\Nat.testBit m q.p.i=true/\q.A.nf=b:=fun⟨q,hq,h⟩=>⟨q,lu _ hq,h⟩
  split at h
  . rename_i hk
    cases hb:(r.tk&&Nat.testBit m r.p.i)with
    | false=>rw[hb]at h;exact up (ih h)
    | true =>
     rw[hb]at h
     simp only[cond_true,zb]at h
     rw[zo]at hb
     rcases h with h|h
     . exact⟨r,zg ..,hk,hb.1,hb.2,h.symm⟩
     . exact up (ih h)
  . exact up (ih h)
theorem LI{rd:Bool}{r:Rc}{fs:List Nat}{mk wk:Nat}:∀ (hs:List (Nat×AH)),wG P rd n r fs mk wk hs=true->∀ cb H,(cb,H)∈hs->sub mk cb=true->wk &&& cb=0 ->
 kI H.nf fs r.v=true/\(rd=true->r.tk=true->∃ v,xq P r.p.o n r.σ H.h=some v/\v=r.v):=by
 intro hs
 induction hs with
 | nil=>intro _ cb H h;cases h
 | cons x hs ih =>
  obtain⟨cb0,H0⟩:=x
  intro h cb H hm h1 h2
  simp only[wG,zo]at h
  rcases zb.1 hm with e|hm
  . cases e
    have h3:=h.1
    have hb:(sub mk cb0&&Nat.beq (wk &&& cb0) 0)=true:=by rw[h1,h2];rfl
    rw[hb]at h3
    simp only[cond_true,zo]at h3
    refine⟨h3.1,fun hr ht=>?_⟩
    have h4:=h3.2
    rw[hr,ht]at h4
    simp only[Bool.and_self,cond_true]at h4
    split at h4
    . rename_i v hv;exact⟨v,hv,xM _ _ h4⟩
    . cases h4
  . exact ih h.2 cb H hm h1 h2
theorem Sa{hs:List (Nat×AH)}{pln:List Pl}{all:List Rc}:∀ (rs:List Rc),DJ P n hs pln all rs=true->∀ r∈rs,(r.p.k = .pure->wG P false n r (qV r.p.m all) (r.p.m &&& q5 pln) (waiters r.p.i pln) hs=true) /\
 (r.p.k = .read->wG P true n r (qV r.p.m all) (r.p.m &&& q5 pln) (waiters r.p.i pln) hs=true):=by
 intro rs
 induction rs with
 | nil=>intro _ r hr;cases hr
 | cons q rs ih =>
  intro h r hr
  simp only[DJ,zo]at h
  rcases zb.1 hr with rfl|hr
  . have h1:=h.1
    exact⟨fun hk=>by rw[show kindOf r.p.o.op = .pure from hk]at h1;exact h1,fun hk=>by rw[show kindOf r.p.o.op = .read from hk]at h1;exact h1⟩
  . exact ih h.2 r hr
end
end Go.Ex
namespace Go.Ex
open Go Go.Sx
structure Dr (P:Program) (rec:Rec) (ops:List Oper) (n:Nat) (masks:List Nat) (rs:List Rc) (σ' : ja) (A' B' : AH):Prop where
 Ep:Bz ops (mI masks)
 len:rs.length=ops.length
 jX:∀ (t:Nat) (r:Rc),rs[t]? = some r->yE ops masks r.p
 Jv:∀ (t:Nat) (r:Rc) (k:Nat),rs[t]? = some r->Nat.testBit r.p.m k=true->∃ (t' : Nat) (r' : Rc),t' < t/\rs[t']? = some r' /\ r'.p.i=k
 inj:∀ (t t' : Nat) (r r' : Rc),rs[t]? = some r->rs[t']? = some r' -> r.p.i=r'.p.i->t=t'
 all:∀ i,i<ops.length->∃ (t:Nat) (r:Rc),rs[t]? = some r/\r.p.i=i
 IE:∀ (t t' : Nat) (r r' : Rc),rs[t]? = some r->rs[t']? = some r' -> t' < t->r.p.k = .ch->r'.p.k = .ch->Nat.testBit r.p.m r'.p.i=true
 Q5:∀ (t u:Nat) (r r' : Rc),rs[t]? = some r->rs[u]? = some r' -> t<u->r.p.k = .fl->r'.p.k = .ch->(∀ (x:Nat) (q:Rc),t<x->x<u->rs[x]? = some q->q.p.k ≠ .ch)->Nat.testBit r'.p.m r.p.i=true
 step:∀ (t:Nat) (r:Rc),rs[t]? = some r->I2 P rec ops n r (mh rs σ' (t+1)) (iI rs A' (t+1)) (i7 rs B' (t+1))
 same:iI rs A' 0=i7 rs B' 0
 big:A'.nf<=pY
 gH:∀ (t:Nat) (r:Rc) (u:Nat),rs[t]? = some r->BX rs u->(r.p.k = .pure\/r.p.k = .read)->(∀ (j:Nat) (q:Rc),rs[j]? = some q->q.p.k = .ch->Nat.testBit r.p.m q.p.i=true->j<u) ->
  (∀ (j:Nat) (q:Rc),rs[j]? = some q->q.p.k = .ch->Nat.testBit q.p.m r.p.i=true->u<=j) ->
  kI (i7 rs B' u).nf (qV r.p.m rs) r.v=true/\(r.p.k = .read->r.tk=true->xq P r.p.o n r.σ (i7 rs B' u).h=some r.v)
mutual
theorem Iq(k:Nat)(fs:List Nat):∀ v:Value,nm v<=k->kI k fs v=true
 | .pointer (some a),hn=>by simp only[nm]at hn;simp only[kI,sR];exact .inl (r6 o_)
 | .slice (some a) _ _,hn=>by simp only[nm]at hn;simp only[kI,sR];exact .inl (r6 o_)
 | .map (some r),hn=>by simp only[nm]at hn;simp only[kI,sR];exact .inl (r6 o_)
 | .chan (some r),hn=>by simp only[nm]at hn;simp only[kI,sR];exact .inl (r6 o_)
 | .func fn fi ca,hn=>by
  simp only[nm,nv]at hn
  simp only[kI,zo]
  refine⟨⟨?_,Dm k fs fi hn.2.1⟩,Dm k fs ca hn.2.2⟩
  cases fn<;>try rfl
  rename_i l
  simp only[sR]
  exact .inl (r6 (by have:=hn.1;simp at this;omega))
 | .iface t v,hn=>by simp only[nm]at hn;simp only[kI];exact Iq k fs v hn
 | .agg cs,hn=>by simp only[nm]at hn;simp only[kI];exact Dm k fs cs hn
 | .tuple cs,hn=>by simp only[nm]at hn;simp only[kI];exact Dm k fs cs hn
 | .pointer none,_=>rfl
 | .slice none _ _,_=>rfl
 | .map none,_=>rfl
 | .chan none,_=>rfl
 | .bool _,_=>rfl
 | .int _ _,_=>rfl
 | .float _ _,_=>rfl
 | .complex _ _ _,_=>rfl
 | .string _,_=>rfl
 | .nilFunc,_=>rfl
 | .nilIface,_=>rfl
theorem Dm(k:Nat)(fs:List Nat):∀ a:Array Value,jA a<=k->uO k fs a=true
 | ⟨l⟩,hn=>by simp only[jA]at hn;simp only[uO];exact M6 k fs l hn
theorem M6(k:Nat)(fs:List Nat):∀ l:List Value,gT l<=k->yZ k fs l=true
 | [],_=>rfl
 | v :: l,hn=>by simp only[gT,nv]at hn;simp only[yZ,zo];exact⟨Iq k fs v hn.1,M6 k fs l hn.2⟩
end
theorem WA{P:Program}{rec:Rec}{q:Bool}{ops:List Oper}{n:Nat}{σ σ' : ja}{A A' : AH}(h:yO P rec q ops n σ A=some (σ', A')) :
 ∃ masks rs B', Dr P rec ops n masks rs σ' A' B' /\ mh rs σ' 0=σ/\iI rs A' 0=A:=by
 unfold yO at h
 split at h
 . rename_i masks hsc
   obtain⟨hpl,h⟩:=yU h
   split at h
   . rename_i rs σ1 A1 B1 hx
     obtain⟨hc,h⟩:=yU h
     cases h
     rw[zo]at hc
     obtain⟨hR,hlm⟩:=Tf hsc
     obtain⟨h1,h2,h3,h4,h5⟩:=Vp _ _ _ _ _ _ _ _ hx
     obtain⟨p1,p2⟩:=Th _ _ _ hpl
     have hright:=S0 (ops:=ops) (masks:=masks) (qW ops masks 0) 0 (RJ ops masks ops masks 0 s_ s_)
     rw[<-h1]at p1 p2 hright hc
     have get:∀ (t:Nat) (r:Rc),rs[t]? = some r->(rs.map (·.p))[t]? = some r.p:=fun t r hr=>by rw[kJ,hr];rfl
     have got:∀ (t:Nat) (p:Pl),(rs.map (·.p))[t]? = some p->∃ r,rs[t]? = some r/\r.p=p:=fun t p hp=>by
      rw[kJ]at hp
      cases hr:rs[t]? with
      | none=>rw[hr]at hp;cases hp
      | some r=>rw[hr]at hp;exact⟨r,rfl,by simpa using hp⟩
     have jX:∀ (t:Nat) (r:Rc),rs[t]? = some r->yE ops masks r.p:=fun t r hr=>hright r.p (zh (get t r hr))
     have inj:∀ (t t' : Nat) (r r' : Rc),rs[t]? = some r->rs[t']? = some r' -> r.p.i=r'.p.i->t=t' := by
      intro t t' r r' hr hr' e
      rcases tV t t' with hlt|he|hlt
      . exact absurd e ((p1 t' r'.p (get _ _ hr')).2.2.1 t r.p hlt (get _ _ hr))
      . exact he
      . exact absurd e.symm ((p1 t r.p (get _ _ hr)).2.2.1 t' r'.p hlt (get _ _ hr'))
     have hall:∀ i,i<ops.length->∃ (t:Nat) (r:Rc),rs[t]? = some r/\r.p.i=i:=by
      intro i hi
      have:Nat.testBit (2 ^ ops.length-1) i=true:=by rw[Nat.testBit_two_pow_sub_one];simpa using hi
      rcases p2 i this with h6|⟨t,p,hp,e⟩
      . simp at h6
      . obtain⟨r,hr,rfl⟩:=got t p hp
        exact⟨t,r,hr,e⟩
     have hilt:∀ (t:Nat) (r:Rc),rs[t]? = some r->r.p.i<ops.length:=fun t r hr=>(zd.1 (jX t r hr).1).1
     have hlen:rs.length=ops.length:=by
      have l1:(rs.map (·.p.i)).Nodup:=by
       rw[List.nodup_iff_pairwise_ne,wU]
       intro a b ha hb hab e
       simp only[zr]at ha hb
       simp only[List.getElem_map]at e
       have:=inj a b rs[a] rs[b] (zk ha) (zk hb) e
       omega
      have l2:∀ x∈rs.map (·.p.i),x∈List.range ops.length:=by
       intro x hx
       obtain⟨r,hr,rfl⟩:=jW.1 hx
       obtain⟨t,ht⟩:=zL.1 hr
       exact mC.2 (hilt t r ht)
      have l3:∀ x∈List.range ops.length,x∈rs.map (·.p.i):=by
       intro x hx
       obtain⟨t,r,hr,e⟩:=hall x (mC.1 hx)
       exact jW.2 ⟨r,zh hr,e⟩
      have p:(rs.map (·.p.i)).Perm (List.range ops.length):=(List.perm_ext_iff_of_nodup l1 BW).2 fun x=>⟨l2 x,l3 x⟩
      simpa using p.length_eq
     refine⟨masks,rs,B1,⟨hR,hlen,jX,?_,inj,hall,?_,?_,h5,by rw[h3,h4],za hc.1,?_⟩,h2,h3⟩
     . intro t r k hr hk
       rcases(p1 t r.p (get _ _ hr)).2.1 k hk with h6|⟨t', p', ht,hp', e⟩
       . simp at h6
       . obtain⟨r', hr', rfl⟩:=got t' p' hp'
         exact⟨t', r', ht,hr', e⟩
     . intro t t' r r' hr hr' hlt hk hk'
       exact((p1 t r.p (get _ _ hr)).2.2.2.1 hk).2 t' r'.p hlt (get _ _ hr') hk'
     . intro t u r r' hr hr' hlt hk hk' hn
       refine(p1 t r.p (get _ _ hr)).2.2.2.2 hk u r'.p hlt (get _ _ hr') hk' fun x q hx hx' hq=>?_
       obtain⟨rq,hrq,rfl⟩:=got x q hq
       exact hn x rq hx hx' hrq
     . intro t r u hr hu hk c1 c2
       rcases qI.1 hc.2 with hqt|hc2
       . -- nothing is written and nothing is new
         have hqs:=RD _ hqt
         have kq:∀ (x:Nat) (q:Rc),rs[x]? = some q->q.p.k ≠ .ch/\q.p.k ≠ .fl:=fun x q hq=>hqs q.p (zh (get x q hq))
         have hstay:∀ x,x<=rs.length->iI rs A' x=A/\i7 rs B1 x=A:=by
          intro x
          induction x with
          | zero=>intro _;exact⟨h3,h4⟩
          | succ x ih =>
           intro hx
           obtain⟨q,hq⟩:∃ q,rs[x]? = some q:=⟨_,zk o_⟩
           obtain⟨i1,i2⟩:=ih o_
           have hs:=h5 x q hq
           have e1:q.A=A:=by
            have:iI rs A' x=q.A:=by unfold iI;rw[hq]
            rw[<-this];exact i1
           have e2:q.B=A:=by
            have:i7 rs B1 x=q.B:=by unfold i7;rw[hq]
            rw[<-this];exact i2
           have hA:iI rs A' (x+1)=q.A:=by
            cases ht:q.tk with
            | false=>exact(hs.off ht).2
            | true =>
             have h6:=hs.on ht
             unfold uT at h6
             cases hkk:kindOf q.p.o.op with
             | pure=>rw[hkk]at h6;obtain⟨v,_,e⟩:=map_some h6;simp only[Prod.mk.injEq]at e;exact e.2.symm
             | read=>rw[hkk]at h6;obtain⟨v,_,e⟩:=map_some h6;simp only[Prod.mk.injEq]at e;exact e.2.symm
             | fl=>exact absurd hkk (kq x q hq).2
             | ch=>exact absurd hkk (kq x q hq).1
           refine⟨hA.trans e1,?_⟩
           rw[hs.B]
           unfold wg
           split
           . rename_i hx2;exact absurd hx2 (kq x q hq).1
           . exact e2
         have hul:u<=rs.length:=by
          rcases hu with h6|⟨q,hq,_⟩
          . omega
          . exact rC (zd.1 hq).1
         have htl:t<rs.length:=(zd.1 hr).1
         have hs:=h5 t r hr
         rw[(hstay u hul).2]
         refine⟨Iq _ _ _ (by have:=hs.EJ;rw[(hstay (t+1) o_).1]at this;exact this),fun hk2 ht=>?_⟩
         have h6:=hs.on ht
         unfold uT at h6
         rw[show kindOf r.p.o.op = .read from hk2]at h6
         obtain⟨v,hv,e⟩:=map_some h6
         simp only[Prod.mk.injEq]at e
         have e2:r.B=A:=by
          have:i7 rs B1 t=r.B:=by unfold i7;rw[hr]
          rw[<-this];exact(hstay t o_).2
         rw[e.1,e2]at hv
         exact hv
       obtain⟨cb', m1,m2⟩:=Ul (Bf:=B1) rs 0 u hu
       have m2:∀ k,Nat.testBit cb' k=true↔∃ (t:Nat) (r:Rc),t<u/\rs[t]? = some r/\r.p.k = .ch/\r.p.i=k:=fun k=>by rw[m2];simp
       have s1:sub (r.p.m &&& q5 (rs.map (·.p))) cb' = true:=by
        unfold sub
        rw[Nat.beq_eq]
        apply Nat.eq_of_testBit_eq
        intro j
        cases hj:Nat.testBit (r.p.m &&& q5 (rs.map (·.p))) j with
        | false=>rw[B8,hj];rfl
        | true =>
         rw[B8,hj]
         rw[B8]at hj
         rw[zo]at hj
         obtain⟨pq,hpq,hqk,rfl⟩:=(T5 _).1 hj.2
         obtain⟨q,hq,rfl⟩:=jW.1 hpq
         obtain⟨x,hx⟩:=zL.1 hq
         rw[(m2 _).2 ⟨x,q,c1 x q hx hqk hj.1,hx,hqk,rfl⟩]
         rfl
       have s2:waiters r.p.i (rs.map (·.p)) &&& cb' = 0:=by
        apply Nat.eq_of_testBit_eq
        intro j
        cases hj:Nat.testBit (waiters r.p.i (rs.map (·.p)) &&& cb') j with
        | false=>simp
        | true =>
         exfalso
         rw[B8,zo]at hj
         obtain⟨pq,hpq,hqk,hqm,rfl⟩:=(R8 _).1 hj.1
         obtain⟨q,hq,rfl⟩:=jW.1 hpq
         obtain⟨x,hx⟩:=zL.1 hq
         obtain⟨t', r', ht', hr', hk', e⟩:=(m2 _).1 hj.2
         have:=inj t' x r' q hr' hx e
         have:=c2 x q hx hqk hqm
         omega
       have hmem:=zh hr
       have hca:=Sa rs hc2 r hmem
       rcases hk with hk|hk
       . have:=LI _ (hca.1 hk) cb' _ m1 s1 s2
         exact⟨this.1,fun h=>by rw[hk]at h;cases h⟩
       . have:=LI _ (hca.2 hk) cb' _ m1 s1 s2
         exact⟨this.1,fun _ ht=>by obtain⟨v,hv,rfl⟩:=this.2 rfl ht;exact hv⟩
   . cases h
 . cases h
end Go.Ex
namespace Go.Ex
open Go Go.Sx
section
variable {P:Program} {rec:Rec} {ops:List Oper} {n:Nat} {masks:List Nat} {rs:List Rc} {σ' : ja} {A' B' : AH}
theorem Dr.pre(D:Dr P rec ops n masks rs σ' A' B'){t:Nat}{r:Rc}(hr:rs[t]? = some r)(k:Nat):mI masks r.p.i k=Nat.testBit r.p.m k:=by
 unfold mI
 rw[(D.jX t r hr).2]
 rfl
theorem Dr.tK(D:Dr P rec ops n masks rs σ' A' B'){t:Nat}{r:Rc}(hr:rs[t]? = some r):r.p.i<ops.length:=(zd.1 (D.jX t r hr).1).1
theorem oL{t:Nat}{r:Rc}(hr:rs[t]? = some r):iI rs A' t=r.A:=by unfold iI;rw[hr]
theorem DW{t:Nat}{r:Rc}(hr:rs[t]? = some r):i7 rs B' t=r.B:=by unfold i7;rw[hr]
theorem xU{t:Nat}{r:Rc}(hr:rs[t]? = some r):mh rs σ' t=r.σ:=by unfold mh;rw[hr]
theorem HG{t:Nat}(h:rs.length<=t):iI rs A' t=A' := by unfold iI;rw[mB h]
theorem pL{t:Nat}(h:t<rs.length):∃ r,rs[t]? = some r:=⟨_,zk h⟩
theorem pM{t:Nat}{r:Rc}(h:rs[t]? = some r):t<rs.length:=(zd.1 h).1
theorem Dr.mono(D:Dr P rec ops n masks rs σ' A' B'){t t' : Nat}(h:t<=t')(h' : t' <= rs.length):(iI rs A' t).nf<=(iI rs A' t').nf:=by
 obtain⟨d,rfl⟩:∃ d,t' = t+d:=⟨t' - t,o_⟩
 clear h
 induction d with
 | zero=>exact zn _
 | succ d ih =>
  obtain⟨r,hr⟩:=pL (rs:=rs) (t:=t+d) o_
  have:=(D.step _ r hr).nf
  rw[<-oL (A' := A') hr]at this
  exact z7 (ih o_) this
theorem AT{o:Oper}{A1 B:AH}(h:kindOf o.op = .ch):wg o A1 B=A1:=by unfold wg;rw[h]
theorem Db{o:Oper}{A1 B:AH}(h:kindOf o.op ≠ .ch):wg o A1 B=B:=by
 unfold wg
 split
 . rename_i hx;exact absurd hx h
 . rfl
theorem Dr.B0(D:Dr P rec ops n masks rs σ' A' B'):∀ t,t<=rs.length->(i7 rs B' t).nf<=(iI rs A' t).nf:=by
 intro t
 induction t with
 | zero=>intro _;rw[D.same];exact zn _
 | succ t ih =>
  intro h
  obtain⟨r,hr⟩:=pL (rs:=rs) (t:=t) o_
  have hs:=D.step t r hr
  rw[hs.B]
  by_cases hk:kindOf r.p.o.op = .ch
  . rw[AT hk];exact zn _
  . rw[Db hk]
    have:=ih o_
    rw[DW hr,oL hr]at this
    exact z7 this hs.nf
theorem Dr.ground(D:Dr P rec ops n masks rs σ' A' B'){s u:Nat}(h:s<=u)(h' : u<=rs.length)(hn:∀ (x:Nat) (q:Rc),s<=x->x<u->rs[x]? = some q->q.p.k ≠ .ch):i7 rs B' s=i7 rs B' u:=by
 obtain⟨d,rfl⟩:∃ d,u=s+d:=⟨u-s,o_⟩
 clear h
 induction d with
 | zero=>rfl
 | succ d ih =>
  obtain⟨r,hr⟩:=pL (rs:=rs) (t:=s+d) o_
  rw[ih o_ fun x q hx hx' hq=>hn x q hx o_ hq,show s+(d+1)=s+d+1 by omega,(D.step _ r hr).B,Db (hn _ r o_ o_ hr),DW hr]
theorem Dr.seg(D:Dr P rec ops n masks rs σ' A' B'):∀ u,u<=rs.length->∃ s,s<=u/\iI rs A' s=i7 rs B' u/\∀ (x:Nat) (q:Rc),s<=x->x<u->rs[x]? = some q->q.p.k ≠ .ch:=by
 intro u
 induction u with
 | zero=>intro _;exact⟨0,zn _,D.same,fun x q _ h=>by omega⟩
 | succ u ih =>
  intro h
  obtain⟨r,hr⟩:=pL (rs:=rs) (t:=u) o_
  have hs:=D.step u r hr
  by_cases hk:r.p.k = .ch
  . exact⟨u+1,zn _,by rw[hs.B,AT hk],fun x q _ h=>by omega⟩
  . obtain⟨s,h1,h2,h3⟩:=ih o_
    refine⟨s,o_,by rw[h2,hs.B,Db hk,DW hr],fun x q hx hx' hq=>?_⟩
    by_cases e:x=u
    . subst e
      rw[hr]at hq
      cases hq
      exact hk
    . exact h3 x q hx o_ hq
theorem Dr.low(D:Dr P rec ops n masks rs σ' A' B'){u t:Nat}(hu:u<=rs.length)(ht:t<=rs.length)(hn:∀ (x:Nat) (q:Rc),t<=x->x<u->rs[x]? = some q->q.p.k ≠ .ch):(i7 rs B' u).nf<=(iI rs A' t).nf:=by
 rcases qa t u with h|h
 . rw[<-D.ground (rC h) hu hn]
   exact D.B0 t ht
 . exact z7 (D.B0 u hu) (D.mono h ht)
theorem Dr.below(D:Dr P rec ops n masks rs σ' A' B'){u t x:Nat}{q:Rc}(hu:u<=rs.length)(htx:t<=x+1)(hxu:x<u)(hq:rs[x]? = some q)(hk:q.p.k = .ch):(iI rs A' t).nf<=(i7 rs B' u).nf:=by
 have h1:(iI rs A' t).nf<=(iI rs A' (x+1)).nf:=D.mono o_ o_
 -- the ground just behind x
 have h2:i7 rs B' (x+1)=iI rs A' (x+1):=by rw[(D.step x q hq).B,AT hk]
 have h3:∀ d,x+1+d<=rs.length->(iI rs A' (x+1)).nf<=(i7 rs B' (x+1+d)).nf:=by
  intro d
  induction d with
  | zero=>intro _;rw[mL,h2];exact zn _
  | succ d ih =>
   intro hd
   obtain⟨r,hr⟩:=pL (rs:=rs) (t:=x+1+d) o_
   have hs:=D.step _ r hr
   rw[show x+1+(d+1)=x+1+d+1 by omega,hs.B]
   by_cases hk' : kindOf r.p.o.op = .ch
   . rw[AT hk'];exact D.mono o_ o_
   . rw[Db hk']
     have:=ih o_
     rwa [DW hr]at this
 have h4:=h3 (u-(x+1)) o_
 rw[show x+1+(u-(x+1))=u by omega]at h4
 omega
theorem Dr.ET(D:Dr P rec ops n masks rs σ' A' B')(h0:jI (iI rs A' 0).nf (mh rs σ' 0)):∀ t,t<=rs.length->jI (iI rs A' t).nf (mh rs σ' t):=by
 intro t
 induction t with
 | zero=>intro _;exact h0
 | succ t ih =>
  intro h
  obtain⟨r,hr⟩:=pL (rs:=rs) (t:=t) o_
  have hs:=D.step t r hr
  have:=ih o_
  rw[oL hr,xU hr]at this
  rw[hs.σ]
  exact(this.mono hs.nf).put hs.EJ
theorem Dr.D2(D:Dr P rec ops n masks rs σ' A' B'){t:Nat}(h:t<=rs.length):(iI rs A' t).nf<=pY:=by
 have:=D.mono h (zn _)
 rw[HG (zn _)]at this
 exact z7 this D.big
theorem Dr.made(D:Dr P rec ops n masks rs σ' A' B'){t:Nat}{r:Rc}(hr:rs[t]? = some r)(hk:r.p.k = .fl)(htk:r.tk=true) :
 ∃ ob B,iI rs A' (t+1)=r.A.add ob/\jh P r.p.o.type r.p.o.op (l5 n r.σ) ⟨.e,r.A.nf⟩=some (.val r.v,B)/\B=(⟨.e,r.A.nf⟩:AH).add ob/\ob.Wf 0/\ob.ro=false/\kI 0 [r.A.nf] r.v=true/\nm r.v<=r.A.nf+1:=by
 have h:=(D.step t r hr).on htk
 unfold uT at h
 rw[show kindOf r.p.o.op = .fl from hk]at h
 simp only[Qu]at h
 split at h
 . rename_i v B hx
   split at h
   . rename_i ob hob
     simp only[Option.some.injEq,Prod.mk.injEq]at h
     obtain⟨rfl,h⟩:=h
     obtain⟨ob', e,h1,h2,h3,h4⟩:=U0 hk hx
     subst e
     have:ob' = ob:=by
      rw[pg]at hob
      simpa using hob
     subst this
     exact⟨ob', _,h.symm,hx,rfl,h1,h2,h3,h4⟩
   . cases h
 . cases h
theorem Dr.quiet(D:Dr P rec ops n masks rs σ' A' B'){t:Nat}{r:Rc}(hr:rs[t]? = some r)(hk:r.p.k = .pure\/r.p.k = .read):iI rs A' (t+1)=r.A:=by
 have hs:=D.step t r hr
 cases ht:r.tk with
 | false=>exact(hs.off ht).2
 | true =>
  have h:=hs.on ht
  unfold uT at h
  rcases hk with hk|hk
  . rw[show kindOf r.p.o.op = .pure from hk]at h
    obtain⟨v,_,e⟩:=map_some h
    simp only[Prod.mk.injEq]at e
    exact e.2.symm
  . rw[show kindOf r.p.o.op = .read from hk]at h
    obtain⟨v,_,e⟩:=map_some h
    simp only[Prod.mk.injEq]at e
    exact e.2.symm
open Classical in
noncomputable def valOf(rs:List Rc)(i:Nat):Value:=if h:∃ r,r∈rs/\r.p.i=i then h.choose.v else undef
theorem Dr.val(D:Dr P rec ops n masks rs σ' A' B'){t:Nat}{r:Rc}(hr:rs[t]? = some r):valOf rs r.p.i=r.v:=by
 have h:∃ q,q∈rs/\q.p.i=r.p.i:=⟨r,zh hr,rfl⟩
 unfold valOf
 rw[dif_pos h]
 obtain⟨h1,h2⟩:=h.choose_spec
 obtain⟨t', ht'⟩:=zL.1 h1
 have:=D.inj t' t _ r ht' hr h2
 subst this
 rw[hr]at ht'
 rw[<-Option.some.inj ht']
noncomputable def VV(ops:List Oper)(rs:List Rc):List (Env->Value):=(List.range ops.length).map fun i=>fun g=>fT g (valOf rs i)
theorem OI{i:Nat}(h:i<ops.length):(VV ops rs)[i]? = some fun g=>fT g (valOf rs i):=by simp[VV,h]
theorem NN:(VV ops rs).length=ops.length:=by simp[VV]
theorem Yv{i:Nat}(h:i<ops.length)(g:Env):((VV ops rs).map (· g))[i]? = some (fT g (valOf rs i)):=by simp[VV,h]
open Classical in
noncomputable def ir(rs:List Rc)(t i:Nat):Bool:=decide (∃ (t' : Nat) (r:Rc),t' < t/\rs[t']? = some r/\r.p.i=i)
theorem qh{t i:Nat}:ir rs t i=true↔∃ (t' : Nat) (r:Rc),t' < t/\rs[t']? = some r/\r.p.i=i:=by unfold ir;simp
theorem Dr.after(D:Dr P rec ops n masks rs σ' A' B'){t j:Nat}{r:Rc}(hr:rs[t]? = some r)(hj:j<ops.length)(hp:mI masks j r.p.i=true):ir rs t j=false:=by
 cases h:ir rs t j with
 | false=>rfl
 | true =>
  exfalso
  obtain⟨t', r', ht,hr', rfl⟩:=qh.1 h
  rw[D.pre hr']at hp
  obtain⟨t2,r2,ht2,hr2,e⟩:=D.Jv t' r' _ hr' hp
  have:=D.inj t2 t r2 r hr2 hr e
  omega
theorem Dr.Nh(D:Dr P rec ops n masks rs σ' A' B'){E0 g:Env}(hs0:jI (iI rs A' 0).nf (mh rs σ' 0))(hg:∀ b,b<(iI rs A' 0).nf->g b=E0 b) :
 ∀ t,t<=rs.length->∀ s,s<n->Sx.look (slots n g (mh rs σ' t)) s=Sx.look (ia (ir rs t) 0 ops ((VV ops rs).map (· g)) (slots n E0 (mh rs σ' 0))) s:=by
 intro t
 induction t with
 | zero =>
  intro _ s hs
  rw[kF,vL ops 0 _ (fun j o _ _=>?_),CN hg hs0]
  . rfl
  . cases h:ir rs 0 (0+j)with
    | false=>rfl
    | true=>obtain⟨t', r,ht,_⟩:=qh.1 h;omega
 | succ t ih =>
  intro h s hs
  obtain⟨r,hr⟩:=pL (rs:=rs) (t:=t) o_
  have hst:=D.step t r hr
  have IH:=ih o_ s hs
  rw[kF,xU hr]at IH
  rw[hst.σ,kF]
  have hil:=D.tK hr
  have ho:=(D.jX t r hr).1
  have hput:Sx.look (slots n g (oO r.σ r.p.o.dst r.v)) s=if r.p.o.dst=some s then fT g r.v else Sx.look (slots n g r.σ) s:=by
   rw[rS,if_pos hs]
   cases hd:r.p.o.dst with
   | none=>simp only[oO,rS,if_pos hs];simp
   | some d =>
    simp only[oO,Tr.r7,Option.some.injEq,rS,if_pos hs]
    by_cases e:s=d
    . subst e;simp
    . rw[if_neg e,if_neg (Ne.symm e)]
  rw[hput]
  by_cases hd:r.p.o.dst=some s
  . rw[if_pos hd,C3 ops 0 r.p.i _ r.p.o (fT g r.v) ho hd (by rw[Yv hil,D.val hr]) ?_ ?_]
    . rfl
    . rw[jN];exact qh.2 ⟨t,r,o_,hr,rfl⟩
    . intro j oj hij hj hdj
      rw[jN]
      have hjl:j<ops.length:=(zd.1 hj).1
      have hp:=D.Ep.nF r.p.i j r.p.o oj ho hj hij (.inl (by simp[j9,hd,hdj]))
      cases hpl:ir rs (t+1) j with
      | false=>rfl
      | true =>
       exfalso
       obtain⟨t', r', ht,hr', e⟩:=qh.1 hpl
       have hne:t' ≠ t:=by
        intro e2;subst e2
        rw[hr]at hr'; cases hr'
        omega
       have:=D.after hr hjl hp
       rw[qh.2 ⟨t', r', o_,hr', e⟩]at this
       cases this
  . rw[if_neg hd,IH]
    congr 1
    refine qP ops 0 _ _ rfl fun j oj hj hdj=>⟨?_,fun _=>rfl⟩
    rw[jN]
    have hne:j≠r.p.i:=by
     rintro rfl
     rw[ho]at hj;cases hj
     exact hd hdj
    cases h1:ir rs t j with
    | true =>
     obtain⟨t', r', ht,hr', e⟩:=qh.1 h1
     exact(qh.2 ⟨t', r', o_,hr', e⟩).symm
    | false =>
     cases h2:ir rs (t+1) j with
     | false=>rfl
     | true =>
      obtain⟨t', r', ht,hr', e⟩:=qh.1 h2
      by_cases e2:t' = t
      . subst e2
        rw[hr]at hr'; cases hr'
        exact absurd e.symm hne
      . rw[qh.2 ⟨t', r', o_,hr', e⟩]at h1;cases h1
theorem Dr.looks(D:Dr P rec ops n masks rs σ' A' B'){E0 g:Env}{S:Nat->Bool}{t:Nat}{r:Rc}(hs0:jI (iI rs A' 0).nf (mh rs σ' 0))(hg:∀ b,b<(iI rs A' 0).nf->g b=E0 b)(hr:rs[t]? = some r)(hU:BV ops (mI masks) r.p.i S) :
 ∀ s,s<n->s∈r.p.o.looksAt ops.toArray->Sx.look (slots n g r.σ) s=Sx.look (ia S 0 ops ((VV ops rs).map (· g)) (slots n E0 (mh rs σ' 0))) s:=by
 intro s hs hl
 have:=D.Nh hs0 hg t (rC (pM hr)) s hs
 rw[xU hr]at this
 rw[this,kF,kF]
 congr 1
 refine qP ops 0 _ _ rfl fun j oj hj hdj=>⟨?_,fun _=>rfl⟩
 rw[jN]
 have ho:=(D.jX t r hr).1
 have hjl:j<ops.length:=(zd.1 hj).1
 have htou:j9 ops.toArray oj r.p.o=true:=by simp[j9,hdj,hl]
 rcases tV j r.p.i with h|h|h
 . have hp:=D.Ep.nF j r.p.i oj r.p.o hj ho h (.inl htou)
   rw[hU.nC j hp]
   rw[D.pre hr]at hp
   exact qh.2 (D.Jv t r j hr hp)
 . subst h
   rw[hU.self]
   cases h1:ir rs t r.p.i with
   | false=>rfl
   | true =>
    obtain⟨t', r', ht,hr', e⟩:=qh.1 h1
    have:=D.inj t' t r' r hr' hr e
    omega
 . have hp:=D.Ep.nF r.p.i j r.p.o oj ho hj h (.inr htou)
   rw[hU.notYet j hjl hp]
   exact D.after hr hjl hp
end
end Go.Ex
namespace Go.Ex
open Go Go.Sx
section
variable {E E' E1 g:Env} {A A1 B:AH} {w w1:World} {ob:AO} {c:Obj}
theorem Rel.env(h:Rel E A w)(he:∀ b,b<A.nf->E' b=E b):Rel E' A w:=by
 refine⟨fun b o hb=>?_,fun b b' o o' hb hb' e=>?_,h.wf,fun b hb=>(he b (z6 hb h.low)).trans (h.kN b hb),h.low⟩
 . obtain⟨c,h1,h2⟩:=h.obj b o hb
   have hw:=h.wf b o hb
   rw[he b hw.1]
   exact⟨c,h1,h2.ext he hw.2⟩
 . rw[he b (h.wf b o hb).1,he b' (h.wf b' o' hb').1]at e
   exact h.inj b b' o o' hb hb' e
theorem To.env(h:To E A w E1 A1 w1)(hr:Rel E1 A1 w1)(he:∀ b,b<A1.nf->E' b=E1 b):To E A w E' A1 w1:=by
 refine⟨h.nf,fun b hb=>(he b (z6 hb h.nf)).trans (h.ext b hb),h.os,h.tape,h.output,h.size,h.blk,fun b o hb=>?_⟩
 rw[he b (hr.wf b o hb).1]
 exact h.mine b o hb
theorem Rel.IS(h:Rel g B w)(hw:w.heap[(g B.nf).blk]? = some c)(hl:ot g (g B.nf) ob c)(hn:ob.Wf 0)(hfree:∀ b o,B.get b=some o->(g b).blk≠(g B.nf).blk):Rel g (B.add ob) w:=by
 refine⟨fun b o hb=>?_,fun b b' o o' hb hb' e=>?_,fun b o hb=>?_,h.kN,Fs h.low⟩
 . rw[pg]at hb
   split at hb
   . rename_i e;cases hb;rw[e];exact⟨c,hw,hl⟩
   . exact h.obj b o hb
 . rw[pg]at hb hb'
   split at hb
   . rename_i e1
     split at hb'
     . rename_i e2;rw[e1,e2]
     . rw[e1]at e;exact absurd e.symm (hfree b' o' hb')
   . split at hb'
     . rename_i e2;rw[e2]at e;exact absurd e (hfree b o hb)
     . exact h.inj b b' o o' hb hb' e
 . rw[pg]at hb
   split at hb
   . rename_i e;cases hb;subst e;exact⟨by simp[AH.add],hn.mono (mS _)⟩
   . have:=h.wf b o hb
     exact⟨by simp[AH.add];omega,this.2.mono (by simp[AH.add])⟩
theorem To.IS{E0:Env}{A0:AH}{w0:World}(h:To E0 A0 w0 g B w)(hnew:w0.heap.size<=(g B.nf).blk):To E0 A0 w0 g (B.add ob) w:=by
 refine⟨Fs h.nf,h.ext,h.os,h.tape,h.output,h.size,h.blk,fun b o hb=>?_⟩
 rw[pg]at hb
 split at hb
 . rename_i e;subst e;exact .inr hnew
 . exact h.mine b o hb
theorem Rel.less{k:Nat}(h:Rel E A w)(hA:A.nf<=k):Rel E ⟨A.h,k⟩ w :=
 ⟨h.obj,h.inj,fun b o hb=>⟨z6 (h.wf b o hb).1 hA,(h.wf b o hb).2.mono hA⟩,h.kN,z7 h.low hA⟩
theorem Rel.none{k:Nat}(h:Rel E A w)(hk:GB<=k):Rel E ⟨.e,k⟩ w :=
 ⟨fun b o hb=>(by cases hb),fun b b' o o' hb=>(by cases hb),fun b o hb=>(by cases hb),h.kN,hk⟩
end
section
variable {P:Program} {rec:Rec} {ops:List Oper} {n:Nat} {masks:List Nat} {rs:List Rc} {σ' : ja} {A' B' : AH} {E0 g:Env} {A0:AH} {w0 w:World} {S:Nat->Bool} {u t:Nat} {r:Rc}
structure mO (rs:List Rc) (S:Nat->Bool) (u t:Nat) (r:Rc):Prop where
 at_:rs[t]? = some r
 fl:r.p.k = .fl
 tk:r.tk=true
 up:S r.p.i=true
 seg:∀ (x:Nat) (q:Rc),t<=x->x<u->rs[x]? = some q->q.p.k ≠ .ch
def AtF(rs:List Rc)(A' : AH)(g:Env)(w w0:World)(B:AH)(t:Nat)(r:Rc):Prop :=
 ∃ ob c,iI rs A' (t+1)=r.A.add ob/\ob.Wf 0/\ob.ro=false/\w.heap[(g r.A.nf).blk]? = some c/\ot g (g r.A.nf) ob c/\w0.heap.size<=(g r.A.nf).blk/\∀ b o,B.get b=some o->(g b).blk≠(g r.A.nf).blk
structure MS (rs:List Rc) (A' B' : AH) (E0:Env) (A0:AH) (w0:World) (S:Nat->Bool) (g:Env) (w:World) (u:Nat):Prop where
 le:u<=rs.length
 wA:∀ r,rs[u]? = some r->r.p.k = .ch/\S r.p.i=false
 yP:∀ (t:Nat) (r:Rc),t<u->rs[t]? = some r->r.p.k = .ch->S r.p.i=true
 rel:Rel g (i7 rs B' u) w
 to:To E0 A0 w0 g (i7 rs B' u) w
 fl:∀ (t:Nat) (r:Rc),mO rs S u t r->AtF rs A' g w w0 (i7 rs B' u) t r
 BC:∀ (t:Nat) (r:Rc) (t' : Nat) (r' : Rc),mO rs S u t r->mO rs S u t' r' -> t≠t' -> (g r.A.nf).blk≠(g r'.A.nf).blk
theorem MS.Qz(h:MS rs A' B' E0 A0 w0 S g w u):BX rs u:=by
 rcases qa u rs.length with h1|h1
 . obtain⟨r,hr⟩:=pL h1
   exact .inr ⟨r,hr,(h.wA r hr).1⟩
 . exact .inl (Nat.le_antisymm h.le h1)
theorem MS.chain(h:MS rs A' B' E0 A0 w0 S g w u)(D:Dr P rec ops n masks rs σ' A' B')(hd:∀ j,S j=true->j<ops.length->∀ k,mI masks j k=true->S k=true){x:Nat}{q:Rc}(hq:rs[x]? = some q)(hk:q.p.k = .ch)(hS:S q.p.i=true):x<u:=by
 rcases tV x u with h1|h1|h1
 . exact h1
 . subst h1
   rw[(h.wA q hq).2]at hS;cases hS
 . have hul:u<rs.length:=Nat.lt_trans h1 (pM hq)
   obtain⟨ru,hru⟩:=pL hul
   obtain⟨c1,c2⟩:=h.wA ru hru
   have hp:=D.IE x u q ru hq hru h1 hk c1
   have:=hd q.p.i hS (D.tK hq) ru.p.i (by rw[D.pre hq];exact hp)
   rw[c2]at this;cases this
theorem Dr.names(D:Dr P rec ops n masks rs σ' A' B'){t t' : Nat}{r r' : Rc}(hr:rs[t]? = some r)(hr' : rs[t']? = some r')(hk:r.p.k = .fl)(htk:r.tk=true)(hlt:t<t'):r.A.nf<r'.A.nf:=by
 obtain⟨ob,B,h1,_⟩:=D.made hr hk htk
 have h2:=D.mono (t:=t+1) (t' := t') o_ (rC (pM hr'))
 rw[h1,oL hr']at h2
 simp only[AH.add]at h2
 omega
theorem Dr.UR(D:Dr P rec ops n masks rs σ' A' B'){t t' : Nat}{r r' : Rc}(hr:rs[t]? = some r)(hr' : rs[t']? = some r')(hk:r.p.k = .fl)(htk:r.tk=true)(hk' : r'.p.k = .fl)(htk' : r'.tk=true)(hne:t≠t'):r.A.nf≠r'.A.nf:=by
 rcases qa t t' with h|h
 . exact BR (D.names hr hr' hk htk h)
 . exact Ne.symm (BR (D.names hr' hr hk' htk' o_))
theorem MS.PT(h:MS rs A' B' E0 A0 w0 S g w u)(D:Dr P rec ops n masks rs σ' A' B')(hd:∀ j,S j=true->j<ops.length->∀ k,mI masks j k=true->S k=true){g' : Env}
 (hg:∀ b,b<(i7 rs B' u).nf->g' b=g b) (hf:∀ (t:Nat) (r:Rc),rs[t]? = some r->r.p.k = .fl->r.tk=true->S r.p.i=true->g' r.A.nf=g r.A.nf) :
 ∀ k f,(VV ops rs)[k]? = some f->S k=true->f g' = f g:=by
 intro k f hf' hS
 have hkl:k<ops.length:=by have:=(zd.1 hf').1;rwa [NN]at this
 rw[OI hkl]at hf'
 cases hf'
 obtain⟨x,q,hq,rfl⟩:=D.all k hkl
 simp only[D.val hq]
 have num:nm q.v<=(i7 rs B' u).nf->fT g' q.v=fT g q.v:=fun hn=>s6 hg q.v hn
 have hst:=D.step x q hq
 have quiet:(q.p.k = .pure\/q.p.k = .read)->fT g' q.v=fT g q.v:=by
  intro hk
  by_cases hex:∃ (j:Nat) (p:Rc),rs[j]? = some p/\p.p.k = .ch/\Nat.testBit p.p.m q.p.i=true/\j<u
  . obtain⟨j,p,hp,hpk,hpm,hju⟩:=hex
    obtain⟨t2,r2,ht2,hr2,e⟩:=D.Jv j p _ hp hpm
    have:=D.inj t2 x r2 q hr2 hq e
    subst this
    exact num (z7 hst.EJ (D.below h.le o_ hju hp hpk))
  . obtain⟨h1,_⟩:=D.gH x q u hq h.Qz hk
     (fun j p hp hpk hpm=>h.chain D hd hp hpk (hd q.p.i hS hkl p.p.i (by rw[D.pre hq];exact hpm)))
     (fun j p hp hpk hpm=>by
      rcases qa j u with h2|h2
      . exact absurd ⟨j,p,hp,hpk,hpm,h2⟩ hex
      . exact h2)
    refine A6 (fun b hb=>?_) q.v h1
    rcases hb with hb|hb
    . exact hg b hb
    . obtain⟨p,hp,hpk,htk,hpm,rfl⟩:=Sj rs hb
      obtain⟨y,hy⟩:=zL.1 hp
      exact hf y p hy hpk htk (hd q.p.i hS hkl p.p.i (by rw[D.pre hq];exact hpm))
 cases hk:q.p.k with
 | pure=>exact quiet (.inl hk)
 | read=>exact quiet (.inr hk)
 | fl =>
  cases htk:q.tk with
  | false=>rw[(hst.off htk).1];rfl
  | true =>
   obtain⟨ob,B,_,_,_,_,_,h1,_⟩:=D.made hq hk htk
   refine A6 (fun b hb=>?_) q.v h1
   rcases hb with hb|hb
   . omega
   . simp only[lY]at hb
     subst hb
     exact hf x q hq hk htk hS
 | ch=>exact num (z7 hst.EJ (D.below h.le o_ (h.chain D hd hq hk hS) hq hk))
theorem MS.join(h:MS rs A' B' E0 A0 w0 S g w u)(D:Dr P rec ops n masks rs σ' A' B')(hall:∀ (t:Nat) (r:Rc),t<u->rs[t]? = some r->r.p.k = .fl->(∀ (x:Nat) (q:Rc),t<=x->x<u->rs[x]? = some q->q.p.k ≠ .ch)->S r.p.i=true) :
 Rel g (iI rs A' u) w/\To E0 A0 w0 g (iI rs A' u) w/\∀ b o,(iI rs A' u).get b=some o->(i7 rs B' u).get b=some o\/∃ (t:Nat) (r:Rc),t<u/\mO rs S u t r/\b=r.A.nf:=by
 obtain⟨s,hsu,hs1,hs2⟩:=D.seg u h.le
 have key:∀ d,s+d<=u->Rel g (iI rs A' (s+d)) w/\To E0 A0 w0 g (iI rs A' (s+d)) w/\∀ b o,(iI rs A' (s+d)).get b=some o->(i7 rs B' u).get b=some o\/∃ (t:Nat) (r:Rc),t<s+d/\mO rs S u t r/\b=r.A.nf:=by
  intro d
  induction d with
  | zero=>intro _;rw[mL,hs1];exact⟨h.rel,h.to,fun b o hb=>.inl hb⟩
  | succ d ih =>
   intro hd
   obtain⟨i1,i2,i3⟩:=ih o_
   obtain⟨q,hq⟩:=pL (rs:=rs) (t:=s+d) (by have:=h.le;omega)
   have hsg:∀ (x:Nat) (p:Rc),s+d<=x->x<u->rs[x]? = some p->p.p.k ≠ .ch:=fun x p hx hx' hp=>hs2 x p o_ hx' hp
   have same:iI rs A' (s+d+1)=q.A->Rel g (iI rs A' (s+(d+1))) w/\To E0 A0 w0 g (iI rs A' (s+(d+1))) w/\∀ b o,(iI rs A' (s+(d+1))).get b=some o->(i7 rs B' u).get b=some o\/∃ (t:Nat) (r:Rc),t<s+(d+1)/\mO rs S u t r/\b=r.A.nf:=by
    intro e
    rw[oL hq]at i1 i2 i3
    rw[show s+(d+1)=s+d+1 by omega,e]
    refine⟨i1,i2,fun b o hb=>?_⟩
    rcases i3 b o hb with h3|⟨t,r,ht,h3⟩
    . exact .inl h3
    . exact .inr ⟨t,r,o_,h3⟩
   have hst:=D.step _ q hq
   cases hk:q.p.k with
   | pure=>exact same (D.quiet hq (.inl hk))
   | read=>exact same (D.quiet hq (.inr hk))
   | ch=>exact absurd hk (hsg (s+d) q (zn _) o_ hq)
   | fl =>
    cases htk:q.tk with
    | false=>exact same (hst.off htk).2
    | true =>
     have he:mO rs S u (s+d) q:=⟨hq,hk,htk,hall _ q o_ hq hk hsg,hsg⟩
     obtain⟨ob,c,e,hw,hro,hc,hl,hnew,hfree⟩:=h.fl _ _ he
     rw[oL hq]at i1 i2 i3
     rw[show s+(d+1)=s+d+1 by omega,e]
     refine⟨i1.IS hc hl hw fun b o hb=>?_,i2.IS hnew,fun b o hb=>?_⟩
     . rcases i3 b o hb with h3|⟨t,r,ht,h3,rfl⟩
       . exact hfree b o h3
       . exact h.BC _ _ _ _ h3 he o_
     . rw[pg]at hb
       split at hb
       . rename_i e2;exact .inr ⟨s+d,q,o_,he,e2⟩
       . rcases i3 b o hb with h3|⟨t,r,ht,h3⟩
         . exact .inl h3
         . exact .inr ⟨t,r,o_,h3⟩
 have:=key (u-s) o_
 rw[show s+(u-s)=u by omega]at this
 exact this
end
end Go.Ex
namespace Go.Ex
open Go Go.Sx
section
variable {P:Program} {rec:Rec} {ops:List Oper} {n:Nat} {masks:List Nat} {rs:List Rc} {σ' : ja} {A' B' : AH} {E0 g:Env} {A0:AH} {w0 w:World} {S:Nat->Bool} {u t:Nat} {r:Rc}
theorem W2{k:Nat}(hrec:tw P k rec){o:Oper}{σ:Tr Value}{A A1:AH}{v:Value}(hx:Ap P rec false o n σ A=some (v,A1))(h:Rel g A w)(hs:jI A.nf σ){Nx:Value->World->Prop}
 (K:∀ E1 w1,Rel E1 A1 w1->To g A w E1 A1 w1->nm v<=A1.nf->Nx (fT E1 v) w1) :
 mE o.op=true/\((∃ v w', (execOp (ev n (slots n g σ)) o).run P w = .ok (.value v) w' /\ Nx v w')\/(∃ w', (execOp (ev n (slots n g σ)) o).run P w = .ok .skip w' /\ Nx undef w') \/
  (∃ f args w', (execOp (ev n (slots n g σ)) o).run P w = .ok (.enter f args) w' /\ CR P f args w' Nx)):=by
 unfold Ap at hx
 cases hxo:jh P o.type o.op (l5 n σ) A with
 | none=>rw[hxo]at hx;cases hx
 | some p =>
  obtain⟨xr,A2⟩:=p
  refine⟨Cv hxo,?_⟩
  have hdoes:=CS (P:=P) o.op g A A2 w (l5 n σ) n (slots n g σ) xr o.dst o.type o.pos o.after o.guard h (r9 h hs) hxo
  rw[hxo]at hx
  cases xr with
  | val u =>
   cases hx
   obtain⟨E1,w1,hr,h1,t1,hv⟩:=hdoes
   exact .inl ⟨_,w1,hr,K E1 w1 h1 t1 hv⟩
  | unit =>
   cases hx
   obtain⟨E1,w1,hr,h1,t1,_⟩:=hdoes
   refine .inr (.inl ⟨w1,hr,?_⟩)
   have:=K E1 w1 h1 t1 (G5 _)
   rw[AJ]at this
   exact this
  | enter f args =>
   simp only at hx
   split at hx
   . rename_i v' A3 hc
     cases hx
     obtain⟨E1,w1,hr,h1,t1,hv⟩:=hdoes
     have hcall:ta P f args A2 v A1:=hrec _ _ hc
     refine .inr (.inr ⟨f,_,w1,hr,CR.mono (hcall E1 w1 h1 hv) ?_⟩)
     rintro v2 w2 ⟨E2,rfl,h2,t2,hv2⟩
     exact K E2 w2 h2 (t1.trans t2) hv2
   . cases hx
  | yield l args=>cases hx
theorem Ml(rs:List Rc):∀ d a,a+d=rs.length->∃ u,a<=u/\u<=rs.length/\BX rs u/\∀ (x:Nat) (q:Rc),a<=x->x<u->rs[x]? = some q->q.p.k ≠ .ch:=by
 intro d
 induction d with
 | zero=>intro a h;exact⟨a,zn _,o_,.inl o_,fun x q _ h=>by omega⟩
 | succ d ih =>
  intro a h
  obtain⟨r,hr⟩:=pL (rs:=rs) (t:=a) o_
  by_cases hk:r.p.k = .ch
  . exact⟨a,zn _,o_,.inr ⟨r,hr,hk⟩,fun x q _ h=>by omega⟩
  . obtain⟨u,h1,h2,h3,h4⟩:=ih (a+1) o_
    refine⟨u,o_,h2,h3,fun x q hx hx' hq=>?_⟩
    by_cases e:x=a
    . subst e;rw[hr]at hq;cases hq;exact hk
    . exact h4 x q o_ hx' hq
theorem or_eq_true{S:Nat->Bool}{i j:Nat}:(S j||j==i)=true↔S j=true\/j=i:=by simp
theorem MS.Lq(h:MS rs A' B' E0 A0 w0 S g w u)(D:Dr P rec ops n masks rs σ' A' B')(hr:rs[t]? = some r)(hk:r.p.k = .ch)(hU:BV ops (mI masks) r.p.i S) :
 u=t/\Rel g (iI rs A' t) w/\∀ E1 w1,Rel E1 (iI rs A' (t+1)) w1->To g (iI rs A' t) w E1 (iI rs A' (t+1)) w1 ->
  ∃ g', (∃ u', MS rs A' B' E0 A0 w0 (fun j=>S j||j==r.p.i) g' w1 u')/\(∀ b,b<(iI rs A' (t+1)).nf->g' b=E1 b)/\∀ k f,(VV ops rs)[k]? = some f->S k=true->f g' = f g:=by
 have hut:u=t:=by
  rcases tV u t with h1|h1|h1
  . obtain⟨q,hq⟩:=pL (Nat.lt_trans h1 (pM hr))
    obtain⟨c1,c2⟩:=h.wA q hq
    have:=hU.nC q.p.i (by rw[D.pre hr];exact D.IE t u r q hr hq h1 hk c1)
    rw[c2]at this;cases this
  . exact h1
  . have:=h.yP t r h1 hr hk
    rw[hU.self]at this;cases this
 subst hut
 refine⟨rfl,?_⟩
 have htl:=pM hr
 obtain⟨j1,j2,j3⟩:=h.join D fun x q hx hq hqk hsg=>hU.nC q.p.i (by rw[D.pre hr];exact D.Q5 x u q r hq hr hx hqk hk fun y p hy hy' hp=>hsg y p o_ hy' hp)
 refine⟨j1,fun E1 w1 r1 t1=>?_⟩
 obtain⟨u', hu1,hu2,hu3,hu4⟩:=Ml rs (rs.length-(u+1)) (u+1) o_
 have hB:i7 rs B' u' = iI rs A' (u+1):=by
  rw[<-D.ground hu1 hu2 hu4,(D.step u r hr).B,AT hk]
 classical
 obtain⟨g', hg'⟩:∃ g' : Env,∀ b,g' b=if ∃ (x:Nat) (q:Rc),mO rs S u x q/\u<x/\b=q.A.nf then g b else E1 b:=⟨_,fun _=>rfl⟩
 have late:∀ (x:Nat) (q:Rc),mO rs S u x q->u<x->(iI rs A' (u+1)).nf<=q.A.nf:=by
  intro x q hq hx
  have:=D.mono (t:=u+1) (t' := x) o_ (rC (pM hq.at_))
  rwa [oL hq.at_]at this
 have gE:∀ b,b<(iI rs A' (u+1)).nf->g' b=E1 b:=by
  intro b hb
  rw[hg', if_neg]
  rintro⟨x,q,hq,hx,rfl⟩
  have:=late x q hq hx
  omega
 have hnf:(iI rs A' u).nf<=(iI rs A' (u+1)).nf:=D.mono o_ o_
 have gg:∀ b,b<(iI rs A' u).nf->g' b=g b:=fun b hb=>(gE b o_).trans (t1.ext b hb)
 have ge:∀ (x:Nat) (q:Rc),mO rs S u x q->u<x->g' q.A.nf=g q.A.nf:=fun x q hq hx=>by rw[hg', if_pos ⟨x,q,hq,hx,rfl⟩]
 have rg:Rel g' (iI rs A' (u+1)) w1:=r1.env gE
 have tg:To E0 A0 w0 g' (iI rs A' (u+1)) w1:=(j2.trans t1).env r1 gE
 -- early blocks of the new state
 have back:∀ (x:Nat) (q:Rc),mO rs (fun j=>S j||j==r.p.i) u' x q->mO rs S u x q/\u<x:=by
  intro x q hq
  have hx:u<x:=by
   rcases qa u x with h1|h1
   . exact h1
   . exact absurd hk (hq.seg u r h1 o_ hr)
  have hS:S q.p.i=true:=by
   rcases or_eq_true.1 hq.up with h1|h1
   . exact h1
   . have:=D.inj x u q r hq.at_ hr h1
     omega
  exact⟨⟨hq.at_,hq.fl,hq.tk,hS,fun y p hy hy' hp=>by omega⟩,hx⟩
 have free:∀ (x:Nat) (q:Rc),mO rs S u x q->u<x->∀ b o,(iI rs A' u).get b=some o->(g b).blk≠(g q.A.nf).blk:=by
  intro x q hq hx b o hb
  rcases j3 b o hb with h1|⟨y,p,hy,hp,rfl⟩
  . obtain⟨_,_,_,_,_,_,_,_,hfree⟩:=h.fl x q hq
    exact hfree b o h1
  . exact h.BC y p x q hp hq o_
 refine⟨g', ⟨u', hu2,fun q hq=>?_,fun x q hx hq hqk=>?_,by rw[hB];exact rg,by rw[hB];exact tg,fun x q hq=>?_,fun x q x' q' hq hq' hne=>?_⟩,gE,?_⟩
 . have hqk:q.p.k = .ch:=by
    rcases hu3 with h1|⟨q', hq', hk'⟩
    . have:=pM hq;omega
    . rw[hq]at hq'; cases hq'; exact hk'
   refine⟨hqk,?_⟩
   have hp:=D.IE u' u q r hq hr o_ hqk hk
   have h1:=hU.notYet q.p.i (D.tK hq) (by rw[D.pre hq];exact hp)
   have h2:q.p.i≠r.p.i:=fun e=>by have:=D.inj u' u q r hq hr e;omega
   simp[h1,h2]
 . rcases tV x u with h1|h1|h1
   . exact or_eq_true.2 (.inl (h.yP x q h1 hq hqk))
   . subst h1;rw[hr]at hq;cases hq;simp
   . exact absurd hqk (hu4 x q o_ hx hq)
 . obtain⟨hq', hx⟩:=back x q hq
   obtain⟨ob,c,e,hw,hro,hc,hl,hnew,hfree⟩:=h.fl x q hq'
   have hlt:(g q.A.nf).blk<w.heap.size:=(z8.1 hc).1
   have hgx:=ge x q hq' hx
   refine⟨ob,c,e,hw,hro,?_,?_,by rw[hgx];exact hnew,fun b o hb=>?_⟩
   . rw[hgx]
     exact(t1.blk _ hlt fun b o hb _=>free x q hq' hx b o hb).trans hc
   . rw[hgx];exact hl.ext (k:=0) (fun b hb=>by omega) hw
   . rw[hB]at hb
     rw[hgx,gE b (r1.wf b o hb).1]
     rcases t1.mine b o hb with ⟨c', oc,hc', he,_⟩|hs
     . rw[he];exact free x q hq' hx c' oc hc'
     . omega
 . obtain⟨h1,h2⟩:=back x q hq
   obtain⟨h3,h4⟩:=back x' q' hq'
   rw[ge x q h1 h2,ge x' q' h3 h4]
   exact h.BC x q x' q' h1 h3 hne
 . refine h.PT D hU.down (fun b hb=>gg b (z6 hb (D.B0 u h.le))) fun x q hq hqk htk hS=>?_
   rcases tV x u with h1|h1|h1
   . obtain⟨ob,B,h2,_⟩:=D.made hq hqk htk
     have h3:=D.mono (t:=x+1) (t' := u) o_ h.le
     rw[h2]at h3
     exact gg _ (by simp only[AH.add]at h3;omega)
   . subst h1;rw[hr]at hq;cases hq;rw[hk]at hqk;cases hqk
   . exact ge x q ⟨hq,hqk,htk,hS,fun y p hy hy' hp=>by omega⟩ h1
end
end Go.Ex
namespace Go.Ex
open Go Go.Sx
section
variable {P:Program} {rec:Rec} {ops:List Oper} {n:Nat} {masks:List Nat} {rs:List Rc} {σ' : ja} {A' B' : AH} {E0 g:Env} {A0:AH} {w0 w w1:World} {S:Nat->Bool} {u t:Nat} {r:Rc}
theorem MS.keep(h:MS rs A' B' E0 A0 w0 S g w u)(D:Dr P rec ops n masks rs σ' A' B')(hr:rs[t]? = some r)(hk:r.p.k ≠ .ch)(hf:r.p.k = .fl->r.tk=false)(k1:Rel g (i7 rs B' u) w1)(k2:To E0 A0 w0 g (i7 rs B' u) w1)
 (k3:∀ x,x<w.heap.size->(∀ b o,(i7 rs B' u).get b=some o->(g b).blk≠x)->w1.heap[x]? = w.heap[x]?):MS rs A' B' E0 A0 w0 (fun j=>S j||j==r.p.i) g w1 u:=by
 have back:∀ (x:Nat) (q:Rc),mO rs (fun j=>S j||j==r.p.i) u x q->mO rs S u x q:=by
  intro x q hq
  refine⟨hq.at_,hq.fl,hq.tk,?_,hq.seg⟩
  rcases or_eq_true.1 hq.up with h1|h1
  . exact h1
  . have:=D.inj x t q r hq.at_ hr h1
    subst this
    have e:=hq.at_
    rw[hr]at e
    cases e
    have:=hf hq.fl
    rw[hq.tk]at this;cases this
 refine⟨h.le,fun q hq=>?_,fun x q hx hq hqk=>or_eq_true.2 (.inl (h.yP x q hx hq hqk)),k1,k2,fun x q hq=>?_,fun x q x' q' hq hq' hne=>h.BC x q x' q' (back x q hq) (back x' q' hq') hne⟩
 . obtain⟨c1,c2⟩:=h.wA q hq
   refine⟨c1,?_⟩
   have:q.p.i≠r.p.i:=fun e=>by
    have:=D.inj u t q r hq hr e
    subst this
    rw[hr]at hq;cases hq
    exact hk c1
   simp[c2,this]
 . obtain⟨ob,c,e,hw,hro,hc,hl,hnew,hfree⟩:=h.fl x q (back x q hq)
   exact⟨ob,c,e,hw,hro,(k3 _ (z8.1 hc).1 hfree).trans hc,hl,hnew,hfree⟩
theorem MS.Lw(h:MS rs A' B' E0 A0 w0 S g w u)(D:Dr P rec ops n masks rs σ' A' B')(hs0:jI (iI rs A' 0).nf (mh rs σ' 0))(hr:rs[t]? = some r)(hk:r.p.k = .pure\/r.p.k = .read)(htk:r.tk=true)(hU:BV ops (mI masks) r.p.i S) :
 mE r.p.o.op=true/\∃ w1,(execOp (ev n (slots n g r.σ)) r.p.o).run P w = .ok (.value (fT g r.v)) w1/\MS rs A' B' E0 A0 w0 (fun j=>S j||j==r.p.i) g w1 u:=by
 -- the heap in which it is evaluated
 obtain⟨hh,hxq,hcase⟩:∃ hh,xq P r.p.o n r.σ hh=some r.v/\(hh = .e\/hh=(i7 rs B' u).h):=by
  rcases hk with hk|hk
  . have:=(D.step t r hr).on htk
    unfold uT at this
    rw[show kindOf r.p.o.op = .pure from hk]at this
    obtain⟨v,hv,e⟩:=map_some this
    simp only[Prod.mk.injEq]at e
    rw[e.1]at hv
    exact⟨.e,hv,.inl rfl⟩
  . refine⟨_,(D.gH t r u hr h.Qz (.inr hk) (fun j q hq hqk hm=>?_) (fun j q hq hqk hm=>?_)).2 hk htk,.inr rfl⟩
    . exact h.chain D hU.down hq hqk (hU.nC q.p.i (by rw[D.pre hr];exact hm))
    . rcases qa j u with h2|h2
      . have a1:=h.yP j q h2 hq hqk
        have a2:=hU.notYet q.p.i (D.tK hq) (by rw[D.pre hq];exact hm)
        rw[a1]at a2;cases a2
      . exact h2
 unfold xq at hxq
 split at hxq
 . rename_i v Bx hx
   cases hxq
   have hBx:=SA hk hx
   subst hBx
   have hbig:(i7 rs B' u).nf<=pY:=z7 (D.B0 u h.le) (D.D2 h.le)
   have hR:Rel g ⟨hh,pY⟩ w:=by
    rcases hcase with rfl|rfl
    . exact h.rel.none (z7 h.rel.low hbig)
    . exact h.rel.less hbig
   have hsw:jI pY r.σ:=by
    have:=D.ET hs0 t (rC (pM hr))
    rw[xU hr]at this
    exact this.mono (D.D2 (rC (pM hr)))
   have hdoes:=CS (P:=P) r.p.o.op g ⟨hh,pY⟩ ⟨hh,pY⟩ w (l5 n r.σ) n (slots n g r.σ) (.val r.v) r.p.o.dst r.p.o.type r.p.o.pos r.p.o.after r.p.o.guard hR (r9 hR hsw) hx
   obtain⟨E1,w1,hrun,h1,t1,hv⟩:=hdoes
   refine⟨Cv hx,w1,?_,?_⟩
   . have e:fT E1 r.v=fT g r.v:=s6 t1.ext r.v hv
     have:XR.next E1 (.val r.v) = .value (fT g r.v):=by simp only[XR.next,e]
     rw[<-this]
     exact hrun
   . refine h.keep D hr (by rcases hk with hk|hk<;>rw[hk]<;>simp) (by rcases hk with hk|hk<;>rw[hk]<;>simp) ?_ ?_ ?_
     . rcases hcase with rfl|rfl
       . exact⟨fun b o hb=>by
          obtain⟨c,hc,hl⟩:=h.rel.obj b o hb
          exact⟨c,(t1.blk _ (h.rel.lt hb) fun b' o' hb' => by cases hb').trans hc,hl⟩,h.rel.inj,h.rel.wf,h.rel.kN,h.rel.low⟩
       . exact⟨fun b o hb=>by
          obtain⟨c,hc,hl⟩:=h1.obj b o hb
          have hw:=h1.wf b o hb
          have e:E1 b=g b:=t1.ext b hw.1
          rw[e]at hc hl
          exact⟨c,hc,hl.ext (fun b' hb' => (t1.ext b' hb').symm) hw.2⟩,h.rel.inj,h.rel.wf,h.rel.kN,h.rel.low⟩
     . rcases hcase with rfl|rfl
       . exact⟨h.to.nf,h.to.ext,t1.os.trans h.to.os,t1.tape.trans h.to.tape,t1.output.trans h.to.output,z7 h.to.size t1.size,
          fun x hx hn=>(t1.blk x (z6 hx h.to.size) fun b' o' hb' => by cases hb').trans (h.to.blk x hx hn),h.to.mine⟩
       . have T1:To E0 A0 w0 g ⟨(i7 rs B' u).h,pY⟩ w:=⟨z7 h.to.nf hbig,h.to.ext,h.to.os,h.to.tape,h.to.output,h.to.size,h.to.blk,h.to.mine⟩
         have T2:=(T1.trans t1).env h1 fun b hb=>(t1.ext b hb).symm
         exact⟨h.to.nf,T2.ext,T2.os,T2.tape,T2.output,T2.size,T2.blk,T2.mine⟩
     . intro x hx hn
       refine t1.blk x hx fun b o hb _=>?_
       rcases hcase with rfl|rfl
       . cases hb
       . exact hn b o hb
 . cases hxq
theorem MS.XE(h:MS rs A' B' E0 A0 w0 S g w u)(D:Dr P rec ops n masks rs σ' A' B')(hs0:jI (iI rs A' 0).nf (mh rs σ' 0))(hr:rs[t]? = some r)(hk:r.p.k = .fl)(htk:r.tk=true)(hU:BV ops (mI masks) r.p.i S) :
 mE r.p.o.op=true/\∃ w1 g', (execOp (ev n (slots n g r.σ)) r.p.o).run P w = .ok (.value (fT g' r.v)) w1/\MS rs A' B' E0 A0 w0 (fun j=>S j||j==r.p.i) g' w1 u/\∀ k f,(VV ops rs)[k]? = some f->S k=true->f g' = f g:=by
 have htl:=pM hr
 -- it does not stand ahead of an operation on memory that has come up
 have hsg:∀ (x:Nat) (q:Rc),t<=x->x<u->rs[x]? = some q->q.p.k ≠ .ch:=by
  intro x
  induction x using Nat.strongRecOn with
  | _ x ih =>
   intro q hx hxu hq hqk
   have hne:t≠x:=by rintro rfl;rw[hr]at hq;cases hq;rw[hk]at hqk;cases hqk
   have hp:=D.Q5 t x r q hr hq o_ hk hqk fun y p hy hy' hp=>ih y hy' p o_ o_ hp
   have a1:=h.yP x q hxu hq hqk
   have a2:=hU.notYet q.p.i (D.tK hq) (by rw[D.pre hq];exact hp)
   rw[a1]at a2;cases a2
 have hlow:(i7 rs B' u).nf<=r.A.nf:=by
  have:=D.low h.le (rC htl) hsg
  rwa [oL hr]at this
 obtain⟨ob,B,e1,hx,rfl,hw0,hro,hok,hnm⟩:=D.made hr hk htk
 have hGB:GB<=r.A.nf:=z7 h.rel.low hlow
 have hR:Rel g ⟨.e,r.A.nf⟩ w:=h.rel.none hGB
 have hsw:jI r.A.nf r.σ:=by
  have:=D.ET hs0 t (rC htl)
  rwa [xU hr,oL hr]at this
 have hdoes:=CS (P:=P) r.p.o.op g ⟨.e,r.A.nf⟩ _ w (l5 n r.σ) n (slots n g r.σ) (.val r.v) r.p.o.dst r.p.o.type r.p.o.pos r.p.o.after r.p.o.guard hR (r9 hR hsw) hx
 obtain⟨E1,w1,hrun,h1,t1,hv⟩:=hdoes
 have hgetN:((⟨.e,r.A.nf⟩:AH).add ob).get r.A.nf=some ob:=by rw[pg,if_pos rfl]
 obtain⟨c,hc,hl⟩:=h1.obj _ _ hgetN
 have hnew:w.heap.size<=(E1 r.A.nf).blk:=by
  rcases t1.mine _ _ hgetN with ⟨c', oc,hc', _⟩|hs
  . cases hc'
  . exact hs
 have keepw:∀ x,x<w.heap.size->w1.heap[x]? = w.heap[x]? := fun x hx=>t1.blk x hx fun b' o' hb' => by cases hb'
 have gne:∀ b,b≠r.A.nf->kP g r.A.nf (E1 r.A.nf) b=g b:=fun b hb=>nY g _ hb
 have glt:∀ b,b<(i7 rs B' u).nf->kP g r.A.nf (E1 r.A.nf) b=g b:=fun b hb=>gne b o_
 -- other new blocks have other names
 have gfl:∀ (x:Nat) (q:Rc),rs[x]? = some q->q.p.k = .fl->q.tk=true->S q.p.i=true->kP g r.A.nf (E1 r.A.nf) q.A.nf=g q.A.nf:=by
  intro x q hq hqk hqt hS
  refine gne _ ?_
  refine D.UR hq hr hqk hqt hk htk fun e=>?_
  subst e
  rw[hr]at hq;cases hq
  rw[hU.self]at hS;cases hS
 refine⟨Cv hx,w1,kP g r.A.nf (E1 r.A.nf),?_,?_,h.PT D hU.down glt gfl⟩
 . have e:fT E1 r.v=fT (kP g r.A.nf (E1 r.A.nf)) r.v:=A6 (fun b hb=>by
    rcases hb with hb|hb
    . omega
    . simp only[lY]at hb
      subst hb
      rw[kL]) r.v hok
   have:XR.next E1 (.val r.v) = .value (fT (kP g r.A.nf (E1 r.A.nf)) r.v):=by simp only[XR.next,e]
   rw[<-this]
   exact hrun
 . have rel1:Rel (kP g r.A.nf (E1 r.A.nf)) (i7 rs B' u) w1:=by
    refine Rel.env (E:=g) ⟨fun b o hb=>?_,h.rel.inj,h.rel.wf,h.rel.kN,h.rel.low⟩ glt
    obtain⟨c', hc', hl'⟩:=h.rel.obj b o hb
    exact⟨c', (keepw _ (h.rel.lt hb)).trans hc', hl'⟩
   have hA0:A0.nf<=(i7 rs B' u).nf:=h.to.nf
   refine⟨h.le,fun q hq=>?_,fun x q hx hq hqk=>or_eq_true.2 (.inl (h.yP x q hx hq hqk)),rel1,?_,fun x q hq=>?_,fun x q x' q' hq hq' hne=>?_⟩
   . obtain⟨c1,c2⟩:=h.wA q hq
     refine⟨c1,?_⟩
     have:q.p.i≠r.p.i:=fun e=>by
      have:=D.inj u t q r hq hr e
      subst this
      rw[hr]at hq;cases hq
      rw[hk]at c1;cases c1
     simp[c2,this]
   . refine⟨h.to.nf,fun b hb=>(glt b o_).trans (h.to.ext b hb),t1.os.trans h.to.os,t1.tape.trans h.to.tape,t1.output.trans h.to.output,z7 h.to.size t1.size,
      fun x hx hn=>(keepw x (z6 hx h.to.size)).trans (h.to.blk x hx hn),fun b o hb=>?_⟩
     rw[glt b (h.rel.wf b o hb).1]
     exact h.to.mine b o hb
   . by_cases hxt:x=t
     . subst hxt
       have e:=hq.at_
       rw[hr]at e
       cases e
       refine⟨ob,c,e1,hw0,hro,by rw[kL];exact hc,by rw[kL];exact hl.ext (k:=0) (fun b hb=>by omega) hw0,by rw[kL];exact z7 h.to.size hnew,fun b o hb=>?_⟩
       rw[kL,glt b (h.rel.wf b o hb).1]
       have:=h.rel.lt hb
       omega
     . have hS:S q.p.i=true:=by
        rcases or_eq_true.1 hq.up with h2|h2
        . exact h2
        . exact absurd (D.inj x t q r hq.at_ hr h2) hxt
       obtain⟨ob', c', e', hw', hro', hc', hl', hnew', hfree'⟩:=h.fl x q ⟨hq.at_,hq.fl,hq.tk,hS,hq.seg⟩
       have hgx:=gfl x q hq.at_ hq.fl hq.tk hS
       refine⟨ob', c', e', hw', hro', by rw[hgx];exact(keepw _ (z8.1 hc').1).trans hc', by rw[hgx];exact hl'.ext (k:=0) (fun b hb=>by omega) hw', by rw[hgx];exact hnew', fun b o hb=>?_⟩
       rw[hgx,glt b (h.rel.wf b o hb).1]
       exact hfree' b o hb
   . have old:∀ (y:Nat) (p:Rc),mO rs (fun j=>S j||j==r.p.i) u y p->y≠t->mO rs S u y p:=by
      intro y p hp hy
      refine⟨hp.at_,hp.fl,hp.tk,?_,hp.seg⟩
      rcases or_eq_true.1 hp.up with h2|h2
      . exact h2
      . exact absurd (D.inj y t p r hp.at_ hr h2) hy
     have lt_old:∀ (y:Nat) (p:Rc),mO rs S u y p->(g p.A.nf).blk<w.heap.size:=by
      intro y p hp
      obtain⟨_,c', _,_,_,hc', _⟩:=h.fl y p hp
      exact(z8.1 hc').1
     by_cases hx1:x=t
     . have hx2:x' ≠ t:=fun e=>hne (hx1.trans e.symm)
       have o2:=old x' q' hq' hx2
       have:=lt_old x' q' o2
       subst hx1
       have e:=hq.at_
       rw[hr]at e
       cases e
       rw[kL,gfl x' q' o2.at_ o2.fl o2.tk o2.up]
       omega
     . have o1:=old x q hq hx1
       by_cases hx2:x' = t
       . have:=lt_old x q o1
         subst hx2
         have e:=hq'.at_
         rw[hr]at e
         cases e
         rw[kL,gfl x q o1.at_ o1.fl o1.tk o1.up]
         omega
       . have o2:=old x' q' hq' hx2
         rw[gfl x q o1.at_ o1.fl o1.tk o1.up,gfl x' q' o2.at_ o2.fl o2.tk o2.up]
         exact h.BC x q x' q' o1 o2 hne
theorem HD(hm:P.follows .mixedOrders=true):Bv P (yO P):=by
 intro k rec hrec q ops n σ A σ' A' hx E w r id hq h hs ds Q K
 obtain⟨masks,rs,B', D,hsg0,hah0⟩:=WA hx
 have hs0:jI (iI rs A' 0).nf (mh rs σ' 0):=by rw[hsg0,hah0];exact hs
 have hgE:∀ {S g w1 u},MS rs A' B' E A w S g w1 u->∀ b,b<(iI rs A' 0).nf->g b=E b:=fun hM b hb=>hM.to.ext b (by rw[hah0]at hb;exact hb)
 obtain⟨u0,hu1,hu2,hu3,hu4⟩:=Ml rs rs.length 0 o_
 have hb0:i7 rs B' u0=A:=by rw[<-D.ground hu1 hu2 hu4,<-D.same,hah0]
 have e0:slots n E σ=slots n E (mh rs σ' 0):=by rw[hsg0]
 rw[e0]
 refine aaI (Γ:=Env) hm (mI masks) D.Ep (VV ops rs) NN (fun S g w1=>∃ u,MS rs A' B' E A w S g w1 u) E ?_ ?_ ?_
 . refine⟨u0,hu2,fun r hr=>⟨?_,rfl⟩,fun t r ht hr hk=>absurd hk (hu4 t r (mS _) ht hr),by rw[hb0];exact h.drew.1,by rw[hb0];exact h.drew.2,fun t r he=>?_,fun t r t' r' he=>?_⟩
   . rcases hu3 with h1|⟨r', hr', hk⟩
     . have:=pM hr;omega
     . rw[hr]at hr'; cases hr'; exact hk
   . exact absurd he.up s_
   . exact absurd he.up s_
 . rintro i o v S g w1 ho hv hU ⟨u,hM⟩
   have hil:i<ops.length:=(zd.1 ho).1
   obtain⟨t,rc,hr,rfl⟩:=D.all i hil
   have hro:=(D.jX t rc hr).1
   rw[ho]at hro
   cases hro
   rw[OI hil]at hv
   cases hv
   refine⟨slots n g rc.σ,D.looks hs0 (hgE hM) hr hU,?_⟩
   have htl:=pM hr
   have hst:=D.step t rc hr
   have hsw:jI rc.A.nf rc.σ:=by
    have:=D.ET hs0 t (rC htl)
    rwa [xU hr,oL hr]at this
   simp only[D.val hr]
   -- the guard
   have htaken:gB ops.toArray n (slots n g rc.σ) rc.p.o.guard=rc.tk:=by
    have hbig:(i7 rs B' u).nf<=pY:=z7 (D.B0 u hM.le) (D.D2 hM.le)
    have hsb:jI pY rc.σ:=by
     have:=D.D2 (rC htl)
     rw[oL hr]at this
     exact hsw.mono this
    rw[hst.tk]
    exact Lp (A:=⟨(i7 rs B' u).h,pY⟩) (hM.rel.less hbig) hsb ops rc.p.o.guard
   cases htk:rc.tk with
   | false =>
    refine .inr ⟨htaken.trans htk,?_⟩
    obtain⟨hv,hA⟩:=hst.off htk
    by_cases hk:rc.p.k = .ch
    . obtain⟨rfl,hrel,hnext⟩:=hM.Lq D hr hk hU
      have hAA:iI rs A' (u+1)=iI rs A' u:=by rw[hA,oL hr]
      obtain⟨g', hM', hgg,hstab⟩:=hnext g w1 (by rw[hAA];exact hrel) (by rw[hAA];exact To.refl _ _ _)
      exact⟨g', hM', by rw[hv,AJ],hstab⟩
    . exact⟨g,⟨u,hM.keep D hr hk (fun _=>htk) hM.rel hM.to fun x _ _=>rfl⟩,by rw[hv,AJ],fun _ _ _ _=>rfl⟩
   | true =>
    have htaken:=htaken.trans htk
    cases hk:rc.p.k with
    | pure =>
     obtain⟨hnd,w2,hrun,hM'⟩:=hM.Lw D hs0 hr (.inl hk) htk hU
     exact .inl ⟨htaken,hnd,.inl ⟨_,w2,hrun,g,⟨u,hM'⟩,rfl,fun _ _ _ _=>rfl⟩⟩
    | read =>
     obtain⟨hnd,w2,hrun,hM'⟩:=hM.Lw D hs0 hr (.inr hk) htk hU
     exact .inl ⟨htaken,hnd,.inl ⟨_,w2,hrun,g,⟨u,hM'⟩,rfl,fun _ _ _ _=>rfl⟩⟩
    | fl =>
     obtain⟨hnd,w2,g', hrun,hM', hstab⟩:=hM.XE D hs0 hr hk htk hU
     exact .inl ⟨htaken,hnd,.inl ⟨_,w2,hrun,g', ⟨u,hM'⟩,rfl,hstab⟩⟩
    | ch =>
     obtain⟨rfl,hrel,hnext⟩:=hM.Lq D hr hk hU
     have hon:=hst.on htk
     unfold uT at hon
     rw[show kindOf rc.p.o.op = .ch from hk]at hon
     simp only at hon
     rw[oL hr]at hrel
     obtain⟨hnd,hob⟩:=W2 hrec hon hrel hsw (Nx:=fun v' w' => ∃ g', (∃ u,MS rs A' B' E A w (fun j=>S j||j==rc.p.i) g' w' u)/\v' = fT g' rc.v/\∀ k f,(VV ops rs)[k]? = some f->S k=true->f g' = f g) (fun E1 w2 h1 t1 hv=>by
      obtain⟨g', hM', hgg,hstab⟩:=hnext E1 w2 h1 (by rw[oL hr];exact t1)
      exact⟨g', hM', (s6 hgg rc.v hv).symm,hstab⟩)
     exact .inl ⟨htaken,hnd,hob⟩
 . rintro S g w1 hall ⟨u,hM⟩
   have hu:u=rs.length:=by
    rcases qa u rs.length with h1|h1
    . obtain⟨rc,hr⟩:=pL h1
      have:=(hM.wA rc hr).2
      rw[hall _ (D.tK hr)]at this;cases this
    . exact Nat.le_antisymm hM.le h1
   subst hu
   obtain⟨j1,j2,_⟩:=hM.join D fun t rc _ hr _ _=>hall _ (D.tK hr)
   rw[HG (zn _)]at j1 j2
   have hend:mh rs σ' rs.length=σ' := by unfold mh;rw[mB (zn _)]
   have hsw:=D.ET hs0 rs.length (zn _)
   rw[hend,HG (zn _)]at hsw
   have:=K g w1 j1 j2 hsw
   have hfr:Fr n (slots n g σ') ds=Fr n (ia (fun _=>true) 0 ops ((VV ops rs).map (· g)) (slots n E (mh rs σ' 0))) ds:=by
    refine Dv ds fun s hsn=>?_
    have h1:=D.Nh hs0 (hgE hM) rs.length (zn _) s hsn
    rw[hend]at h1
    rw[h1,kF,kF]
    congr 1
    refine qP ops 0 _ _ rfl fun j oj hj _=>⟨?_,fun _=>rfl⟩
    rw[jN]
    obtain⟨t,rc,hr,e⟩:=D.all j (zd.1 hj).1
    exact qh.2 ⟨t,rc,pM hr,hr,e⟩
   rw[<-hfr]
   exact this
end
end Go.Ex
namespace Go.Ex
open Go Go.Sx
noncomputable section
def isTrue:Option Out->Bool
 | some (.call (.bool true) _)=>true
 | _=>false
def AH.none:AH:=⟨.e,GB⟩
def w5:Env:=fun b=>⟨b,0,0⟩
theorem Vt(w:World):Rel w5 AH.none w :=
 ⟨fun b o hb=>(by cases hb),fun b b' o o' hb=>(by cases hb),fun b o hb=>(by cases hb),fun b _=>rfl,zn _⟩
theorem To.gI{E E' : Env}{A A' : AH}{w w' : World}(h:To E A w E' A' w')(hA:∀ b o,A.get b=some o->o.ro=true):gD [] w w' :=
 ⟨h.os,h.tape,h.output,h.size,fun x hx _=>h.blk x hx fun b o hb hr=>by rw[hA b o hb]at hr;cases hr⟩
end
end Go.Ex
namespace Go.Ex
open Go Go.Sx
noncomputable section
def OM:Option Out->Bool
 | some (.call (.int .i64 _) _)=>true
 | _=>false
theorem o8{P:Program}(hm:P.follows .mixedOrders=true){n:Nat}{f:FuncId}{k:IntKind}{x:Int}(h:OM (run P (yO P) n (.call f [.int k x] AH.none))=true)(w:World):CR P f #[.int k x] w (fun v w' => ∃ z,v = .int .i64 z/\gD [] w w'):=by
 unfold OM at h
 split at h
 . rename_i z A' hr
   have hc:ta P f [.int k x] AH.none (.int .i64 z) A' := Lo (HD hm) n _ _ hr
   refine CR.mono (hc w5 w (Vt w) (by simp[gT,nm])) ?_
   rintro v w' ⟨E', rfl,_,t,_⟩
   exact⟨z,rfl,t.gI fun b o hb=>by cases hb⟩
 . cases h
end
end Go.Ex
namespace Go.Sx
open Go
theorem VP(a k:Nat)(m:Nat)(h:k<=m):(a:Int).fdiv (2 ^ (min ((k:Nat):Int).toNat m))=((a / 2 ^ k:Nat):Int):=by
 rw[rD,zW h]
 rw[Int.fdiv_eq_ediv_of_nonneg _ (Int.pow_nonneg d_)]
 simp
end Go.Sx
namespace Go.Sx
open Go
section
variable {r:Option Nat} {P:Program} {ops:Array Oper} {Q:Exit->Act->World->Prop} {rest:List Oper} {n:Nat} {s:List (Nat×Value)} {ds:List Deferred} {w:World}
variable {d:Nat} {dd:Option Nat} {ty t t' e kt:TypeId} {pos:String} {af:Array Edge} {g:Option (Nat×Bool)} {x y:Operand} {a:Option Nat} {c:Bool}
theorem Rm(k:Nat)(ht:P.underlying t=some (.map kt e)):(Op.equalIn (k+1) t (.map a) (.map none)).run P w = .ok a.isNone w:=by
 cases a<;>simp[Op.equalIn,run_underlying ht]
theorem Y2(hx:ev n s x = .map a)(hy:ev n s y = .map none)(ht:P.underlying t=some (.map kt e))(hc:(!a.isNone)=c) :
 (execOp (ev n s) ⟨dd,.binOp .neq t x y t', ty,pos,af,g⟩).run P w = .ok (.value (.bool c)) w:=by
 subst hc
 simp[execOp,hx,hy,eqGuard,binOp,Op.equal,Op.maxDepth,Rm 9999 ht]
theorem Qm(hg:gB ops n s g=true)(hx:ev n s x = .map a)(hy:ev n s y = .map none)(ht:P.underlying t=some (.map kt e))(hc:(!a.isNone)=c)
 (K:WL r P ops Q rest (Fr n ((d,.bool c) :: s) ds) w):WL r P ops Q (⟨some d,.binOp .neq t x y t', ty,pos,af,g⟩ :: rest) (Fr n s ds) w:=pv hg rfl (Y2 hx hy ht hc) K
end
end Go.Sx
namespace Go.Sx
open Go
section
variable {P:Program} {w:World} {v:Value} {xs:List Int} {e:TypeId} {f:FuncId}
theorem Uq{b cap:Nat}{cur:Array Value}(hg:w.heap[b]? = some (.cells cur e (0,0)))(h4:cur.toList.take xs.length=xs.map (Value.int .i64)):Go.Sort.Holds (Value.int .i64) w b 0 xs.toArray:=by
 intro j hj
 have hj' : j<xs.length:=by simpa using hj
 have h5:(cur.toList.take xs.length)[j]? = some (Value.int .i64 xs[j]):=by rw[h4];simp[hj']
 rw[List.getElem?_take_of_lt hj']at h5
 refine⟨?_,?_⟩
 . simp only[World.cell?,hg]
   have e1:xs.toArray[j]! = xs[j]:=by simp[hj']
   rw[e1]
   simpa using h5
 . simp[World.frozen?,hg]
theorem W0(hO:Own (iA .i64 v e xs) w){i:Nat}(hi:i<xs.length)
 (hS:∀ b cap,Go.Sort.Holds (Value.int .i64) w b 0 xs.toArray->xs.length<=cap->cap<=9223372036854775807 ->
  Calls P f #[.slice (some ⟨b,0,none⟩) xs.length cap,.int .i64 (i:Int),.int .i64 ((i+1:Nat):Int)] w fun en w' => en = .returned (.slice (some ⟨b,0,none⟩) (xs.length-(i+1-i)) cap) /\
   ∃ q,w' = Go.Sort.putRow (Value.int .i64) (Go.Sort.ahead w q) b 0 (xs.take i++xs.drop (i+1)++List.replicate (i+1-i) 0).toArray) :
 CR P f #[v,.int .i64 (i:Int),.int .i64 ((i+1:Nat):Int)] w (fun r w' => gp (iA .i64 v e xs) w w' (iA .i64 r e (xs.eraseIdx i))):=by
 have hown:w.ownsRow 0 e 1 v xs.length (xs.map (Value.int .i64)):=hO.holds
 rcases hown.2 with ⟨_,h0⟩|⟨g', cap,cur,rfl,hb,hg,h1,h2,h3,h4⟩
 . omega
 . have h4' : cur.toList.take xs.length=xs.map (Value.int .i64):=by rw[zX]at h4;simpa using h4
   refine Calls.mono (hS g' cap (Uq (cap:=cap) hg h4') h1 (by simpa[maxLen]using h2)) ?_
   rintro en w' ⟨rfl,q,rfl⟩
   refine⟨_,rfl,?_⟩
   have hel:xs.eraseIdx i=xs.take i++xs.drop (i+1):=ES xs i
   have hlen:(xs.eraseIdx i).length=xs.length-(i+1-i):=by rw[List.length_eraseIdx_of_lt hi];omega
   have hgl:g' < w.heap.size:=(z8.1 hg).1
   obtain⟨d,hd⟩:∃ d,d=(xs.take i++xs.drop (i+1)++List.replicate (i+1-i) 0).toArray:=⟨_,rfl⟩
   rw[<-hd]
   have hds:d.size=xs.length:=by rw[hd];simp;omega
   have hnew:(Go.Sort.putRow (Value.int .i64) (Go.Sort.ahead w q) g' 0 d).heap[g']? = some (.cells (Go.Sort.putCells (Value.int .i64) 0 d cur) e (0,0)):=by
    simp only[Go.Sort.putRow,Go.Sort.mapBlock,Go.Sort.ahead,Fz,if_pos,hg]
    rfl
   have hold:∀ b,b≠g' -> (Go.Sort.putRow (Value.int .i64) (Go.Sort.ahead w q) g' 0 d).heap[b]? = w.heap[b]? := by
    intro b hb
    simp only[Go.Sort.putRow,Go.Sort.mapBlock,Go.Sort.ahead,Fz]
    rw[if_neg (fun e=>hb e.symm)]
   have hsz:(Go.Sort.putRow (Value.int .i64) (Go.Sort.ahead w q) g' 0 d).heap.size=w.heap.size:=by simp[Go.Sort.putRow,Go.Sort.mapBlock,Go.Sort.ahead]
   have hpl:(Go.Sort.putCells (Value.int .i64) 0 d cur).size=cur.size:=by simp[Go.Sort.putCells]
   have htk:(Go.Sort.putCells (Value.int .i64) 0 d cur).toList.take (xs.eraseIdx i).length=(xs.eraseIdx i).map (Value.int .i64):=by
    apply nq
    intro j
    rw[pZ,kJ]
    split
    . rename_i hj
      have hj2:j<xs.length:=by omega
      have hjc:j<cur.size:=by
       have:xs.length<=cur.size:=by rw[h3];omega
       omega
      have hdj:d[j]! = (xs.eraseIdx i)[j]:=by
       have hd2:d=(xs.eraseIdx i++List.replicate (i+1-i) 0).toArray:=by rw[hd,hel]
       rw[hd2]
       have hjl:j<(xs.eraseIdx i++List.replicate (i+1-i) 0).toArray.size:=by simp only[List.size_toArray,zw];omega
       rw[getElem!_pos _ j hjl,List.getElem_toArray,List.getElem_append_left hj]
      simp only[Go.Sort.putCells,rM,Array.getElem?_mapIdx,mS,true_and,jN,wS]
      rw[zM hjc]
      simp only[nu]
      rw[if_pos (by rw[hds];exact hj2),hdj]
      simp[hj]
    . rename_i hj
      rw[mB o_]
      rfl
   refine⟨?_,⟨rfl,rfl,rfl,Nat.le_of_eq hsz.symm,fun b hb hx=>hold b (fun e=>hx (by simp[row,Value.ownBlock,e]))⟩,fun b hb' => .inl (by simpa[row,Value.ownBlock]using hb'),by simp[row,Value.ownBlock],fun b hb' => ?_⟩
   . refine⟨s_,.inr ⟨g', cap,_,by rw[hlen],hb,hnew,o_,h2,by rw[hpl];exact h3,?_⟩⟩
     rw[zX]
     simpa using htk
   . simp[row,Value.ownBlock]at hb'
     subst hb'
     rw[hsz]
     exact hgl
end
end Go.Sx
namespace Go.Sx
open Go
section
variable {P:Program} {w:World} {f:FuncId} {γ:Type} {b:Nat} {k:IntKind} {enc:γ->Value} {m:List (Int×γ)}
theorem Tu(hO:Own (gR b k enc m) w)(hS:∀ es clock,w.heap[b]? = some (.map es clock)->Calls P f #[.map (some b)] w fun e w' => e = .returned (.map (some w.heap.size))/\w' = w.alloc (.map es clock)) :
 CR P f #[.map (some b)] w (fun r w' => ∃ b2,r = .map (some b2)/\gp (gR b k enc m) w w' (gG [gR b k enc m,gR b2 k enc m])):=by
 obtain⟨es,clk,h1,h2⟩:=hO.holds
 have hst:=St.IB hO
 refine Calls.mono (hS _ _ h1) ?_
 rintro e w' ⟨rfl,rfl⟩
 refine⟨_,rfl,w.heap.size,rfl,?_⟩
 have hst2:St [(w,(gR b k enc m).gU)] (gR w.heap.size k enc m :: [gR b k enc m]) (w.alloc (.map (es.map (lg k)).toArray clk)) :=
  hst.qX (gD.alloc [] w _) (fun c hc=>by simp[gR]at hc;omega) (by simp[gR]) (fun c hc=>by simp[gR]at hc;simp;omega) ⟨es,clk,heap_alloc_new w _,h2⟩
 exact St.Oi (hst2.perm (List.Perm.swap _ _ _)) zg
end
end Go.Sx
namespace Go.Sx
open Go
section
variable {γ:Type}
def lq(b r:Nat)(k:IntKind)(enc:γ->Value)(m todo:List (Int×γ))(cur:Option (Int×γ)):gi where
 gU:=[b,r]
 holds w:=∃ (es:List (Int×Value×Nat)) (clk:Nat) (ss:Array Nat) (since c0:Nat),w.heap[b]? = some (.map (es.map (lg k)).toArray clk)/\es.map (fun e=>(e.1,e.2.1))=m.map (fun p=>(p.1,enc p.2))/\(es.map (fun e=>e.2.2)).Nodup/\(∀ e∈es,e.2.2<clk) /\
  w.heap[r]? = some (.mapIter (some b) since ss c0)/\since<=c0/\since<=clk/\(∀ e∈es,e.2.2<since) /\
  (es.filter fun e => !ss.contains e.2.2).map (fun e=>(e.1,e.2.1))=todo.map (fun p=>(p.1,enc p.2)) /\
  ∀ p,cur=some p->c0=clk/\∃ (ss0:Array Nat) (e:Int×Value×Nat),ss=ss0.push e.2.2/\e∈es/\e.1=p.1/\e.2.1=enc p.2
 loc w w' h hh:=by
  obtain⟨es,clk,ss,since,c0,h1,h2,h3,h4,h5,h6⟩:=hh
  exact⟨es,clk,ss,since,c0,(h b s_).trans h1,h2,h3,h4,(h r s_).trans h5,h6⟩
theorem SM{es:List (Int×Value×Nat)}{p:Nat->Bool}{e:Int×Value×Nat}(hn:(es.map (fun e=>e.2.2)).Nodup)(he:e∈es)(hp:p e.2.2=true) :
 ∃ j,(es.filter fun x=>p x.2.2)[j]? = some e/\(es.filter fun x=>p x.2.2 && !(x.2.2==e.2.2))=(es.filter fun x=>p x.2.2).eraseIdx j:=by
 induction es with
 | nil=>simp at he
 | cons x es ih =>
  simp only[z1,zy]at hn
  rcases zb.1 he with rfl|he
  . refine⟨0,by simp[hp],?_⟩
    rw[vh,if_neg s_,vh,if_pos hp]
    simp only[List.eraseIdx_cons_zero]
    refine FC fun y hy=>?_
    have:y.2.2≠e.2.2:=fun h=>hn.1 (by rw[<-h];exact jW.2 ⟨y,hy,rfl⟩)
    simp[this]
  . obtain⟨j,h1,h2⟩:=ih hn.2 he
    have hne:x.2.2≠e.2.2:=fun h=>hn.1 (by rw[h];exact jW.2 ⟨e,he,rfl⟩)
    by_cases hx:p x.2.2=true
    . refine⟨j+1,by rw[vh,if_pos hx];simpa using h1,?_⟩
      rw[vh,if_pos (by simp[hx,hne]),vh,if_pos hx,List.eraseIdx_cons_succ,h2]
    . refine⟨j,by rw[vh,if_neg hx];exact h1,?_⟩
      rw[vh,if_neg (by simp[hx]),vh,if_neg hx,h2]
end
section
variable {γ:Type} {enc:γ->Value}
variable {r:Option Nat} {P:Program} {ops:Array Oper} {Q:Exit->Act->World->Prop} {rest l:List Oper} {n:Nat} {s s0:List (Nat×Value)} {ds:List Deferred} {w w0:World} {Nx:Value->World->Prop}
variable {d:Nat} {dd:Option Nat} {ty:TypeId} {pos:String} {af:Array Edge} {g:Option (Nat×Bool)} {x y m:Operand} {bs:List (World×List Nat)} {L L' : List gi} {t e kt:TypeId} {b rb:Nat} {k k' : IntKind} {mm todo:List (Int×γ)} {a:Int} {z v:Value} {c:γ} {cur:Option (Int×γ)}
theorem rgM(i:Nat)(hg:gB ops n s g=true)(hm:ev n s m = .map (some b))(ht:P.underlying t=some (.map kt e))(hst:St bs L w)(hL:L[i]? = some (gR b k enc mm))
 (K:∀ rb w', St bs (L.set i (lq b rb k enc mm mm none)) w' -> WL r P ops Q rest (Fr n ((d,.pointer (some ⟨rb,0,none⟩)) :: s) ds) w'):WL r P ops Q (⟨some d,.range t m,ty,pos,af,g⟩ :: rest) (Fr n s ds) w:=by
 obtain⟨es,clk,h1,h2,h3,h4⟩:(gR b k enc mm).holds w:=hst.own _ (zh hL)
 have hlt:=Hx hst hL
 refine pv (v:=.pointer (some ⟨w.heap.size,0,none⟩)) (w' := w.alloc (.mapIter (some b) clk #[] clk)) hg rfl ?_ (K _ _ ?_)
 . simp only[execOp,hm,zj,run_range_map w t kt e b _ clk ht h1,ze,zm]
 . refine hst.iE hL (gD.alloc _ w _) (fun c hc=>?_) ?_ (fun c hc=>?_) ?_
   . simp[lq]at hc
     rcases hc with rfl|rfl
     . exact .inl (by simp[gR])
     . exact .inr (zn _)
   . simp[lq];omega
   . simp[lq]at hc
     simp only[World.alloc,Array.size_push]
     omega
   . exact⟨es,clk,#[],clk,clk,(heap_alloc_old w _ hlt).trans h1,h2,h3,h4,heap_alloc_new w _,zn _,zn _,h4,by rw[List.filter_eq_self.2 s_];exact h2,fun p hp=>by cases hp⟩
theorem St.VQ{i:Nat}(hst:St bs L w)(hL:L[i]? = some (lq b rb k enc mm todo cur)):St bs (L.set i (gR b k enc mm)) w:=by
 obtain⟨es,clk,ss,since,c0,h1,h2,h3,h4,_⟩:(lq b rb k enc mm todo cur).holds w:=hst.own _ (zh hL)
 refine hst.iE hL (gD.refl _ w) (fun c hc=>.inl ?_) (by simp[gR]) (fun c hc=>?_) ⟨es,clk,h1,h2,h3,h4⟩
 . simp[gR]at hc
   simp[lq,hc]
 . refine hst.lt c (qd hL ?_)
   simp[gR]at hc
   simp[lq,hc]
structure Nxt (P:Program) (bs:List (World×List Nat)) (L:List gi) (i b rb:Nat) (k:IntKind) (enc:γ->Value) (mm todo todo2:List (Int×γ)) (p:Int×γ) (w w' : World):Prop where
 run:∀ ty,(Instr.next (.pointer (some ⟨rb,0,none⟩)) false ty).run P w = .ok (.tuple #[.bool true,.int k p.1,enc p.2]) w'
 st:St bs (L.set i (lq b rb k enc mm todo2 (some p))) w'
 perm:todo.Perm (p :: todo2)
theorem Uh(P:Program){i:Nat}(hst:St bs L w)(hL:L[i]? = some (lq b rb k enc mm todo cur)) :
 (todo=[]/\∀ ty,(Instr.next (.pointer (some ⟨rb,0,none⟩)) false ty).run P w = .ok (.tuple #[.bool false]) w)\/∃ p todo2 w', Nxt P bs L i b rb k enc mm todo todo2 p w w' := by
 obtain⟨es,clk,ss,since,c0,h1,h2,h3,h4,h5,h6,h6', h7,h8,h9⟩:(lq b rb k enc mm todo cur).holds w:=hst.own _ (zh hL)
 have hb:b<w.heap.size:=hst.lt b (qd hL (by simp[lq]))
 have hrb:rb<w.heap.size:=hst.lt rb (qd hL (by simp[lq]))
 have hne:b≠rb:=by
  rintro rfl
  rw[h1]at h5
  cases h5
 have hold:∀ x∈(es.map (lg k)).toArray.toList,x.born<since:=by
  intro x hx
  simp at hx
  obtain⟨a,v,q,hm,rfl⟩:=hx
  exact h7 _ hm
 have hlo:(leftOf (es.map (lg k)).toArray ss).toList=(es.filter fun e => !ss.contains e.2.2).map (lg k):=by
  unfold leftOf
  simp only[Array.toList_filter,List.filter_map]
  rfl
 by_cases h0:todo=[]
 . left
   subst h0
   refine⟨rfl,fun ty=>?_⟩
   have hz:(leftOf (es.map (lg k)).toArray ss).size=0:=by
    rw[<-sL,hlo,zr]
    have:=congrArg List.length h8
    simpa using this
   rcases run_next_at (P:=P) w ty rb b since c0 ss _ clk h5 h1 hold h6 with ⟨_,h⟩|⟨e,he,_⟩
   . exact h
   . rw[Array.eq_empty_of_size_eq_zero hz]at he
     simp at he
 . right
   have hty:∃ e∈(leftOf (es.map (lg k)).toArray ss).toList,∃ w1:World,(w1=w\/w1=w.drew)/\∀ ty,(Instr.next (.pointer (some ⟨rb,0,none⟩)) false ty).run P w = .ok (.tuple #[.bool true,e.key,e.val]) (Go.ChangeMaps.setBlock w1 rb (.mapIter (some b) since (ss.push e.born) clk)):=by
    rcases run_next_at (P:=P) w 0 rb b since c0 ss _ clk h5 h1 hold h6 with ⟨hz,_⟩|⟨e,he,w1,hw,hr⟩
    . exfalso
      rw[<-sL,hlo,zr]at hz
      have h10:=congrArg List.length h8
      rw[zr,zr,hz]at h10
      exact h0 (Jn.1 h10.symm)
    . exact⟨e,he,w1,hw,fun ty=>hr⟩
   obtain⟨e9,he9,w1,hw,hrun⟩:=hty
   rw[hlo]at he9
   obtain⟨e,he,rfl⟩:=jW.1 he9
   obtain⟨hem,hes⟩:=Fq.1 he
   obtain⟨j,hj,hjf⟩:=SM (p:=fun q => !ss.contains q) h3 hem hes
   have hjl:=(zd.1 hj).1
   have hlen:=congrArg List.length h8
   rw[zr,zr]at hlen
   have hp:todo[j]? = some (todo[j]'o_):=zk o_
   generalize (todo[j]'o_)=p at hp
   have hpe:(e.1,e.2.1)=(p.1,enc p.2):=by
    have h10:=congrArg (fun l=>l[j]?) h8
    simp only[kJ,hj,hp,nu]at h10
    exact Option.some.inj h10
   have hp1:e.1=p.1:=congrArg Prod.fst hpe
   have hp2:e.2.1=enc p.2:=congrArg Prod.snd hpe
   have hw1:w1.heap=w.heap:=by rcases hw with rfl|rfl<;>rfl
   have hc1:gD [] w w1:=by
    rcases hw with rfl|rfl
    . exact gD.refl _ _
    . exact gD.drew _ _
   have hc2:gD (lq b rb k enc mm todo cur).gU w (Go.ChangeMaps.setBlock w1 rb (.mapIter (some b) since (ss.push e.2.2) clk)) :=
    (hc1.mono s_).trans ((Xz (b:=rb) w1 _).mono (by simp[lq]))
   refine⟨p,todo.eraseIdx j,Go.ChangeMaps.setBlock w1 rb (.mapIter (some b) since (ss.push e.2.2) clk),⟨fun ty=>?_,?_,?_⟩⟩
   . rw[hrun ty]
     simp only[hp1,hp2]
   . refine hst.iE hL hc2 (fun c hc=>.inl hc) ?_ (fun c hc=>?_) ?_
     . simp[lq,hne]
     . exact z6 (hst.lt c (qd hL hc)) hc2.size
     . refine⟨es,clk,ss.push e.2.2,since,clk,?_,h2,h3,h4,?_,h6', h6', h7,?_,fun q hq=>?_⟩
       . show (w1.heap.setIfInBounds rb _)[b]? = _
         rw[hw1,Array.getElem?_setIfInBounds_ne (Ne.symm hne)]
         exact h1
       . show (w1.heap.setIfInBounds rb _)[rb]? = _
         rw[hw1]
         simp[hrb]
       . have:(es.filter fun x => !(ss.push e.2.2).contains x.2.2)=(es.filter fun x => !ss.contains x.2.2 && !(x.2.2==e.2.2)):=by
          refine FC fun x hx=>?_
          rw[Array.contains_push,Bool.not_or]
         rw[this,hjf,<-Cs,h8,Cs]
       . cases hq
         exact⟨rfl,ss,e,rfl,hem,hp1,hp2⟩
   . have h10:=(zd.1 hp)
     obtain⟨h11,h12⟩:=h10
     have h13:todo=todo.take j++p :: todo.drop (j+1):=by
      rw[<-h12,<-wY h11,vk]
     rw[ES]
     exact(List.Perm.of_eq h13).trans u7
theorem QY{w' : World}{u:Value}(hg:gB ops n s g=true)(hx:ev n s x=v)(h:(Instr.next v false ty).run P w = .ok u w')(K:WL r P ops Q rest (Fr n ((d,u) :: s) ds) w'):WL r P ops Q (⟨some d,.next x false,ty,pos,af,g⟩ :: rest) (Fr n s ds) w :=
 pv hg rfl (by simp only[execOp,hx,zj,h,ze,zm]) K
theorem enM{p:Int×γ}(i:Nat)(hg:gB ops n s g=true)(hx:ev n s x = .pointer (some ⟨rb,0,none⟩))(hst:St bs L w)(hL:L[i]? = some (lq b rb k enc mm todo (some p)))
 (K:WL r P ops Q rest (Fr n ((d,.tuple #[.int k p.1,enc p.2]) :: s) ds) w):WL r P ops Q (⟨some d,.entry x,ty,pos,af,g⟩ :: rest) (Fr n s ds) w:=by
 obtain⟨es,clk,ss,since,c0,h1,h2,h3,h4,h5,h6,h6', h7,h8,h9⟩:(lq b rb k enc mm todo (some p)).holds w:=hst.own _ (zh hL)
 obtain⟨rfl,ss0,e,rfl,hem,hp1,hp2⟩:=h9 p rfl
 have he:=run_entry_at (P:=P) w rb b since ss0 (es.map (lg k)).toArray c0 (lg k e) h5 h1 (by simp only[jW];exact⟨e,hem,rfl⟩) (by rw[Af];exact h3)
 refine pv hg rfl (by simp only[execOp,hx,zj,he,ze,zm,hp1,hp2]) K
end
end Go.Sx
namespace Go.Sx
open Go
theorem U9{γ:Type}{m m2:List (Int×γ)}{a:Int}:ij (m++m2) a=if ij m a=none then ij m2 a else ij m a:=by
 induction m with
 | nil=>simp[ij]
 | cons p m ih =>
  obtain⟨b,y⟩:=p
  simp only[o6,ij]
  split
  . simp
  . exact ih
structure oD (im0 dn todo dn2 im2:IM):Prop where
 perm:(dn++todo).Perm im0
 same:dn2.map (fun p=>(p.1,p.2.2))=dn.map (fun p=>(p.1,p.2.2))
 keys:(im2.map Prod.fst).Nodup
 get:∀ a,ij im2 a=if ij dn2 a=none then ij im0 a else ij dn2 a
theorem oD.start{im0:IM}(h:(im0.map Prod.fst).Nodup):oD im0 [] im0 [] im0:=⟨List.Perm.refl _,rfl,h,fun a=>by simp[ij]⟩
theorem oD.N8{im0 dn todo dn2 im2:IM}(h:oD im0 dn todo dn2 im2):dn2.map Prod.fst=dn.map Prod.fst:=by
 have:=congrArg (List.map Prod.fst) h.same
 rw[Af,Af]at this
 exact this
theorem oD.nodup{im0 dn todo dn2 im2:IM}(h:oD im0 dn todo dn2 im2)(h0:(im0.map Prod.fst).Nodup):((dn++todo).map Prod.fst).Nodup:=((h.perm.map Prod.fst).nodup_iff).2 h0
theorem oD.next{im0 dn todo td2 dn2 im2:IM}{p:Int×(Value×List Nat)}(h:oD im0 dn todo dn2 im2)(h0:(im0.map Prod.fst).Nodup)(hp:todo.Perm (p :: td2))(v:Value) :
 oD im0 (dn++[p]) td2 (dn2++[(p.1,(v,p.2.2))]) (gm im2 p.1 (v,p.2.2)):=by
 have hpe:(dn++[p]++td2).Perm (dn++todo):=by
  rw[mT]
  exact(hp.symm.append_left dn)
 have hn:=h.nodup h0
 have hni:ij dn2 p.1=none:=by
  rw[CZ,h.N8]
  intro hm
  rw[qL,zu]at hn
  exact hn.2.2 _ hm p.1 (jW.2 ⟨p,hp.mem_iff.2 s_,rfl⟩) rfl
 refine⟨hpe.trans h.perm,?_,CJ h.keys _ _,fun a=>?_⟩
 . rw[qL,qL,h.same]
   rfl
 . rw[xB,U9,h.get]
   by_cases ha:p.1=a
   . subst ha
     simp[hni,ij]
   . simp only[if_neg ha,ij]
     split<;>simp_all
theorem oD.at{im0 dn todo td2 dn2 im2:IM}{p:Int×(Value×List Nat)}(h:oD im0 dn todo dn2 im2)(h0:(im0.map Prod.fst).Nodup)(hp:todo.Perm (p :: td2)):(fU im0 p.1).2=p.2.2:=by
 have h1:(p.1,p.2)∈im0:=h.perm.mem_iff.1 (vE _ (hp.mem_iff.2 s_))
 unfold fU
 rw[KD h0 h1]
 rfl
theorem Kw{γ:Type}{m m2:List (Int×γ)}(hp:m.Perm m2)(h:(m.map Prod.fst).Nodup)(a:Int):ij m a=ij m2 a:=by
 have h2:(m2.map Prod.fst).Nodup:=((hp.map Prod.fst).nodup_iff).1 h
 cases hm:ij m a with
 | some x=>exact(KD h2 (hp.mem_iff.1 (MV hm))).symm
 | none =>
  rw[CZ]at hm
  symm
  rw[CZ]
  intro h9
  exact hm (((hp.map Prod.fst).mem_iff).2 h9)
theorem Kq{γ:Type}:∀ {m m2:List (Int×γ)},(m.map Prod.fst).Nodup->(m2.map Prod.fst).Nodup->(∀ a,ij m a=ij m2 a)->m.Perm m2
 | [],m2,_,_,h=>by
  cases m2 with
  | nil=>exact List.Perm.refl _
  | cons p m2=>have:=h p.1;obtain⟨b,y⟩:=p;simp[ij]at this
 | p :: m,m2,h1,h2,h=>by
  obtain⟨b,y⟩:=p
  have hb:ij m2 b=some y:=by rw[<-h b];simp[ij]
  have hq:=LP hb
  have h3:=KR h2 b
  simp only[z1,zy]at h1
  refine(List.Perm.cons _ (Kq h1.2 h3 fun a=>?_)).trans hq.symm
  rw[GF h2]
  have h4:=h a
  simp only[ij]at h4
  split
  . rename_i e
    subst e
    exact CZ.2 h1.1
  . rename_i e
    rw[if_neg e]at h4
    exact h4
theorem LD{dn dn2:IM}(h:dn2.map (fun p=>(p.1,p.2.2))=dn.map (fun p=>(p.1,p.2.2)))(a:Int):(ij dn2 a=none↔ij dn a=none)/\(fU dn2 a).2=(fU dn a).2:=by
 induction dn generalizing dn2 with
 | nil =>
  cases dn2 with
  | nil=>exact⟨Iff.rfl,rfl⟩
  | cons q dn2=>simp at h
 | cons p dn ih =>
  cases dn2 with
  | nil=>simp at h
  | cons q dn2 =>
   simp only[z1,List.cons.injEq,Prod.mk.injEq]at h
   obtain⟨⟨e1,e2⟩,e3⟩:=h
   obtain⟨b,v,xs⟩:=p
   obtain⟨b2,v2,xs2⟩:=q
   simp only at e1 e2
   subst e1 e2
   have:=ih e3
   unfold fU at this ⊢
   simp only[ij]
   split
   . simp
   . exact this
theorem oD.fin{im0 dn todo dn2 im2:IM}(h:oD im0 dn todo dn2 im2)(h0:(im0.map Prod.fst).Nodup)(ht:todo=[]) :
 dn.Perm im0/\dn2.Perm im2/\(im2.map Prod.fst).Nodup/\∀ a,(ij im2 a=none↔ij im0 a=none)/\(fU im2 a).2=(fU im0 a).2:=by
 subst ht
 have hp:dn.Perm im0:=by simpa using h.perm
 have hdn:(dn.map Prod.fst).Nodup:=((hp.map Prod.fst).nodup_iff).2 h0
 have hd2:(dn2.map Prod.fst).Nodup:=by rw[h.N8];exact hdn
 have hg:∀ a,ij dn2 a=ij im2 a:=by
  intro a
  rw[h.get]
  split
  . rename_i hn
    rw[hn]
    have h1:=((LD h.same a).1).1 hn
    rw[Kw hp hdn a]at h1
    exact h1.symm
  . rfl
 refine⟨hp,Kq hd2 h.keys hg,h.keys,fun a=>?_⟩
 have h1:=LD h.same a
 have h2:=Kw hp hdn a
 have h3:=hg a
 unfold fU at h1 ⊢
 rw[<-h3,<-h2]
 exact h1
theorem Dw{v:Value}{e:TypeId}{cf:Nat->List Value}(hcf:∀ x:Nat,cf x=[.int .i64 (x:Int)])(ds:List Nat):fV cf v e 1 ds=iA .i64 v e (gx ds):=by
 have h1:ds.flatMap cf=(gx ds).map (.int .i64):=by
  unfold gx
  induction ds with
  | nil=>rfl
  | cons d ds ih=>simp[hcf,ih]
 show row v e 1 ds.length _=row v e 1 (gx ds).length _
 rw[h1,show (gx ds).length=ds.length by simp[gx]]
theorem St.aaK{bs:List (World×List Nat)}{L:List gi}{w:World}{v:Value}{e:TypeId}{ds:List Nat}{cf:Nat->List Value}(hcf:∀ x:Nat,cf x=[.int .i64 (x:Int)])(h:St bs (iA .i64 v e (gx ds) :: L) w):St bs (fV cf v e 1 ds :: L) w:=by
 rw[Dw hcf]
 exact h
theorem St.OT {bs:List (World×List Nat)}{L:List gi}{w:World}{v:Value}{e:TypeId}{ds:List Nat}{cf:Nat->List Value}(hcf:∀ x:Nat,cf x=[.int .i64 (x:Int)])(h:St bs (fV cf v e 1 ds :: L) w):St bs (iA .i64 v e (gx ds) :: L) w:=by
 rw[Dw hcf]at h
 exact h
end Go.Sx
namespace Go.Sx
open Go
theorem fW.ok.copy{fQ fN:Nat}{s:fW}(h:s.ok fQ fN){aw2:AW}(ha:∃ qs,aw2.A={ s.A with ps:=qs })(haok:aw2.A.ok){t2:TW}(hto:t2.ok)(htm:∀ x,t2.mem x↔s.t.mem x)(htn:t2.A.n=s.t.A.n){im2:IM}(hk:(im2.map Prod.fst).Nodup)
 (hg:∀ a,(ij im2 a=none↔ij s.im a=none)/\(fU im2 a).2=(fU s.im a).2) (iN tb ab mb:Nat) (lv:Value) :
 fW.ok fQ fN ⟨iN,tb,ab,mb,lv,s.last,aw2,t2,s.live,im2⟩/\∀ x,fW.has ⟨iN,tb,ab,mb,lv,s.last,aw2,t2,s.live,im2⟩ x↔s.has x:=by
 obtain⟨qs,ha⟩:=ha
 have hin:∀ j,aw2.A.ig j↔s.A.ig j:=fun j=>by rw[ha];exact Iff.rfl
 have hn:aw2.A.n=s.A.n:=by rw[ha]
 have hb:aw2.A.begun=s.A.begun:=by rw[ha]
 refine⟨⟨hn.trans h.n,htn.trans h.tn,h.en,h.vn,haok,hto,h.ll.trans hb.symm,fun i hi=>h.slot i ((hin i).1 hi),h.JO,fun i hi=>h.ne i ((hin i).1 hi),fun id=>?_,hk,fun id i=>?_,fun id=>?_,fun id=>?_,
  fun i hi=>h.seq i ((hin i).1 hi),fun i j hi hj=>h.El i j ((hin i).1 hi) ((hin j).1 hj),h.sv⟩,fun x=>?_⟩
 . show t2.mem id↔∃ i,aw2.A.ig i/\_
   rw[htm,h.mem]
   exact⟨fun⟨i,a,b⟩=>⟨i,(hin i).2 a,b⟩,fun⟨i,a,b⟩=>⟨i,(hin i).1 a,b⟩⟩
 . show i∈(fU im2 id).2↔aw2.A.ig i/\_
   rw[(hg id).2,hin]
   exact h.inc id i
 . show ((fU im2 id).2).Nodup
   rw[(hg id).2]
   exact h.nd id
 . show ij im2 id=none↔(fU im2 id).2=[]
   rw[(hg id).1,(hg id).2]
   exact h.empty id
 . exact⟨fun⟨i,a,b⟩=>⟨i,(hin i).1 a,b⟩,fun⟨i,a,b⟩=>⟨i,(hin i).2 a,b⟩⟩
end Go.Sx
namespace Go.Sx
open Go
section
variable {α:Type} [Inhabited α] {cf:α->List Value} {k:Nat}
theorem KI(hl:∀ x:α,(cf x).length=k)(hk:0<k)(d:Array α):(Go.Sort.flatK cf k d).toList=d.toList.flatMap cf:=by
 apply nq
 intro t
 by_cases ht:t<d.size*k
 . have h1:t / k<d.size:=(Jy hk).2 ht
   have h2:t%k<k:=tZ _ hk
   have h3:d.toList[t / k]? = some d[t / k]:=by simp[h1]
   have h4:(cf d[t / k])[t%k]? = some ((cf d[t / k])[t%k]'(by rw[hl];exact h2)):=zk (by rw[hl];exact h2)
   have h5:=vT hl d.toList (t / k) (t%k) _ _ h3 h4
   have h6:t / k*k+t%k=t:=Aq t k
   rw[h6]at h5
   rw[h5]
   have h7:=Go.Sort.get_flatK cf k d t ht
   have h8:t<(Go.Sort.flatK cf k d).size:=by simpa using ht
   rw[rM,zM h8]
   rw[getElem!_pos _ t h8]at h7
   rw[h7,getElem!_pos d _ h1,getElem!_pos _ _ (by rw[hl];exact h2)]
 . rw[mB (by simp;omega),mB (by rw[qU hl];simp;omega)]
variable {P:Program} {w:World} {v:Value} {xs:List α} {e:TypeId} {f:FuncId} {fv:Value} {lt:α->α->Bool}
theorem S6{b:Nat}{cur:Array Value}(hl:∀ x:α,(cf x).length=k)(hk:0<k)(hg:w.heap[b]? = some (.cells cur e (0,0)))(h4:cur.toList.take (xs.length*k)=xs.flatMap cf):Go.Sort.HoldsK cf k w b 0 xs.toArray:=by
 intro j hj
 have hj' : j<xs.length*k:=by simpa using hj
 have h5:(cur.toList.take (xs.length*k))[j]? = (Go.Sort.flatK cf k xs.toArray).toList[j]? := by rw[h4,KI hl hk]
 rw[List.getElem?_take_of_lt hj', rM,rM,zM hj]at h5
 refine⟨?_,?_⟩
 . simp only[World.cell?,hg]
   rw[getElem!_pos _ j hj]
   simpa using h5
 . simp[World.frozen?,hg]
theorem US(hl:∀ x:α,(cf x).length=k)(hk:0<k)(hO:Own (fV cf v e k xs) w)(hlen:xs.length<4611686018427387904)
 (h0:Calls P f #[.slice none 0 0,fv] w fun e w' => e = .returned (.tuple #[])/\w' = w)
 (hS:∀ blk cap (d:Array α),Go.Sort.HoldsK cf k w blk 0 d->blk<w.heap.size->d.size<4611686018427387904->Calls P f #[.slice (some ⟨blk,0,none⟩) d.size cap,fv] w fun e w' =>
  e = .returned (.tuple #[])/\∃ d' n os,Go.Sort.PermIn 0 d.size d d' /\ Go.Sort.SortedIn lt 0 d.size d' /\ w' = Go.Proofs.sortWorldK cf k w blk 0 n d' os) :
 CR P f #[v,fv] w (fun r w' => r = .tuple #[]/\∃ ys:List α,ys.Perm xs/\ys.Pairwise (fun a b=>lt b a=false)/\gp (fV cf v e k xs) w w' (fV cf v e k ys)):=by
 have hown:w.ownsRow 0 e k v xs.length (xs.flatMap cf):=hO.holds
 rcases hown.2 with ⟨rfl,h1⟩|⟨g', cap,cur,rfl,hb,hg,h1,h2,h3,h4⟩
 . obtain rfl:xs=[]:=Jn.1 h1
   refine Calls.mono h0 ?_
   rintro en w' ⟨rfl,rfl⟩
   exact⟨_,rfl,rfl,[],List.Perm.refl _,List.Pairwise.nil,gp.refl hO⟩
 . have hgl:g' < w.heap.size:=(z8.1 hg).1
   have hs:=hS g' cap xs.toArray (S6 hl hk hg h4) hgl (by simpa using hlen)
   rw[List.size_toArray]at hs
   refine Calls.mono hs ?_
   rintro en w' ⟨rfl,d', n,os,hp,hso,rfl⟩
   have hds:d'.size=xs.length:=by simpa using hp.1
   have hperm:d'.toList.Perm xs:=by
    have h5:=hp.2.2
    have e1:d'.extract 0 xs.length=d' := by rw[<-hds];exact Array.extract_size
    have e2:xs.toArray.extract 0 xs.length=xs.toArray:=by rw[show xs.length=xs.toArray.size by simp];exact Array.extract_size
    rwa [e1,e2]at h5
   have hnew:(Go.Proofs.sortWorldK cf k w g' 0 n d' os).heap[g']? = some (.cells (Go.Sort.putCells id 0 (Go.Sort.flatK cf k d') cur) e (0,0)):=by
    simp only[Go.Proofs.sortWorldK,Go.Sort.grow,Go.Sort.putRowK,Go.Sort.putRow,Go.Sort.mapBlock,Go.Sort.ahead]
    rw[Array.getElem?_append_left (by simpa using hgl),Fz,if_pos rfl,hg]
    rfl
   have hold:∀ b,b<w.heap.size->b≠g' -> (Go.Proofs.sortWorldK cf k w g' 0 n d' os).heap[b]? = w.heap[b]? := by
    intro b hb hne
    simp only[Go.Proofs.sortWorldK,Go.Sort.grow,Go.Sort.putRowK,Go.Sort.putRow,Go.Sort.mapBlock,Go.Sort.ahead]
    rw[Array.getElem?_append_left (by simpa using hb),Fz,if_neg (fun e=>hne e.symm)]
   have hsz:w.heap.size<=(Go.Proofs.sortWorldK cf k w g' 0 n d' os).heap.size:=by simp[Go.Proofs.sortWorldK,Go.Sort.grow,Go.Sort.putRowK,Go.Sort.putRow,Go.Sort.mapBlock,Go.Sort.ahead]
   have hpl:(Go.Sort.putCells id 0 (Go.Sort.flatK cf k d') cur).size=cur.size:=by simp[Go.Sort.putCells]
   have htk:(Go.Sort.putCells id 0 (Go.Sort.flatK cf k d') cur).toList.take (d'.toList.length*k)=d'.toList.flatMap cf:=by
    rw[<-KI hl hk]
    have hfs:(Go.Sort.flatK cf k d').size=xs.length*k:=by simp[hds]
    have hle:xs.length*k<=cur.size:=by rw[h3];exact uZ _ h1
    apply nq
    intro j
    rw[pZ,sL,hds]
    split
    . rename_i hj
      have hjc:j<cur.size:=by omega
      have hjf:j<(Go.Sort.flatK cf k d').size:=by omega
      simp only[Go.Sort.putCells,rM,Array.getElem?_mapIdx,mS,true_and,jN,wS]
      rw[zM hjc,zM hjf]
      simp only[nu]
      rw[if_pos hjf,getElem!_pos _ j hjf]
      rfl
    . rename_i hj
      rw[mB (by simp;rw[hds];omega)]
   refine⟨_,rfl,rfl,d'.toList,hperm,?_,⟨?_,⟨rfl,rfl,rfl,hsz,fun b hb hx=>hold b hb (fun e=>hx (by simp[row,Value.ownBlock,e]))⟩,fun b hb' => .inl (by simpa[row,Value.ownBlock]using hb'),by simp[row,Value.ownBlock],fun b hb' => ?_⟩⟩
   . rw[wU]
     intro i j hi hj hij
     have h5:=hso i j (mS _) hij (by simp at hj ⊢;omega)
     simp only[sL]at hi hj
     rw[getElem!_pos _ i hi,getElem!_pos _ j hj]at h5
     simpa using h5
   . refine⟨by rw[qU hl],.inr ⟨g', cap,_,by simp[hds],hb,hnew,by simp[hds];exact h1,h2,by rw[hpl];exact h3,htk⟩⟩
   . simp[row,Value.ownBlock]at hb'
     subst hb'
     omega
end
end Go.Sx
namespace Go.Ex
open Go Go.Sx
noncomputable section
def AH.kN:List (Nat×List Value)->AH
 | []=>AH.none
 | (g,cs) :: l=>(AH.kN l).set g (.cells cs 0 Option.none true)
theorem C7:∀ (l:List (Nat×List Value)) (b:Nat) (o:AO),(AH.kN l).get b=some o->∃ p∈l,b=p.1/\o = .cells p.2 0 Option.none true
 | [],b,o,h=>by cases h
 | (g,cs) :: l,b,o,h=>by
  rw[AH.kN,uB]at h
  split at h
  . rename_i e;cases h;exact⟨(g,cs),zg ..,e,rfl⟩
  . obtain⟨p,hp,h1⟩:=C7 l b o h
    exact⟨p,lu _ hp,h1⟩
theorem HI:∀ l:List (Nat×List Value),(AH.kN l).nf=GB
 | []=>rfl
 | (g,cs) :: l=>HI l
def uE(w:World)(p:Nat×List Value):Prop:=p.1<GB/\gT p.2=0/\p.2≠[]/\∀ j u,p.2[j]? = some u->w.cell? ⟨p.1,j,none⟩=some u
theorem UZ{l:List (Nat×List Value)}{w:World}(h:∀ p∈l,uE w p):Rel w5 (AH.kN l) w:=by
 refine⟨fun b o hb=>?_,fun b b' o o' hb hb' e=>e,fun b o hb=>?_,fun b _=>rfl,by rw[HI];exact zn _⟩
 . obtain⟨p,hp,rfl,rfl⟩:=C7 l b o hb
   obtain⟨h1,h2,h3,h4⟩:=h p hp
   obtain⟨u,hu⟩:∃ u,p.2[0]? = some u:=by
    cases hc:p.2 with
    | nil=>exact absurd hc h3
    | cons u us=>exact⟨u,rfl⟩
   have hc:=h4 0 u hu
   obtain⟨arr,T', mk,hh⟩:∃ arr T' mk,w.heap[p.1]? = some (.cells arr T' mk):=by
    simp only[World.cell?]at hc
    split at hc
    . rename_i a b c hx;exact⟨_,_,_,hx⟩
    . cases hc
   refine⟨_,hh,arr,T', mk,rfl,fun j v hv=>?_⟩
   have:=h4 j v hv
   rw[cell_of_row w p.1 j arr T' mk hh]at this
   have hz:fT w5 v=v:=xY v (by have:=ku.1 (by omega:gT p.2<=0) v (zh hv);omega) w5
   rw[hz]
   simpa[w5]using this
 . obtain⟨p,hp,rfl,rfl⟩:=C7 l b o hb
   obtain⟨h1,h2,h3,h4⟩:=h p hp
   rw[HI]
   exact⟨h1,by simp only[AO.Wf];omega⟩
theorem Lz{P:Program}{H:Type}{enc:TypeId×Value->H}{w:World}{base:Nat}{sp:Nat->Bool}{hd:Bool}{fuel:Nat}{t e:TypeId}{n:Nat}{k:IntKind}{cs:List Value}{pl:List MemPlace}{xs:List Int}
 (ht:P.underlying t=some (.array n e)) (he:P.underlying e=some (.int k)) (hc:P.cellsOf e=1) (h:DataW.trod enc P w base sp hd fuel t cs=some (.agg (xs.map fun x=>.lit (.int k x)),pl)) (hx:xs.length=n) :
 ∀ (j:Nat) (x:Int),xs[j]? = some x->cs[j]? = some (.int k x):=by
 obtain⟨ys,m,rfl,hy,hl,hn,hel⟩:=DataW.trod_array ht h
 simp only[Prod.mk.injEq,DataW.agg.injEq]at hy
 intro j x hj
 have hjn:j<n:=by have:=(zd.1 hj).1;omega
 have h1:=hel j hjn
 rw[hc,zX]at h1
 obtain⟨y,hy1⟩:∃ y,ys[j]? = some y:=⟨_,zk o_⟩
 rw[hy1]at h1
 obtain⟨q,e1,e2,_⟩:=DataW.trod_int he h1
 have h2:(ys.map (·.1))[j]? = some (.lit (.int k x)):=by rw[<-hy.1];simp[hj]
 rw[kJ,hy1]at h2
 simp only[nu,e2,Option.some.injEq]at h2
 have h3:q=x:=by
  have:=h2
  simp only[DataW.lit.injEq,Lit.int.injEq,true_and]at this
  exact this
 subst h3
 have h4:((cs.drop j).take 1)[0]? = some (.int k q):=by rw[e1];rfl
 simpa[pZ]using h4
end
end Go.Ex
namespace Go.Ex
open Go Go.Sx
noncomputable section
def yN:List (Value×Value×Nat)->List (Value×Value×Nat)->Bool
 | [],[]=>true
 | (a,b,c) :: l,(a', b', c') :: l' => i6 a a' && (i6 b b' && (Nat.beq c c' && yN l l'))
 | _,_=>false
theorem M5:∀ l l' : List (Value×Value×Nat),yN l l' = true->l=l'
 | [],[],_=>rfl
 | (a,b,c) :: l,(a', b', c') :: l', h=>by
  simp only[yN,zo]at h
  rw[xM _ _ h.1,xM _ _ h.2.1,zt h.2.2.1,M5 _ _ h.2.2.2]
 | [],_ :: _,h=>by simp[yN]at h
 | _ :: _,[],h=>by simp[yN]at h
def PI:Option Nat->Option Nat->Bool
 | none,none=>true
 | some a,some b=>Nat.beq a b
 | _,_=>false
theorem WD:∀ a b:Option Nat,PI a b=true->a=b
 | none,none,_=>rfl
 | some a,some b,h=>by rw[zt h]
 | none,some _,h=>by cases h
 | some _,none,h=>by cases h
def PN:Bool->Bool->Bool
 | true,b=>b
 | false,b => !b
theorem Wy:∀ a b:Bool,PN a b=true->a=b
 | true,true,_=>rfl
 | false,false,_=>rfl
def holds:Option AO->AO->Bool
 | some (.cells cs T op ro),.cells cs' T' op' ro' => Nat.beq T T' && (PI op op' && (PN ro ro' && tH cs cs'))
 | some (.map es c),.map es' c' => Nat.beq c c' && yN es es'
 | _,_=>false
theorem G7:∀ (a:Option AO) (o:AO),holds a o=true->a=some o
 | some (.cells cs T op ro),.cells cs' T' op' ro', h=>by
  simp only[holds,zo]at h
  rw[zt h.1,WD _ _ h.2.1,Wy _ _ h.2.2.1,Dk _ _ h.2.2.2]
 | some (.map es c),.map es' c', h=>by
  simp only[holds,zo]at h
  rw[zt h.1,M5 _ _ h.2]
 | none,_,h=>by simp[holds]at h
 | some (.loop ..),_,h=>by simp[holds]at h
 | some (.done ..),_,h=>by simp[holds]at h
 | some (.uK ..),_,h=>by simp[holds]at h
 | some .o5,_,h=>by simp[holds]at h
 | some (.cells ..),.map ..,h=>by simp[holds]at h
 | some (.cells ..),.loop ..,h=>by simp[holds]at h
 | some (.cells ..),.done ..,h=>by simp[holds]at h
 | some (.cells ..),.uK ..,h=>by simp[holds]at h
 | some (.cells ..),.o5,h=>by simp[holds]at h
 | some (.map ..),.cells ..,h=>by simp[holds]at h
 | some (.map ..),.loop ..,h=>by simp[holds]at h
 | some (.map ..),.done ..,h=>by simp[holds]at h
 | some (.map ..),.uK ..,h=>by simp[holds]at h
 | some (.map ..),.o5,h=>by simp[holds]at h
def Bh(A:AH):List (Nat×AO)->Bool
 | []=>true
 | (b,o) :: l=>holds (A.get b) o&&Bh A l
theorem KQ{A:AH}:∀ {l:List (Nat×AO)},Bh A l=true->∀ p∈l,A.get p.1=some p.2
 | (b,o) :: l,h,p,hp=>by
  simp only[Bh,zo]at h
  rcases zb.1 hp with rfl|hp
  . exact G7 _ _ h.1
  . exact KQ h.2 p hp
def Ec(t:Tr PO):List (Nat×AO)->Tr PO
 | []=>t
 | (b,o) :: l=>(Ec t l).put b (some (PO.of o))
theorem Ll(t:Tr PO)(n n' : Nat):∀ (l:List (Nat×AO)) (b:Nat) (o:AO),(⟨Ec t l,n⟩:AH).get b=some o->(b,o)∈l\/((∀ p∈l,p.1≠b)/\(⟨t,n'⟩:AH).get b=some o)
 | [],b,o,h=>.inr ⟨fun p hp=>(by cases hp),h⟩
 | (b', o') :: l,b,o,h=>by
  rw[Ec,AH.xV (n' := n),PO.Ea]at h
  split at h
  . rename_i e;cases h;subst e;exact .inl (zg ..)
  . rename_i e
    rcases Ll t n n' l b o h with h1|⟨h1,h2⟩
    . exact .inl (lu _ h1)
    . refine .inr ⟨fun p hp=>?_,h2⟩
      rcases zb.1 hp with rfl|hp
      . exact Ne.symm e
      . exact h1 p hp
def wm(t:Tr PO):List (Nat×Option AO)->Tr PO
 | []=>t
 | (b,o) :: l=>(wm t l).put b (match o with|some o=>some (PO.of o)|none=>none)
theorem Lu(t:Tr PO)(n n' : Nat):∀ (l:List (Nat×Option AO)) (b:Nat) (o:AO),(⟨wm t l,n⟩:AH).get b=some o->(b,some o)∈l\/((∀ p∈l,p.1≠b)/\(⟨t,n'⟩:AH).get b=some o)
 | [],b,o,h=>.inr ⟨fun p hp=>(by cases hp),h⟩
 | (b', o') :: l,b,o,h=>by
  have key:b≠b' -> (⟨wm t l,n⟩:AH).get b=some o->(b,some o)∈(b', o') :: l\/((∀ p∈(b', o') :: l,p.1≠b)/\(⟨t,n'⟩:AH).get b=some o):=fun e h=>by
   rcases Lu t n n' l b o h with h1|⟨h1,h2⟩
   . exact .inl (lu _ h1)
   . refine .inr ⟨fun p hp=>?_,h2⟩
     rcases zb.1 hp with rfl|hp
     . exact Ne.symm e
     . exact h1 p hp
  cases o' with
  | some o' =>
   simp only[wm]at h
   rw[AH.xV (n' := n),PO.Ea]at h
   split at h
   . rename_i e;cases h;subst e;exact .inl (zg ..)
   . rename_i e;exact key e h
  | none =>
   have h' : ((⟨wm t l,n⟩:AH).jH b').get b=some o:=h
   rw[xu]at h'
   split at h'
   . cases h'
   . rename_i e;exact key e h'
structure gj where
 f:Nat
 nf:Nat
 args:List Value
 pre:List (Nat×AO)
 v:Value
 gI:List (Nat×Option AO)
 nI : Nat
def Ek(b:Nat):List (Nat×Option AO)->Bool
 | []=>false
 | (b', _) :: l=>Nat.beq b b' || Ek b l
theorem MT{b:Nat}:∀ {l:List (Nat×Option AO)},Ek b l=true->∃ o,(b,o)∈l
 | (b', o) :: l,h=>by
  simp only[Ek,sR]at h
  rcases h with h|h
  . have:=zt h;subst this;exact⟨o,zg ..⟩
  . obtain⟨o', h'⟩:=MT h;exact⟨o', lu _ h'⟩
def DP(A:AH)(gI:List (Nat×Option AO)):List (Nat×AO)->Bool
 | []=>true
 | (b,o) :: l=>(Ek b gI||holds (A.get b) o)&&DP A gI l
theorem KK{A:AH}{gI:List (Nat×Option AO)}:∀ {l:List (Nat×AO)},DP A gI l=true->∀ p∈l,(∃ o,(p.1,o)∈gI)\/A.get p.1=some p.2
 | (b,o) :: l,h,p,hp=>by
  simp only[DP,zo,sR]at h
  rcases zb.1 hp with rfl|hp
  . exact h.1.imp MT (G7 _ _)
  . exact KK h.2 p hp
def xS(A:AH):List (Nat×Option AO)->Bool
 | []=>true
 | (b,some o) :: l=>holds (A.get b) o&&xS A l
 | (_,none) :: l=>xS A l
theorem Gd{A:AH}:∀ {l:List (Nat×Option AO)},xS A l=true->∀ b o,(b,some o)∈l->A.get b=some o
 | (b', some o') :: l,h,b,o,hp=>by
  simp only[xS,zo]at h
  rcases zb.1 hp with e|hp
  . cases e;exact G7 _ _ h.1
  . exact Gd h.2 b o hp
 | (b', none) :: l,h,b,o,hp=>by
  simp only[xS]at h
  rcases zb.1 hp with e|hp
  . cases e
  . exact Gd h b o hp
def gj.start(e:gj):AH:=⟨Ec .e e.pre,e.nf⟩
def gj.gH(e:gj):Option Out->Bool
 | some (.call v A)=>i6 v e.v&&(Nat.beq A.nf e.nI && (xS A e.gI&&DP A e.gI e.pre))
 | _=>false
def gj.use(e:gj)(f:FuncId)(args:List Value)(A:AH):Option Out :=
 cond (Nat.beq f e.f) (cond (Nat.beq A.nf e.nf) (cond (tH args e.args) (cond (Bh A e.pre) (some (.call e.v ⟨wm A.h e.gI,e.nI⟩)) none) none) none) none
def sn(P:Program)(e:gj):Prop:=∃ A1:AH,ta P e.f e.args e.start e.v A1/\A1.nf=e.nI /\ (∀ b o,(b,some o)∈e.gI->A1.get b=some o)/\∀ p∈e.pre,(∃ o,(p.1,o)∈e.gI)\/A1.get p.1=some p.2
abbrev ji:=Tr gj
def kz(P:Program)(t:ji):Prop:=∀ k e,t.get k=some e->sn P e
theorem Ti{P:Program}{e:gj}(he:sn P e){f:FuncId}{args:List Value}{A A' : AH}{v:Value}(h:e.use f args A=some (.call v A')):ta P f args A v A' := by
 unfold gj.use at h
 cases h1:Nat.beq f e.f with
 | false=>rw[h1]at h;cases h
 | true =>
 cases h2:Nat.beq A.nf e.nf with
 | false=>rw[h1,h2]at h;cases h
 | true =>
 cases h3:tH args e.args with
 | false=>rw[h1,h2,h3]at h;cases h
 | true =>
 cases h4:Bh A e.pre with
 | false=>rw[h1,h2,h3,h4]at h;cases h
 | true =>
 rw[h1,h2,h3,h4]at h
 simp only[cond_true,Option.some.injEq,Out.call.injEq]at h
 obtain⟨rfl,rfl⟩:=h
 have g1:=zt h1
 have g2:=zt h2
 have g3:=Dk _ _ h3
 have g4:=KQ h4
 subst g1 g3
 obtain⟨A1,hc,hn,hchg,hpre⟩:=he
 have hst:∀ b o,e.start.get b=some o->(b,o)∈e.pre:=by
  intro b o hb
  rcases Ll .e e.nf 0 e.pre b o hb with h|⟨_,h⟩
  . exact h
  . cases h
 have hsub:∀ b o,e.start.get b=some o->A.get b=some o:=fun b o hb=>g4 _ (hst b o hb)
 intro E w hR hargs
 have hR0:Rel E e.start w:=⟨fun b o hb=>hR.obj b o (hsub b o hb),fun b b' o o' hb hb' e1=>hR.inj b b' o o' (hsub b o hb) (hsub b' o' hb') e1,fun b o hb=>by
  have:=hR.wf b o (hsub b o hb)
  rw[g2]at this
  exact this,hR.kN,by have:=hR.low;rw[g2]at this;exact this⟩
 refine CR.mono (hc E w hR0 (by rw[<-show A.nf=e.start.nf from g2];exact hargs)) ?_
 rintro v' w' ⟨E', rfl,hR1,t1,hv⟩
 have hnf:A.nf<=A1.nf:=by rw[g2];exact t1.nf
 have hext:∀ b,b<A.nf->E' b=E b:=fun b hb=>t1.ext b (by show b<e.nf;omega)
 -- where a name of the new state comes from
 have src:∀ b o,(⟨wm A.h e.gI,e.nI⟩:AH).get b=some o->A1.get b=some o\/(A.get b=some o/\∀ o', e.start.get b≠some o'):=by
  intro b o hb
  rcases Lu A.h e.nI A.nf e.gI b o hb with h|⟨h,hA⟩
  . exact .inl (hchg b o h)
  . have hA:A.get b=some o:=hA
    by_cases hx:∃ o', e.start.get b=some o'
    . obtain⟨o', hx⟩:=hx
      have e1:=hsub b o' hx
      rw[hA]at e1
      cases e1
      rcases hpre _ (hst b o hx)with ⟨o2,h2⟩|h2
      . exact absurd rfl (h _ h2)
      . exact .inl h2
    . exact .inr ⟨hA,fun o' h' => hx ⟨o', h'⟩⟩
 have sep:∀ b o,A.get b=some o->(∀ o', e.start.get b≠some o')->∀ b1 o1,A1.get b1=some o1->(E' b1).blk≠(E b).blk:=by
  intro b o hb hnot b1 o1 h1 heq
  rcases t1.mine b1 o1 h1 with ⟨c,oc,hcc,e1,_⟩|hs
  . have:b=c:=hR.inj b c o oc hb (hsub c oc hcc) (by rw[<-heq,e1])
    subst this
    exact hnot oc hcc
  . have:=hR.lt hb
    omega
 refine⟨E', rfl,⟨?_,?_,?_,hR1.kN,?_⟩,⟨?_,hext,t1.os,t1.tape,t1.output,t1.size,?_,?_⟩,?_⟩
 . intro b o hb
   rcases src b o hb with h|⟨h,hnot⟩
   . exact hR1.obj b o h
   . obtain⟨c,hc1,hl⟩:=hR.obj b o h
     have hbn:=(hR.wf b o h).1
     rw[hext b hbn]
     refine⟨c,(t1.blk _ (hR.lt h) fun b1 o1 h1 _ e1=>?_).trans hc1,hl.ext hext (hR.wf b o h).2⟩
     have:=hR.inj b1 b o1 o (hsub b1 o1 h1) h e1
     subst this
     exact hnot o1 h1
 . intro b b' o o' hb hb' heq
   rcases src b o hb with h|⟨h,hnot⟩
   . rcases src b' o' hb' with h' | ⟨h', hnot'⟩
     . exact hR1.inj b b' o o' h h' heq
     . rw[hext b' (hR.wf b' o' h').1]at heq
       exact absurd heq (sep b' o' h' hnot' b o h)
   . rw[hext b (hR.wf b o h).1]at heq
     rcases src b' o' hb' with h' | ⟨h', hnot'⟩
     . exact absurd heq.symm (sep b o h hnot b' o' h')
     . rw[hext b' (hR.wf b' o' h').1]at heq
       exact hR.inj b b' o o' h h' heq
 . intro b o hb
   show b<e.nI /\ o.Wf e.nI
   rw[<-hn]
   rcases src b o hb with h|⟨h,_⟩
   . exact hR1.wf b o h
   . exact⟨z6 (hR.wf b o h).1 hnf,(hR.wf b o h).2.mono hnf⟩
 . show GB<=e.nI
   rw[<-hn];exact hR1.low
 . show A.nf<=e.nI
   rw[<-hn];exact hnf
 . exact fun x hx hno=>t1.blk x hx fun b o hb=>hno b o (hsub b o hb)
 . intro b o hb
   rcases src b o hb with h|⟨h,_⟩
   . rcases t1.mine b o h with ⟨c,oc,hcc,e1,e2⟩|hs
     . exact .inl ⟨c,oc,hsub c oc hcc,e1,e2⟩
     . exact .inr hs
   . exact .inl ⟨b,o,h,by rw[hext b (hR.wf b o h).1],id⟩
 . show nm e.v<=e.nI
   rw[<-hn];exact hv
def Pf(P:Program)(tab:ji)(rec:Rec)(f:FuncId)(args:List Value)(A:AH):Option Out:=match tab.get A.nf with
 | none=>D3 P rec f args A
 | some e=>match e.use f args A with
  | some o=>some o
  | none=>D3 P rec f args A
def stepT(P:Program)(tab:ji)(reg:p9)(rec:Rec):B4->Option Out
 | .call f args A=>Pf P tab rec f args A
 | .yield l args A=>Io rec l args A
 | .rounds c q n σ ds A=>Hv rec c q n σ ds A
 | .code c q n σ ds A=>su P reg rec c q n σ ds A
def runT(P:Program)(tab:ji)(reg:p9)(k:Nat):Rec:=Nat.rec (motive:=fun _=>Rec) (fun _=>none) (fun _ ih j=>stepT P tab reg ih j) k
theorem R7{P:Program}{tab:ji}(ht:kz P tab){k:Nat}{rec:Rec}{reg:p9}(hreg:Bv P reg)(hrec:tw P k rec):tw P (k+1) (stepT P tab reg rec):=by
 intro j o h
 have key:∀ o,step P reg rec j=some o->O4 P (k+1) j o:=fun o h=>KH hreg hrec j o h
 cases j with
 | call f args A =>
  simp only[stepT,Pf]at h
  split at h
  . exact key o h
  . rename_i e he
    split at h
    . rename_i o' ho
      cases h
      cases o with
      | code e σ ds A=>trivial
      | call v A' => exact Ti (ht _ _ he) ho
    . exact key o h
 | yield l args A=>exact key o h
 | rounds c q n σ ds A=>exact key o h
 | code c q n σ ds A=>exact key o h
theorem Gm{P:Program}{tab:ji}(ht:kz P tab){reg:p9}(hreg:Bv P reg):∀ k,tw P k (runT P tab reg k)
 | 0=>fun j o h=>by cases h
 | k+1=>fun j o h=>R7 ht hreg (Gm ht hreg k) j o h
theorem xN{P:Program}(hm:P.follows .mixedOrders=true){tab:ji}(ht:kz P tab)(e:gj)(k:Nat)(h:e.gH (runT P tab (yO P) k (.call e.f e.args e.start))=true):sn P e:=by
 unfold gj.gH at h
 split at h
 . rename_i v A hr
   simp only[zo]at h
   have:=xM _ _ h.1
   subst this
   exact⟨A,Gm ht (HD hm) k _ _ hr,zt h.2.1,Gd h.2.2.1,KK h.2.2.2⟩
 . cases h
theorem A5(P:Program):kz P .e:=fun k e h=>by rw[Tr.x9]at h;cases h
theorem qn{P:Program}{t:ji}{e:gj}(ht:kz P t)(he:sn P e)(k:Nat):kz P (t.put k (some e)):=by
 intro k' e' h
 rw[Tr.r7]at h
 split at h
 . cases h;exact he
 . exact ht k' e' h
theorem VO{P:Program}(hm:P.follows .mixedOrders=true){tab:ji}(ht:kz P tab){l:List (Nat×List Value)}{k:Nat}{f:FuncId}(h:isTrue (runT P tab (yO P) k (.call f [] (AH.kN l)))=true)(w:World)(hg:∀ p∈l,uE w p) :
 CR P f #[] w (fun v w' => v = .bool true/\gD [] w w'):=by
 unfold isTrue at h
 split at h
 . rename_i A' hr
   have hc:ta P f [] (AH.kN l) (.bool true) A' := Gm ht (HD hm) k _ _ hr
   refine CR.mono (hc w5 w (UZ hg) (by simp[gT])) ?_
   rintro v w' ⟨E', rfl,_,t,_⟩
   exact⟨rfl,t.gI fun b o hb=>by obtain⟨p,_,_,rfl⟩:=C7 l b o hb;rfl⟩
 . cases h
end
end Go.Ex
namespace Go.Sx
open Go
section
variable {H:Type} {enc:TypeId×Value->H} {P:Program} {w:World} {sp:Nat->Bool} {hd:Bool} {t e:TypeId} {fuel:Nat} {v:Value} {cs:List Value} {x:DataW H×List MemPlace} {k:IntKind}
theorem TY{a:Addr}{u:Value}(h:w.cell? a=some u):a.spot=none:=by
 unfold World.cell? at h
 split at h
 . split at h
   . cases h
   . rename_i hs
     cases hq:a.spot with
     | none=>rfl
     | some q=>rw[hq]at hs;simp at hs
 . cases h
theorem Sl.Nn{α:Type}[Inhabited α]{sz:Nat}{E:World->α->List Value->Prop}(ht:P.underlying t=some (.slice e))(hc:P.cellsOf e=sz)(hp:0<sz)
 (hE:∀ n cs y,DataW.trod enc P w 0 sp hd n e cs=some y->∃ x:α,E w x cs) (h:DataW.trod enc P w 0 sp hd fuel t cs=some x):∃ v xs,cs=[v]/\Sl sz E (fun _=>True) w v xs:=by
 rcases Go.Deep.open_slice ht h with ⟨h0,_⟩|⟨a,len,cap,m,n,D,Pl,rfl,_,hl,hm,hmm,_,hx⟩
 . exact⟨_,[],h0,Sl.nil _ _ _ _⟩
 . rw[hc]at hx
   have hlm:len<=m:=by rw[hmm];split<;>omega
   obtain⟨X,hX⟩:=Go.Deep.choose_lt (α:=α) (n:=len) (p:=fun i x=>∃ cs', w.cells? 0 (a.add (i*sz)) sz=some cs' /\ E w x cs') (fun i hi=>by
    obtain⟨cs', h1,h2⟩:=hx i o_
    obtain⟨y,hy⟩:=hE _ _ _ h2
    exact⟨y,cs', h1,hy⟩)
   refine⟨_,(List.range len).map X,rfl,some a,cap,s_,by simp;exact hl,hm,fun i y hi=>?_⟩
   have hlt:i<len:=by have:=(zd.1 hi).1;simpa using this
   have hy:y=X i:=by
    rw[kJ,Ad hlt]at hi
    simpa using hi.symm
   subst hy
   obtain⟨cs', h1,h2⟩:=hX i hlt
   obtain⟨_,hlen,hcell⟩:=World.cells?_some h1
   have hsp:a.spot=none:=by
    obtain⟨cs0,q1,_⟩:=hX 0 o_
    obtain⟨_,q2,q3⟩:=World.cells?_some q1
    have h3:=q3 0 hp
    have:cs0[0]? = some cs0[0]:=zk o_
    rw[this]at h3
    have:=TY h3
    simpa[Addr.add]using this
   obtain⟨b,o,s⟩:=a
   simp only at hsp
   subst hsp
   refine⟨b,o,cs', rfl,trivial,hlen,h2,fun j u hj=>?_⟩
   have hj' : j<sz:=by have:=(zd.1 hj).1;omega
   have:=hcell j hj'
   rw[hj]at this
   rw[Addr.add_lit,Addr.add_lit]at this
   exact this
theorem iC.Y9{n:Int}(h:(Lit.int k n).wf=true):iC k n:=by
 simp only[Lit.wf,zo,decide_eq_true_eq]at h
 exact h
theorem uh(he:P.underlying e=some (.int k))(h:DataW.trod enc P w 0 sp hd fuel e cs=some x):∃ n,cs=[.int k n]/\iC k n:=by
 obtain⟨m,h1,_,h3⟩:=DataW.trod_int he h
 exact⟨m,h1,iC.Y9 h3⟩
theorem Kh{fs:Array Field}(ht:P.underlying t=some (.struct fs))(h:DataW.trod enc P w 0 sp hd fuel t cs=some x):cs.length=P.cellsOf t/\∀ f∈fs.toList,∃ n y,DataW.trod enc P w 0 sp hd n f.type ((cs.drop f.offset).take (P.cellsOf f.type))=some y:=by
 cases fuel with
 | zero=>simp[DataW.trod]at h
 | succ n =>
  unfold DataW.trod at h
  rw[ht]at h
  simp only at h
  split at h
  . rename_i hl
    refine⟨hl,fun f hf=>?_⟩
    obtain⟨i,hi⟩:=List.getElem?_of_mem hf
    cases hm:(fs.toList.mapM fun f=>DataW.trod enc P w 0 sp hd n f.type ((cs.drop f.offset).take (P.cellsOf f.type)))with
    | none=>rw[hm]at h;simp at h
    | some ys =>
     have:=mapM_some_get hm i f hi
     have hlen:=mapM_some_length hm
     have hlt:i<ys.length:=by rw[hlen];exact(zd.1 hi).1
     rw[zk hlt]at this
     exact⟨n,_,this⟩
  . simp at h
end
end Go.Sx
