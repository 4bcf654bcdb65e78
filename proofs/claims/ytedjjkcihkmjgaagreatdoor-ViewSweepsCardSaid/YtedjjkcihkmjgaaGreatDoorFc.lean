/- Plain lemmas: rules for walking through code, one for each operation, over any program; an evaluator of closed calls with its soundness; and plain mathematics. No conditions. -/
import Derived.Test.YtedjjkcihkmjgaaGreatDoorFb
import Derived.Test.YtedjjkcihkmjgaaGreatDoorFa
import Derived.Sort.Row
set_option linter.unusedVariables false
set_option linter.unusedSectionVars false
set_option linter.unusedSimpArgs false
namespace Go.Sx
open Go
structure fW where
 jg:Nat
 tb:Nat
 ab:Nat
 mb:Nat
 lv:Value
 last:Int
 aw:AW
 t:TW
 live:List Lv
 im:IM
abbrev fW.A(s:fW):As:=s.aw.A
abbrev Lv.at(x:Lv)(id:Int):Prop:=x.u=id\/x.v=id
def fW.inc(s:fW)(id:Int):List Nat:=(fS s.im id).2
structure fW.ok (fN fM:Nat) (s:fW):Prop where
 n:s.A.n=fM
 tn:s.t.A.n=fN
 en:fM<=16384
 vn:fN<=4096
 kV:s.A.ok
 tok:s.t.ok
 ll:s.live.length=s.A.begun
 slot:∀ i,s.A.ij i->(fJ s.live i).slot=(i:Int)
 FE:∀ i,(fJ s.live i).ok
 ne:∀ i,s.A.ij i->(fJ s.live i).u≠(fJ s.live i).v
 mem:∀ id,s.t.mem id↔∃ i,s.A.ij i/\(fJ s.live i).at id
 keys:(s.im.map Prod.fst).Nodup
 inc:∀ id i,i∈s.inc id↔s.A.ij i/\(fJ s.live i).at id
 nd:∀ id,(s.inc id).Nodup
 empty:∀ id,ig s.im id=none↔s.inc id=[]
 seq:∀ i,s.A.ij i->(fJ s.live i).seq<=s.last
 Gu:∀ i j,s.A.ij i->s.A.ij j->(fJ s.live i).seq=(fJ s.live j).seq->i=j
 tB:0<=s.last
def fW.has(s:fW)(x:Lv):Prop:=∃ i,s.A.ij i/\fJ s.live i=x
noncomputable def TW.cnt(t:TW)(id:Int):Nat:=by
 classical
 exact if t.mem id then 0 else 1
theorem TW.AK{t:TW}{id:Int}(h:t.mem id):t.cnt id=0:=by unfold TW.cnt;exact if_pos h
theorem TW.tZ{t:TW}{id:Int}(h:¬ t.mem id):t.cnt id=1:=by unfold TW.cnt;exact if_neg h
variable{n i k fM fN a0:Nat}{E ds:List Nat}{u x:Int}{B:List (Int×Nat)}{a K:List Int}{b iv cv:Value}{t2 t1:TW}{A':Nat->Nat->Prop}{L:List Lv}{s:fW}{bs:List (World×List Nat)}{p:Int×Nat}{e:Lv}{im m G:IM}{xs:List Nd}{cf:Nat->List Value}{w':World}{v2:AW}(o:List Nat)
theorem TW.mR.cnt{t:TW}{id:Int}{b:Bool}(h:t.mR id n b):t.cnt id=if b then 0 else 1:=by
 rcases h with ⟨rfl,a,c⟩|⟨rfl,_,h⟩
 . exact TW.AK ⟨n,a,c⟩
 . exact TW.tZ h
noncomputable def fW.gN(s:fW)(fN fM:Nat)(u v:Int):Int:=by
 classical
 exact if u=v then 9 else if fM<=s.A.used then 12 else if fN<s.t.A.used+(s.t.cnt u+s.t.cnt v)then 11 else 0
theorem fW.N5{v:Int}(h:u=v):s.gN fN fM u v=9:=by unfold fW.gN;rw[if_pos h]
theorem fW.N4{v:Int}(h:u≠v)(h1:fM<=s.A.used):s.gN fN fM u v=12:=by unfold fW.gN;rw[if_neg h,if_pos h1]
theorem fW.CA{v:Int}(h:u≠v)(h1:¬ fM<=s.A.used)(a:fN<s.t.A.used+(s.t.cnt u+s.t.cnt v)):s.gN fN fM u v=11:=by unfold fW.gN;rw[if_neg h,if_neg h1,if_pos a]
theorem fW.AJ{v:Int}(h:u≠v)(h1:¬ fM<=s.A.used)(a:¬ fN<s.t.A.used+(s.t.cnt u+s.t.cnt v)):s.gN fN fM u v=0:=by unfold fW.gN;rw[if_neg h,if_neg h1,if_neg a]
theorem fW.E5{v:Int}(h:s.gN fN fM u v=0):u≠v/\s.A.used<fM/\s.t.A.used+(s.t.cnt u+s.t.cnt v)<=fN:=by
 grind [fW.N5,fW.N4,fW.CA]
def yO(ls:List Lv)(i:Nat)(x:Lv):List Lv:=fO (if i=ls.length then ls++[default]else ls) i (fun _=>x)
theorem abO{ls:List Lv}{x:Lv}(h:i<=ls.length)(j:Nat):fJ (yO ls i x) j=if i=j then x else fJ ls j:=by
 grind [yO,jG,fJ]
theorem abP{ls:List Lv}{x:Lv}(h:i<=ls.length):(yO ls i x).length=if i=ls.length then ls.length+1 else ls.length:=by
 unfold yO
 rw[gB]
 split<;>simp
section
variable {fN fM:Nat} {s:fW}
theorem fW.ok.ins(h:s.ok fN fM){l:AW}{p:TW}(hp:AW.put s.A l.A i)(q:l.A.ok)(R:p.ok)(J:e.slot=(i:Int))(w:e.seq=s.last+1)(I:e.ok)(N:e.u≠e.v)(ht:∀ x,p.mem x↔(s.t.mem x\/x=e.u)\/x=e.v)(Q:p.A.n=s.t.A.n){lv2:Value}{ls:List Lv}(E:ls=yO s.live i e){im2:IM}(C:im2=gr (gr s.im e.u (iv,s.inc e.u++[i])) e.v (cv,s.inc e.v++[i])) :
 fW.ok fN fM ⟨s.jg,s.tb,s.ab,s.mb,lv2,s.last+1,l,p,ls,im2⟩/\∀ x,fW.has ⟨s.jg,s.tb,s.ab,s.mb,lv2,s.last+1,l,p,ls,im2⟩ x↔s.has x\/x=e:=by
 have T:=h.ll
 have D:i<=s.live.length:=by
  rcases hp.pI with c|c<;>omega
 have r:∀ j,fJ ls j=if i=j then e else fJ s.live j:=by rw[E];exact abO D
 have M:ls.length=if i=s.live.length then s.live.length+1 else s.live.length:=by rw[E];exact abP D
 have f:=hp.ij
 have F:=hp.new
 have O:∀ j,s.A.ij j->i≠j:=fun j d e=>F (e▸d)
 have g:∀ j,s.A.ij j->fJ ls j=fJ s.live j:=fun j d=>by rw[r,if_neg (O j d)]
 have m:fJ ls i=e:=by rw[r,if_pos rfl]
 have B:∀ id,ig im2 id=if e.v=id then some (cv,s.inc e.v++[i])else if e.u=id then some (iv,s.inc e.u++[i])else ig s.im id:=by
  intro id
  rw[C,vm,vm]
 have y:∀ id,(fS im2 id).2=if e.v=id then s.inc e.v++[i]else if e.u=id then s.inc e.u++[i]else s.inc id:=by
  intro id
  unfold fS
  rw[B]
  split
  . rfl
  . split
    . rfl
    . rfl
 have P:∀ id,i∉s.inc id:=fun id hi=>F ((h.inc id i).1 hi).1
 refine⟨⟨?_,?_,h.en,h.vn,q,R,?_,?_,?_,?_,?_,?_,?_,?_,?_,?_,?_,?_⟩,fun x=>⟨?_,?_⟩⟩
 . exact hp.n.trans h.n
 . exact Q.trans h.tn
 . show ls.length=l.A.begun
   rw[M]
   rcases hp.pI with c|c
   . rw[if_neg o_];omega
   . rw[if_pos o_];omega
 . intro j d
   show (fJ ls j).slot=(j:Int)
   rcases(f j).1 d with c|rfl
   . rw[g j c];exact h.slot j c
   . rw[m];exact J
 . intro j
   show (fJ ls j).ok
   rw[r]
   split
   . exact I
   . exact h.FE j
 . intro j d
   show (fJ ls j).u≠(fJ ls j).v
   rcases(f j).1 d with c|rfl
   . rw[g j c];exact h.ne j c
   . rw[m];exact N
 . intro id
   show p.mem id↔∃ j,l.A.ij j/\(fJ ls j).at id
   rw[ht,h.mem]
   constructor
   . rintro((⟨j,d,k⟩|rfl)|rfl)
     . grind
     . grind
     . grind
   . rintro⟨j,d,k⟩
     rcases(f j).1 d with c|rfl
     . grind
     . grind
 . show (im2.map Prod.fst).Nodup
   rw[C]
   exact wP (wP h.keys _ _) _ _
 . intro id j
   show j∈(fS im2 id).2↔l.A.ij j/\(fJ ls j).at id
   rw[y,f]
   have S:=h.inc id j
   grind [fJ]
 . intro id
   show (fS im2 id).2.Nodup
   rw[y]
   have z:∀ id,(s.inc id++[i]).Nodup:=fun id=>zr.2 ⟨h.nd id,s_,fun a q b hb=>by
    rw[k7]at hb
    subst hb
    rintro rfl
    exact P id q⟩
   split
   . exact z _
   . split
     . exact z _
     . exact h.nd id
 . intro id
   show ig im2 id=none↔(fS im2 id).2=[]
   rw[y,B]
   split
   . simp
   . split
     . simp
     . exact h.empty id
 . intro j d
   show (fJ ls j).seq<=s.last+1
   rcases(f j).1 d with c|rfl
   . rw[g j c];have:=h.seq j c;omega
   . rw[m,w];omega
 . intro a b K L
   show (fJ ls a).seq=(fJ ls b).seq->a=b
   rcases(f a).1 K with c|c<;>rcases(f b).1 L with o|o
   . rw[g a c,g b o];exact h.Gu a b c o
   . rw[g a c,o,m,w];intro H;have:=h.seq a c;omega
   . rw[g b o,c,m,w];intro H;have:=h.seq b o;omega
   . intro _;omega
 . show 0<=s.last+1
   have:=h.tB
   omega
 . rintro⟨j,d,k⟩
   change fJ ls j=x at k
   rcases(f j).1 d with c|c
   . rw[g j c]at k;exact .inl ⟨j,c,k⟩
   . rw[c,m]at k;exact .inr k.symm
 . rintro(⟨j,d,k⟩|rfl)
   . exact⟨j,(f j).2 (.inl d),by show fJ ls j=x;rw[g j d];exact k⟩
   . exact⟨i,(f i).2 (.inr rfl),m⟩
end
structure TW.Af (t t2:TW) (id:Int):Prop where
 mem:∀ x,t2.mem x↔t.mem x\/x=id
 n:t2.A.n=t.A.n
 used:t2.A.used=t.A.used+t.cnt id
theorem TW.Rt{t:TW}(h:t.A.used+t.cnt u<=t.A.n):t.mem u\/t.A.used<t.A.n:=by
 grind [TW.tZ]
theorem TW.Af.room{t:TW}{v:Int}(p:TW.Af t t2 u)(h:t.A.used+(t.cnt u+t.cnt v)<=t.A.n):t2.mem v\/t2.A.used<t2.A.n:=by
 by_cases hm:t2.mem v
 . exact .inl hm
 . have b:¬ t.mem v:=fun a=>hm ((p.mem v).2 (.inl a))
   rw[TW.tZ b]at h
   rw[p.used,p.n]
   exact .inr o_
theorem uh{γ:Type}[Inhabited γ]{m:List (Int×γ)}{a c:Int}{x:γ}(h:a≠c):fS (gr m a x) c=fS m c:=by
 unfold fS
 rw[vm,if_neg h]
theorem kY{a:Int}(h:-9223372036854775808<=a/\a<=9223372036854775807):gU .i64 a:=h
theorem pJ{a:Int}(h:0<=a/\a<=18446744073709551615):gU .u64 a:=h
theorem fW.ok.Jv(h:s.ok fN fM)(id:Int):(s.inc id).length<=65536:=by
 refine mF (Be s.A.begun _ (h.nd id) fun j a=>((h.inc id j).1 a).1.1) ?_
 have:=h.kV.le
 have:=h.n
 have:=h.en
 omega
structure mT (im:IM) (t:TW) (im2:IM) (t2:TW) (id:Int) (i:Nat):Prop where
 get:∀ c j,j∈(fS im2 c).2↔j∈(fS im c).2/\(c=id->j≠i)
 nd:(∀ c,(fS im c).2.Nodup)->∀ c,(fS im2 c).2.Nodup
 none:(∀ c,ig im c=none↔(fS im c).2=[])->∀ c,ig im2 c=none↔(fS im2 c).2=[]
 keys:(im.map Prod.fst).Nodup->(im2.map Prod.fst).Nodup
 mem:∀ x,t2.mem x↔t.mem x/\(x=id->(fS im2 id).2≠[])
 n:t2.A.n=t.A.n
theorem aag{γ:Type}[Inhabited γ]{m:List (Int×γ)}{a c:Int}{x:γ}:fS (gr m a x) c=if a=c then x else fS m c:=by
 unfold fS
 rw[vm]
 split<;>rfl
theorem aaf(b:(m.map Prod.fst).Nodup){a c:Int}:fS (iL m a) c=if a=c then default else fS m c:=by
 unfold fS
 rw[FM b]
 split<;>rfl
theorem Kh{xs:List Nat}(d:xs.Nodup){a b:Nat}(c:a<xs.length)(hb:b<xs.length)(e:xs[a]=xs[b]):a=b:=by
 rcases Nat.lt_trichotomy a b with h|h|h
 . exact absurd e (vE.1 d a b c hb h)
 . exact h
 . exact absurd e.symm (vE.1 d b a hb c h)
theorem Ow{xs:List Nat}(f:xs.Nodup)(hk:xs[k]? = some i)(j:Nat):j∈xs.eraseIdx k↔j∈xs/\j≠i:=by
 obtain⟨e,d⟩:=zt.1 hk
 rw[List.mem_eraseIdx_iff_getElem]
 constructor
 . grind [Kh]
 . rintro⟨b,g⟩
   obtain⟨a,c,rfl⟩:=vH b
   grind
theorem mT.keep{t:TW}{id:Int}{v:Value}(d:(fS im id).2.Nodup)(hk:(fS im id).2[k]? = some i)(b:(fS im id).2.eraseIdx k≠[]):mT im t (gr im id (v,(fS im id).2.eraseIdx k)) t id i:=by
 have a:∀ c,(fS (gr im id (v,(fS im id).2.eraseIdx k)) c).2=if id=c then(fS im id).2.eraseIdx k else(fS im c).2:=fun c=>by rw[aag];split<;>rfl
 refine⟨fun c j=>?_,fun h c=>?_,fun h c=>?_,fun h=>wP h _ _,fun x=>⟨fun h=>⟨h,fun _=>?_⟩,fun h=>h.1⟩,rfl⟩
 . grind [Ow]
 . grind
 . grind [vm]
 . rw[a,if_pos rfl];exact b
theorem mT.drop{t:TW}{id:Int}(d:(im.map Prod.fst).Nodup)(e:(fS im id).2.Nodup)(hk:(fS im id).2[k]? = some i)(a:(fS im id).2.eraseIdx k=[])(ht:∀ x,t2.mem x↔t.mem x/\x≠id)(f:t2.A.n=t.A.n):mT im t (iL im id) t2 id i:=by
 have g:∀ c,(fS (iL im id) c).2=if id=c then[]else(fS im c).2:=fun c=>by rw[aaf d];split<;>rfl
 have b:=Ow e hk
 rw[a]at b
 refine⟨fun c j=>?_,fun h c=>?_,fun h c=>?_,fun h=>Kk h _,fun x=>?_,f⟩
 . grind
 . grind
 . grind [FM]
 . grind
section
variable {fN fM:Nat} {s:fW}
theorem fW.ok.rem(h:s.ok fN fM)(hi:s.A.ij i){g:AW}(hd:AW.del s.A g.A i)(H:g.A.ok){z im2:IM}(N:t2.ok)(p:mT s.im s.t z t1 (fJ s.live i).u i)(l:mT z t1 im2 t2 (fJ s.live i).v i){lv2:Value}{ls:List Lv}(F:ls=fO s.live i (fun _=>default)) :
 fW.ok fN fM ⟨s.jg,s.tb,s.ab,s.mb,lv2,s.last,g,t2,ls,im2⟩/\∀ x,fW.has ⟨s.jg,s.tb,s.ab,s.mb,lv2,s.last,g,t2,ls,im2⟩ x↔s.has x/\x.slot≠(i:Int):=by
 have L:=h.ll
 have J:i<s.live.length:=by have:=hi.1;omega
 have B:∀ j,fJ ls j=if i=j then default else fJ s.live j:=by rw[F];exact fun j=>jG J
 have k:=hd.ij
 have P:=h.ne i hi
 have C:∀ c j,j∈(fS im2 c).2↔j∈s.inc c/\(c=(fJ s.live i).u->j≠i)/\(c=(fJ s.live i).v->j≠i):=by
  intro c j
  rw[l.get,p.get,and_assoc]
  rfl
 have y:∀ c j,j∈(fS im2 c).2↔g.A.ij j/\(fJ ls j).at c:=by
  intro c j
  rw[C,k,h.inc]
  constructor
  . grind
  . grind
 have m:∀ j,g.A.ij j->fJ ls j=fJ s.live j:=fun j d=>by rw[B,if_neg (fun e=>((k j).1 d).2 e.symm)]
 refine⟨⟨hd.n.trans h.n,(l.n.trans p.n).trans h.tn,h.en,h.vn,H,N,?_,?_,?_,?_,?_,l.keys (p.keys h.keys),y,l.nd (p.nd h.nd),l.none (p.none h.empty),?_,?_,h.tB⟩,fun x=>⟨?_,?_⟩⟩
 . show ls.length=g.A.begun
   rw[F,gB,hd.pI]
   exact L
 . intro j d
   show (fJ ls j).slot=(j:Int)
   rw[m j d]
   exact h.slot j ((k j).1 d).1
 . intro j
   show (fJ ls j).ok
   rw[B]
   split
   . exact⟨kY (by show _/\_;decide),pJ (by show _/\_;decide),pJ (by show _/\_;decide),pJ (by show _/\_;decide),kY (by show _/\_;decide),kY (by show _/\_;decide),kY (by show _/\_;decide)⟩
   . exact h.FE j
 . intro j d
   show (fJ ls j).u≠(fJ ls j).v
   rw[m j d]
   exact h.ne j ((k j).1 d).1
 . intro x
   show t2.mem x↔∃ j,g.A.ij j/\(fJ ls j).at x
   rw[l.mem,p.mem]
   have I:(∃ j,g.A.ij j/\(fJ ls j).at x)↔(fS im2 x).2≠[]:=by
    constructor
    . rintro⟨j,d⟩ e
      have:=(y x j).2 d
      rw[e]at this
      simp at this
    . intro M
      obtain⟨j,d⟩:=Hx _ M
      exact⟨j,(y x j).1 d⟩
   rw[I]
   constructor
   . rintro⟨⟨f,w⟩,q⟩
     by_cases hv:x=(fJ s.live i).v
     . rw[hv];exact q hv
     . by_cases hu:x=(fJ s.live i).u
       . have G:=w hu
         intro e
         obtain⟨j,d⟩:=Hx _ G
         have:j∈(fS im2 x).2:=(l.get x j).2 ⟨by rw[hu];exact d,fun r=>absurd r hv⟩
         rw[e]at this
         simp at this
       . obtain⟨j,d,O⟩:=(h.mem x).1 f
         grind
   . intro f
     obtain⟨j,d⟩:=Hx _ f
     have w:=(C x j).1 d
     have q:=(h.inc x j).1 w.1
     refine⟨⟨(h.mem x).2 ⟨j,q.1,q.2⟩,fun e=>?_⟩,fun e=>by rw[<-e];exact f⟩
     intro r
     have:j∈(fS z x).2:=((l.get x j).1 d).1
     rw[e,r]at this
     simp at this
 . intro j d
   show (fJ ls j).seq<=s.last
   rw[m j d]
   exact h.seq j ((k j).1 d).1
 . intro a b D E
   show (fJ ls a).seq=(fJ ls b).seq->a=b
   rw[m a D,m b E]
   exact h.Gu a b ((k a).1 D).1 ((k b).1 E).1
 . rintro⟨j,d,o⟩
   change fJ ls j=x at o
   rw[m j d]at o
   have f:=(k j).1 d
   refine⟨⟨j,f.1,o⟩,?_⟩
   rw[<-o,h.slot j f.1]
   intro e
   exact f.2 o_
 . rintro⟨⟨j,d,o⟩,hs⟩
   have K:j≠i:=by
    rintro rfl
    rw[<-o,h.slot j d]at hs
    exact hs rfl
   have f:=(k j).2 ⟨d,K⟩
   exact⟨j,f,by show fJ ls j=x;rw[m j f];exact o⟩
end
theorem Js{xs:List Nat}(h:i∈xs)(d:xs.Nodup):∃ k,xs[k]? = some i/\(gy xs)[k]? = some (i:Int)/\∀ (j:Nat) (y:Int),j<k->(gy xs)[j]? = some y->y≠(i:Int):=by
 obtain⟨k,a,e⟩:=vH h
 refine⟨k,by rw[z8 a,e],by simp[gy,oK,z8 a,e],fun j y c b f=>?_⟩
 simp only[gy,oK,BO]at b
 grind [Kh]
theorem Ke{xs:List Nat}(h:∀ j∈xs,j<65536):∀ y∈gy xs,gU .i64 y:=by
 grind [kY]
theorem Ju(h:s.ok fN fM){id:Int}{P:Nat->Prop}(hs:∀ j,P j->j∈s.inc id){j:Nat}(a:P j):j<65536:=by
 have b:=((h.inc id j).1 (hs j a)).1.1
 have:=h.kV.le
 have:=h.n
 have:=h.en
 omega
theorem inc_le(h:s.ok fN fM){a:IM}{id:Int}(o:mT s.im s.t a t1 id i)(c:Int):(fS a c).2.length<=65536:=by
 refine mF (Be s.A.begun _ (o.nd h.nd c) fun j b=>((h.inc c j).1 ((o.get c j).1 b).1).1.1) ?_
 have:=h.kV.le
 have:=h.n
 have:=h.en
 omega
theorem fW.uk{t:TW}(c:v2.A=As.new fM)(f:t.ok)(g:∀ x,¬ t.mem x)(e:t.A.n=fN)(d:fM<=16384)(hv:fN<=4096)(jg tb ab mb:Nat) :
 fW.ok fN fM ⟨jg,tb,ab,mb,.slice none 0 0,0,v2,t,[],[]⟩/\∀ x,¬ fW.has ⟨jg,tb,ab,mb,.slice none 0 0,0,v2,t,[],[]⟩ x:=by
 have b:∀ j,¬ v2.A.ij j:=fun j a=>by rw[c]at a;exact absurd a.1 (by simp[As.new])
 have hd:∀ j,fJ ([]:List Lv) j=⟨0,0,0,0,0,0,0⟩:=fun j=>rfl
 refine⟨⟨?_,e,d,hv,?_,f,?_,?_,?_,?_,?_,?_,?_,?_,?_,?_,?_,?_⟩,fun x ⟨j,a,_⟩=>b j a⟩
 . show v2.A.n=fM;rw[c];rfl
 . grind [As.uk]
 . show ([]:List Lv).length=v2.A.begun;rw[c];rfl
 . exact fun j a=>absurd a (b j)
 . intro j
   show Lv.ok (⟨0,0,0,0,0,0,0⟩:Lv)
   exact⟨kY (by show _/\_;decide),pJ (by show _/\_;decide),pJ (by show _/\_;decide),pJ (by show _/\_;decide),kY (by show _/\_;decide),kY (by show _/\_;decide),kY (by show _/\_;decide)⟩
 . exact fun j a=>absurd a (b j)
 . grind
 . exact xu
 . exact fun id j=>⟨fun h=>(by cases h),fun h=>absurd h.1 (b j)⟩
 . exact fun id=>xu
 . exact fun id=>⟨fun _=>rfl,fun _=>rfl⟩
 . exact fun j a=>absurd a (b j)
 . exact fun j _ a=>absurd a (b j)
 . exact Int.le_refl 0
inductive BT where
 | nil
 | nd (b:Nat) (l:BT) (x:Int) (t:Nat) (r:BT)
instance:Inhabited BT:=⟨.nil⟩
namespace BT
def kv:BT->List (Int×Nat)
 | nil=>[]
 | nd _ l x t r=>l.kv++(x,t) :: r.kv
def sz:BT->Nat
 | nil=>0
 | nd _ l _ t r=>t+l.sz+r.sz
def dc:BT->Nat
 | nil=>0
 | nd _ l _ _ r=>1+l.dc+r.dc
def ht:BT->Nat
 | nil=>0
 | nd _ l _ _ r=>max l.ht r.ht+1
def ptr:BT->Value
 | nil=>.pointer none
 | nd b _ _ _ _=>.pointer (some ⟨b,0,none⟩)
theorem AY:∀ t:BT,t.ht<=t.dc
 | nil=>zm _
 | nd _ l _ _ r=>by
  have a:=AY l
  have b:=AY r
  show max l.ht r.ht+1<=1+l.dc+r.dc
  omega
end BT
def mL(L:List (Int×Nat)):Nat:=(L.map (·.2)).sum
theorem ZD{A:List (Int×Nat)}:mL (A++B)=mL A+mL B:=by simp[mL]
theorem q8:mL (p :: B)=p.2+mL B:=rfl
theorem BT.k6:∀ t:BT,t.sz=mL t.kv
 | nil=>rfl
 | nd _ l x t r=>by
  show t+l.sz+r.sz=mL (l.kv++(x,t) :: r.kv)
  rw[ZD,q8,k6 l,k6 r]
  show t+mL l.kv+mL r.kv=mL l.kv+(t+mL r.kv)
  omega
theorem BT.xR:∀ t:BT,t.dc=t.kv.length
 | nil=>rfl
 | nd _ l x t r=>by
  show 1+l.dc+r.dc=(l.kv++(x,t) :: r.kv).length
  rw[zo,zh,xR l,xR r]
  omega
def jd(L:List (Int×Nat)):Prop:=(L.Pairwise fun a b=>a.1<b.1)/\∀ p∈L,0<p.2
theorem jd.len{L:List (Int×Nat)}(h:jd L):L.length<=mL L:=by
 have a:=h.2
 clear h
 induction L with
 | nil=>exact zm _
 | cons p L b =>
  grind [q8]
theorem jd.left{A:List (Int×Nat)}(h:jd (A++p :: B)):jd A:=⟨(DR.1 h.1).1,fun q a=>h.2 q (sN _ a)⟩
theorem jd.right{A:List (Int×Nat)}(h:jd (A++p :: B)):jd B:=⟨(pn.1 (DR.1 h.1).2.1).2,fun q a=>h.2 q (vG _ (zw _ a))⟩
theorem jd.lo{A:List (Int×Nat)}(h:jd (A++p :: B)):∀ q∈A,q.1<p.1:=fun q a=>(DR.1 h.1).2.2 q a p zd
theorem jd.hi{A:List (Int×Nat)}(h:jd (A++p :: B)):∀ q∈B,p.1<q.1:=fun q a=>(pn.1 (DR.1 h.1).2.1).1 q a
def jO(f:Nat->Nat)(x:Int):List (Int×Nat)->List (Int×Nat)
 | []=>if f 0=0 then[]else[(x,f 0)]
 | p :: L=>if x<p.1 then(if f 0=0 then p :: L else(x,f 0) :: p :: L)else if p.1<x then p :: jO f x L else if f p.2=0 then L else(x,f p.2) :: L
section
variable {f:Nat->Nat} {x:Int} {A B L:List (Int×Nat)} {p:Int×Nat}
theorem PZ(b:∀ q∈A,q.1<p.1)(h:x<p.1):jO f x (A++p :: B)=jO f x A++p :: B:=by
 induction A with
 | nil =>
  grind [jO]
 | cons a A c =>
  grind [jO]
theorem P5(b:∀ q∈A,q.1<x)(h:p.1<x):jO f x (A++p :: B)=A++p :: jO f x B:=by
 induction A with
 | nil =>
  grind [jO]
 | cons a A c =>
  grind [jO]
theorem P3(b:∀ q∈A,q.1<p.1):jO f p.1 (A++p :: B)=A++(if f p.2=0 then B else(p.1,f p.2) :: B):=by
 induction A with
 | nil =>
  grind [jO]
 | cons a A c =>
  grind [jO]
theorem P4(a:∀ q∈A,q.1<p.1)(h:f p.2≠0):jO f p.1 (A++p :: B)=A++(p.1,f p.2) :: B:=by rw[P3 a,if_neg h]
theorem ZE(a:∀ q∈A,q.1<p.1)(h:f p.2=0):jO f p.1 (A++p :: B)=A++B:=by rw[P3 a,if_pos h]
theorem P0:∀ {L:List (Int×Nat)} {q:Int×Nat},q∈jO f x L->q∈L\/(q=(x,f 0)/\f 0≠0)\/(q.1=x/\q.2≠0/\∃ y,(x,y)∈L/\q.2=f y)
 | [],q,h=>by
  unfold jO at h
  split at h
  . cases h
  . next hn=>exact .inr (.inl ⟨k7.1 h,hn⟩)
 | p :: L,q,h=>by
  unfold jO at h
  split at h
  . split at h
    . exact .inl h
    . next hn =>
      rcases zg.1 h with h|h
      . exact .inr (.inl ⟨h,hn⟩)
      . exact .inl h
  . next h1 =>
    split at h
    . rcases zg.1 h with h|h
      . exact .inl (h▸zd)
      . rcases P0 h with h|h|⟨h,a,y,b,c⟩
        . exact .inl (zw _ h)
        . exact .inr (.inl h)
        . exact .inr (.inr ⟨h,a,y,zw _ b,c⟩)
    . next a =>
      split at h
      . exact .inl (zw _ h)
      . next hn =>
        have d:p.1=x:=by omega
        rcases zg.1 h with h|h
        . subst h
          exact .inr (.inr ⟨rfl,hn,p.2,d▸zd,rfl⟩)
        . exact .inl (zw _ h)
theorem qC:∀ {L:List (Int×Nat)},jd L->jd (jO f x L)
 | [],h=>by
  unfold jO
  split
  . exact h
  . next hn=>exact⟨List.pairwise_singleton _ _,fun q a=>by rw[k7.1 a];exact Nat.pos_of_ne_zero hn⟩
 | p :: L,h=>by
  have b:=pn.1 h.1
  have c:jd L:=⟨b.2,fun q a=>h.2 q (zw _ a)⟩
  have hp:=h.2 p zd
  unfold jO
  split
  . next hx =>
    split
    . exact h
    . next hn =>
      refine⟨pn.2 ⟨fun q a=>?_,h.1⟩,fun q a=>?_⟩
      . rcases zg.1 a with rfl|a
        . exact hx
        . have:=b.1 q a
          show x<q.1
          omega
      . rcases zg.1 a with rfl|a
        . exact Nat.pos_of_ne_zero hn
        . exact h.2 q a
  . next hx =>
    split
    . next hx2 =>
      have d:=qC c
      refine⟨pn.2 ⟨fun q a=>?_,d.1⟩,fun q a=>?_⟩
      . rcases P0 a with a|a|a
        . exact b.1 q a
        . rw[a.1];exact hx2
        . rw[a.1];exact hx2
      . rcases zg.1 a with rfl|a
        . exact hp
        . exact d.2 q a
    . split
      . exact c
      . next hn =>
        have e:x=p.1:=by omega
        refine⟨pn.2 ⟨fun q a=>by have:=b.1 q a;show x<q.1;omega,b.2⟩,fun q a=>?_⟩
        rcases zg.1 a with rfl|a
        . exact Nat.pos_of_ne_zero hn
        . exact c.2 q a
end
def lex(L:List (Int×Nat)):List Int:=L.flatMap fun p=>List.replicate p.2 p.1
theorem yD{L:List (Int×Nat)}:lex (p :: L)=List.replicate p.2 p.1++lex L:=rfl
theorem JS:∀ {L:List (Int×Nat)},(lex L).length=mL L
 | []=>rfl
 | p :: L=>by rw[yD,zo,qL,JS];rfl
theorem vk{L:List (Int×Nat)}(h:jd L):x∈lex L↔∃ p∈L,p.1=x:=by
 unfold lex
 rw[pS]
 constructor
 . grind
 . rintro⟨p,hp,rfl⟩
   exact⟨p,hp,List.mem_replicate.2 ⟨by have:=h.2 p hp;omega,rfl⟩⟩
theorem JR:∀ {L:List (Int×Nat)} {x:Int},(lex (jO (· + 1) x L)).Perm (x :: lex L)
 | [],x=>by
  unfold jO
  rw[if_neg o_]
  exact List.Perm.refl _
 | p :: L,x=>by
  unfold jO
  split
  . rw[if_neg o_]
    exact List.Perm.refl _
  . split
    . rw[yD,yD]
      exact((JR (L:=L) (x:=x)).append_left _).trans sO
    . rw[if_neg o_]
      have a:x=p.1:=by omega
      subst a
      exact List.Perm.refl _
theorem FD:∀ {L:List (Int×Nat)} {x:Int},jd L->x∈lex L->(lex L).Perm (x :: lex (jO (· - 1) x L))
 | [],x,_,h=>by cases h
 | p :: L,x,hb,h=>by
  have b:=pn.1 hb.1
  have c:jd L:=⟨b.2,fun q a=>hb.2 q (zw _ a)⟩
  have hp:=hb.2 p zd
  obtain⟨q,a,d⟩:=(vk hb).1 h
  unfold jO
  rcases zg.1 a with rfl|a
  . subst d
    rw[if_neg o_,if_neg o_]
    have e:List.replicate q.2 q.1=q.1 :: List.replicate (q.2-1) q.1:=by
     obtain⟨k,g⟩:=Nat.exists_eq_succ_of_ne_zero (Nat.pos_iff_ne_zero.1 hp)
     rw[g]
     rfl
    rw[yD,e]
    split
    . next h0 =>
      have f:q.2-1=0:=h0
      rw[f]
      exact List.Perm.refl _
    . exact List.Perm.refl _
  . have i:=b.1 q a
    rw[if_neg o_,if_pos o_,yD,yD]
    exact((FD c ((vk c).2 ⟨q,a,d⟩)).append_left _).trans sO
def mK(L:List (Int×Nat)):Nat:=(L.map fun p=>p.1.toNat*p.1.toNat*p.2).sum
def tA(l:List Int):Nat:=(l.map fun x=>x.toNat*x.toNat).sum
theorem X7{b:List Int}:tA (a++b)=tA a+tA b:=by simp[tA]
theorem X8{b:List Int}(h:a.Perm b):tA a=tA b:=(h.map _).sum_nat
theorem O6{x:Int}:∀ n:Nat,tA (List.replicate n x)=x.toNat*x.toNat*n
 | 0=>rfl
 | n+1=>by
  show x.toNat*x.toNat+tA (List.replicate n x)=_
  rw[O6 n,Nat.mul_succ,Nat.add_comm]
theorem PW:∀ L:List (Int×Nat),mK L=tA (lex L)
 | []=>rfl
 | p :: L=>by
  rw[yD,X7,O6,<-PW L]
  rfl
theorem ZB{A:List (Int×Nat)}:mK (A++B)=mK A+mK B:=by simp[mK]
theorem PV:mK (p :: B)=p.1.toNat*p.1.toNat*p.2+mK B:=rfl
def sn(L:List (Int×Nat)):Int:=(L.getLast?.map (·.1)).getD 0
theorem YY{L:List (Int×Nat)}(h:jd L)(b:L≠[]):sn L∈lex L/\∀ y∈lex L,y<=sn L:=by
 rcases Md L with rfl|⟨A,p,rfl⟩
 . exact absurd rfl b
 . rw[Mc]at h ⊢
   have e:sn (A++[p])=p.1:=by simp[sn]
   rw[e]
   refine⟨(vk h).2 ⟨p,s_,rfl⟩,fun y c=>?_⟩
   obtain⟨q,a,rfl⟩:=(vk h).1 c
   rcases zn.1 a with a|a
   . exact Int.le_of_lt ((DR.1 h.1).2.2 q a p s_)
   . grind
theorem YX{A:List (Int×Nat)}(h:B≠[]):sn (A++p :: B)=sn B:=by
 grind [sn]
theorem YW{A:List (Int×Nat)}:sn (A++[p])=p.1:=by simp[sn]
abbrev tg(l r:BT)(x:Int)(t:Nat):List Value:=[l.ptr,r.ptr,.int .i64 x,.int .i64 (t:Int),.int .i64 ((t+l.sz+r.sz:Nat):Int),.int .i64 ((1+l.dc+r.dc:Nat):Int),.int .i64 ((max l.ht r.ht+1:Nat):Int)]
def gD(T:TypeId):BT->fT
 | .nil=>gh []
 | .nd b l x t r=>gh [blk b T (tg l r x t),gD T l,gD T r]
inductive BF where
 | fl (b:Nat) (x:Int) (t:Nat) (r:BT)
 | fr (b:Nat) (l:BT) (x:Int) (t:Nat)
def BF.put:BF->BT->BT
 | .fl b x t r,h=>.nd b h x t r
 | .fr b l x t,h=>.nd b l x t h
def E1:List BF->BT->BT
 | [],t=>t
 | f :: c,t=>E1 c (f.put t)
def U8(T:TypeId):BF->BT->List fT
 | .fl b x t r,h=>[blk b T (tg h r x t),gD T r]
 | .fr b l x t,h=>[blk b T (tg l h x t),gD T l]
def p7(T:TypeId):List BF->BT->fT
 | [],_=>gh []
 | f :: c,t=>gh (U8 T f t++[p7 T c (f.put t)])
section
variable {bs:List (World×List Nat)} {L:List fT} {w:World} {T:TypeId} {b t:Nat} {l r:BT} {x:Int} {c:List BF}
theorem St.IA(h:St bs (gD T (.nd b l x t r) :: L) w):St bs (blk b T (tg l r x t) :: gD T l :: gD T r :: L) w:=St.unpack h
theorem St.Iy(h:St bs (blk b T (tg l r x t) :: gD T l :: gD T r :: L) w):St bs (gD T (.nd b l x t r) :: L) w:=St.pack [_,_,_] L h
theorem St.Iz(h:St bs L w):St bs (gD T .nil :: L) w:=St.pack [] L h
theorem St.U7(h:St bs (gD T .nil :: L) w):St bs L w:=St.unpack h
theorem St.TN{s:BT}(h:St bs (gD T s :: L) w):St bs (p7 T [] s :: gD T s :: L) w:=St.pack [] _ h
theorem St.af8(h:St bs (p7 T c (.nd b l x t r) :: gD T (.nd b l x t r) :: L) w):St bs (p7 T (.fl b x t r :: c) l :: gD T l :: L) w:=by
 have a:=(St.IA h.swap).perm (L' := blk b T (tg l r x t) :: gD T r :: p7 T c (.nd b l x t r) :: gD T l :: L) ((((List.Perm.swap _ _ _).trans ((List.Perm.swap _ _ _).cons _)).trans (List.Perm.refl _)).cons _)
 exact St.pack [_,_,_] _ a
theorem St.TO(h:St bs (p7 T c (.nd b l x t r) :: gD T (.nd b l x t r) :: L) w):St bs (p7 T (.fr b l x t :: c) r :: gD T r :: L) w:=by
 have a:=(St.IA h.swap).perm (L' := blk b T (tg l r x t) :: gD T l :: p7 T c (.nd b l x t r) :: gD T r :: L) (((List.Perm.swap _ _ _).cons _).cons _)
 exact St.pack [_,_,_] _ a
theorem St.D5:∀ {c:List BF} {s:BT},St bs (p7 T c s :: gD T s :: L) w->St bs (gD T (E1 c s) :: L) w
 | [],s,h=>St.unpack (A:=[]) h
 | .fl b x t r :: c,s,h=>by
  have a:St bs (blk b T (tg s r x t) :: gD T r :: p7 T c (.nd b s x t r) :: gD T s :: L) w:=St.unpack h
  have d:=a.perm (L' := blk b T (tg s r x t) :: gD T s :: gD T r :: p7 T c (.nd b s x t r) :: L) ((((List.Perm.swap _ _ _).cons _).trans (List.Perm.swap _ _ _)).cons _)
  exact St.D5 (c:=c) (St.Iy d).swap
 | .fr b l x t :: c,s,h=>by
  have a:St bs (blk b T (tg l s x t) :: gD T l :: p7 T c (.nd b l x t s) :: gD T s :: L) w:=St.unpack h
  have d:=a.perm (L' := blk b T (tg l s x t) :: gD T l :: gD T s :: p7 T c (.nd b l x t s) :: L) (((List.Perm.swap _ _ _).cons _).cons _)
  exact St.D5 (c:=c) (St.Iy d).swap
end
def BT.cnt(x:Int):BT->Nat
 | nil=>0
 | nd _ l y t r=>if y=x then t else if x<y then l.cnt x else r.cnt x
theorem BT.AL{x:Int}:∀ {t:BT},jd t.kv->x∈lex t.kv->0<t.cnt x
 | nil,_,h=>by cases h
 | nd b l y t r,hb,h=>by
  obtain⟨p,hp,rfl⟩:=(vk hb).1 h
  have a : jd (l.kv++(y,t) :: r.kv):=hb
  unfold BT.cnt
  rcases zn.1 (show p∈l.kv++(y,t) :: r.kv from hp)with c|c
  . have e:=a.lo p c
    have d:p.1<y:=e
    rw[if_neg o_,if_pos d]
    exact AL a.left ((vk a.left).2 ⟨p,c,rfl⟩)
  . rcases zg.1 c with rfl|c
    . rw[if_pos rfl]
      exact a.2 (y,t) s_
    . have d:y<p.1:=a.hi p c
      rw[if_neg o_,if_neg o_]
      exact AL a.right ((vk a.right).2 ⟨p,c,rfl⟩)
theorem BT.aaR{t:BT}(h:0<t.cnt x):∃ b l y k r,t=BT.nd b l y k r:=by
 rcases t with _|⟨b,l,y,k,r⟩
 . exact absurd h (Nat.lt_irrefl 0)
 . exact⟨b,l,y,k,r,rfl⟩
theorem BT.VU{y:Int}{b t:Nat}{l r:BT}(h:0<(BT.nd b l y t r).cnt x)(a:x<y):0<l.cnt x:=by
 unfold BT.cnt at h
 rwa [if_neg o_,if_pos a]at h
theorem BT.VX{y:Int}{b t:Nat}{l r:BT}(h:0<(BT.nd b l y t r).cnt x)(a:y<x):0<r.cnt x:=by
 unfold BT.cnt at h
 rwa [if_neg o_,if_neg o_]at h
theorem BT.qA{t:BT}(h:jd t.kv):t.dc<=t.sz:=by
 rw[t.xR,t.k6]
 exact h.len
theorem BT.aaU{t:BT}(h:0<t.sz):∃ b l y k r,t=BT.nd b l y k r:=by
 rcases t with _|⟨b,l,y,k,r⟩
 . exact absurd h (Nat.lt_irrefl 0)
 . exact⟨b,l,y,k,r,rfl⟩
def BT.mx:BT->Int
 | nil=>0
 | nd _ _ x _ r=>if r.sz=0 then x else r.mx
theorem BT.Qf:∀ {t:BT},jd t.kv->t.mx=sn t.kv
 | nil,_=>rfl
 | nd b l x t r,h=>by
  have c : jd (l.kv++(x,t) :: r.kv):=h
  unfold BT.mx
  show _=sn (l.kv++(x,t) :: r.kv)
  split
  . next h0 =>
    have a:r.kv=[]:=zU.1 (by have:=c.right.len;rw[<-r.k6]at this;omega)
    rw[a,YW]
  . next h0 =>
    rw[YX (fun a=>h0 (by rw[r.k6,a];rfl)),Qf c.right]
section
variable {P:Program} {w:World} {v:Value} {xs:List Int} {e:TypeId} {f:FuncId}
theorem XL{b cap:Nat}{cur:Array Value}(d:w.heap[b]? = some (.cells cur e (0,0)))(f:cur.toList.take xs.length=xs.map (Value.int .i64)):Go.Sort.Holds (Value.int .i64) w b 0 xs.toArray:=by
 intro j g
 have a : j<xs.length:=by simpa using g
 have c:(cur.toList.take xs.length)[j]? = some (Value.int .i64 xs[j]):=by rw[f];simp[a]
 rw[Hz a]at c
 refine⟨?_,?_⟩
 . simp only[World.cell?,d]
   have e1:xs.toArray[j]! = xs[j]:=by simp[a]
   rw[e1]
   simpa using c
 . simp[World.frozen?,d]
theorem Wn(s:Own (iz .i64 v e xs) w)(hi:i<xs.length)(t:∀ b cap,Go.Sort.Holds (Value.int .i64) w b 0 xs.toArray->xs.length<=cap->cap<=9223372036854775807 ->
  Calls P f #[.slice (some ⟨b,0,none⟩) xs.length cap,.int .i64 (i:Int),.int .i64 ((i+1:Nat):Int)] w fun en w' => en = .returned (.slice (some ⟨b,0,none⟩) (xs.length-(i+1-i)) cap) /\
   ∃ q,w' = Go.Sort.putRow (Value.int .i64) (Go.Sort.ahead w q) b 0 (xs.take i++xs.drop (i+1)++List.replicate (i+1-i) 0).toArray) :
 CR P f #[v,.int .i64 (i:Int),.int .i64 ((i+1:Nat):Int)] w (fun r w' => fV (iz .i64 v e xs) w w' (iz .i64 r e (xs.eraseIdx i))):=by
 have H:w.ownsRow 0 e 1 v xs.length (xs.map (Value.int .i64)):=s.holds
 rcases H.2 with ⟨_,L⟩|⟨a, cap,cur,rfl,hb,g,o,k,l,m⟩
 . omega
 . have p : cur.toList.take xs.length=xs.map (Value.int .i64):=by rw[qO]at m;simpa using m
   refine Calls.mono (t a cap (XL (cap:=cap) g p) o (by simpa[maxLen]using k)) ?_
   rintro en w' ⟨rfl,q,rfl⟩
   refine⟨_,rfl,?_⟩
   have z:xs.eraseIdx i=xs.take i++xs.drop (i+1):=Ho xs i
   have E:(xs.eraseIdx i).length=xs.length-(i+1-i):=by rw[List.length_eraseIdx_of_lt hi];omega
   have A:a < w.heap.size:=(rG.1 g).1
   obtain⟨d,hd⟩:∃ d,d=(xs.take i++xs.drop (i+1)++List.replicate (i+1-i) 0).toArray:=⟨_,rfl⟩
   rw[<-hd]
   have y:d.size=xs.length:=by rw[hd];simp;omega
   have F:(Go.Sort.putRow (Value.int .i64) (Go.Sort.ahead w q) a 0 d).heap[a]? = some (.cells (Go.Sort.putCells (Value.int .i64) 0 d cur) e (0,0)):=by
    simp only[Go.Sort.putRow,Go.Sort.mapBlock,Go.Sort.ahead,DP,if_pos,g]
    rfl
   have G:∀ b,b≠a -> (Go.Sort.putRow (Value.int .i64) (Go.Sort.ahead w q) a 0 d).heap[b]? = w.heap[b]? := by
    intro b hb
    simp only[Go.Sort.putRow,Go.Sort.mapBlock,Go.Sort.ahead,DP]
    rw[if_neg (fun e=>hb e.symm)]
   have n:(Go.Sort.putRow (Value.int .i64) (Go.Sort.ahead w q) a 0 d).heap.size=w.heap.size:=by simp[Go.Sort.putRow,Go.Sort.mapBlock,Go.Sort.ahead]
   have I:(Go.Sort.putCells (Value.int .i64) 0 d cur).size=cur.size:=by simp[Go.Sort.putCells]
   have J:(Go.Sort.putCells (Value.int .i64) 0 d cur).toList.take (xs.eraseIdx i).length=(xs.eraseIdx i).map (Value.int .i64):=by
    apply oc
    intro j
    rw[vJ,oK]
    split
    . rename_i h
      have B:j<xs.length:=by omega
      have C:j<cur.size:=by
       have:xs.length<=cur.size:=by rw[l];omega
       omega
      have x:d[j]! = (xs.eraseIdx i)[j]:=by
       have u:d=(xs.eraseIdx i++List.replicate (i+1-i) 0).toArray:=by rw[hd,z]
       rw[u]
       have D:j<(xs.eraseIdx i++List.replicate (i+1-i) 0).toArray.size:=by simp only[List.size_toArray,zo];omega
       rw[getElem!_pos _ j D,List.getElem_toArray,List.getElem_append_left h]
      simp only[Go.Sort.putCells,zV,zdt,mE,true_and,tO,Nat.sub_zero]
      rw[uF C]
      simp only[Ac]
      rw[if_pos (by rw[y];exact B),x]
      simp[h]
    . rename_i h
      rw[rH o_]
      rfl
   refine⟨?_,⟨rfl,rfl,rfl,DX n.symm,fun b hb K=>G b (fun e=>K (by simp[row,Value.ownBlock,e]))⟩,fun b c => .inl (by simpa[row,Value.ownBlock]using c),by simp[row,Value.ownBlock],fun b c => ?_⟩
   . refine⟨s_,.inr ⟨a, cap,_,by rw[E],hb,F,o_,k,by rw[I];exact l,?_⟩⟩
     rw[qO]
     simpa using J
   . simp[row,Value.ownBlock]at c
     subst c
     rw[n]
     exact A
end
section
variable {P:Program} {t:TypeId} {w:World}
theorem acX{a b:Field}{xs ys:Array Value}{f g y2:Value}{c d:Bool}(ht:P.underlying t = some (.struct #[a, b]))(hs:P.stoodInHeld t = false)(n1:a.name ≠ "_")(h:b.name ≠ "_")(i:(part a.type xs a.offset).run P w = .ok f w)(j:(part a.type ys a.offset).run P w = .ok cv w)(p2:(part b.type xs b.offset).run P w = .ok g w)(k:(part b.type ys b.offset).run P w = .ok y2 w)(e1:(Op.equalIn 9999 a.type f cv).run P w = .ok c w)(e:(Op.equalIn 9999 b.type g y2).run P w = .ok d w):(Op.equal t (.agg xs) (.agg ys)).run P w = .ok (c&&d) w:=by
 show (Op.equalIn (9999+1) t _ _).run P w=_
 unfold Op.equalIn
 simp[run_underlying ht,hs,n1,h,i,j,p2,k,e1,e]
 cases c<;>cases d<;>simp[e]
theorem acV{e:TypeId}{k:IntKind}{z:Value}(ht:P.underlying t=some (.array 2 e))(f:P.underlying e=some (.int k))(hi:TI P e 1 n z)(a0 a1 b0 b1:Int) :
 (Op.equal t (.agg #[.int k a0,.int k a1]) (.agg #[.int k b0,.int k b1])).run P w = .ok (decide (a0=b0/\a1=b1)) w:=by
 have p:∀ (c d:Value),(part e #[c,d] 0).run P w = .ok c w/\(part e #[c,d] 1).run P w = .ok d w:=fun c d=>⟨tH f _ _ _ rfl,tH f _ _ _ rfl⟩
 have q:=fun a b=>Bp (P:=P) (w:=w) 9998 f a b
 simp only[Nat.reduceAdd]at q
 show (Op.equalIn 10000 t _ _).run P w=_
 unfold Op.equalIn
 simp only[zx,run_underlying ht,zp,hi.size,Std.Legacy.Range.forIn_eq_forIn_range', Std.Legacy.Range.size]
 simp only[show List.range' 0 ((2-0+1-1) / 1) 1=[0,1] from rfl,List.forIn_cons,List.forIn_nil,zx,qO,(p _ _).1,(p _ _).2,zp,q]
 by_cases h0:a0=b0
 . by_cases h1:a1=b1
   . simp[h0,h1,p,q,Result.andThen]
   . simp[h0,h1,p,q,Result.andThen]
 . simp[h0,p,q,Result.andThen]
theorem Rz(a:P.underlying t=some .bool)(xs:Array Value)(i:Nat)(v:Value)(h:xs[i]? = some v):(part t xs i).run P w = .ok v w:=by
 simp[part,wX a,kC,h]
end
section
variable {r:Option Nat} {P:Program} {ops:Array Oper} {Q:Exit->Act->World->Prop} {rest:List Oper} {n:Nat} {s:List (Nat×Value)} {ds:List Deferred} {w:World}
variable {d:Nat} {dd:Option Nat} {ty t t' : TypeId} {pos:String} {af:Array Edge} {g:Option (Nat×Bool)} {x y:Operand} {xs ys:Array Value} {c:Bool}
theorem aaB(d:ev n s x = .agg xs)(e:ev n s y = .agg ys)(b:P.eqGuardType P.depth t=false)(a:∀ w,(Op.equal t (.agg xs) (.agg ys)).run P w = .ok c w) :
 (execOp (ev n s) ⟨dd,.binOp .neq t x y t', ty,pos,af,g⟩).run P w = .ok (.value (.bool (!c))) w:=by
 simp only[execOp,d,e,zx,run_eqGuard_agg .neq b,zp]
 simp only[binOp,zx,a,zp,jU]
theorem FU(b:gI ops n s g=true)(f:ev n s x = .agg xs)(h:ev n s y = .agg ys)(e:P.eqGuardType P.depth t=false)(a:∀ w,(Op.equal t (.agg xs) (.agg ys)).run P w = .ok c w)(K:WL r P ops Q rest (Fr n ((d,.bool (!c)) :: s) ds) w):WL r P ops Q (⟨some d,.binOp .neq t x y t', ty,pos,af,g⟩ :: rest) (Fr n s ds) w:=pw b (fun _=>aaB f h e a) K
theorem WK(b:gI ops n s g=true)(f:ev n s x = .agg xs)(h:ev n s y = .agg ys)(e:P.eqGuardType P.depth t=false)(a:∀ w,(Op.equal t (.agg xs) (.agg ys)).run P w = .ok c w)(K:WL r P ops Q rest (Fr n ((d,.bool c) :: s) ds) w):WL r P ops Q (⟨some d,.binOp .eql t x y t', ty,pos,af,g⟩ :: rest) (Fr n s ds) w:=by
 refine pw b (fun _=>?_) K
 simp only[execOp,f,h,zx,run_eqGuard_agg .eql e,zp]
 simp only[binOp,zx,a,zp,jU]
end
section
variable {r:Option Nat} {P:Program} {ops:Array Oper} {Q:Exit->Act->World->Prop} {rest:List Oper} {n:Nat} {s:List (Nat×Value)} {ds:List Deferred} {w w' : World}
variable {d:Nat} {ty:TypeId} {pos:String} {af:Array Edge} {g:Option (Nat×Bool)}
theorem N7{f:FuncId}{a:List Operand}{T:Array TypeId}{vl:List Value}{v:Value}(c:gI ops n s g=true)(hvs:a.map (ev n s)=vl)(b:(callFunc f vl.toArray).run P w = .ok (.value v) w)(K:WL r P ops Q rest (Fr n ((d,v) :: s) ds) w):WL r P ops Q (⟨some d,.call ⟨.value (.func f),a.toArray,T⟩,ty,pos,af,g⟩ :: rest) (Fr n s ds) w:=by
 refine pv c rfl ?_ K
 simp only[execOp,resolve,invoke,Deferred.ofValue,FJ, hvs]
 simpa[ev]using b
end
section
variable {P:Program} {w:World} {f:FuncId} {γ:Type} {b:Nat} {k:IntKind} {enc:γ->Value} {m:List (Int×γ)}
theorem VC(h:Own (ia b k enc m) w)(l:∀ es g,w.heap[b]? = some (.map es g)->Calls P f #[.map (some b)] w fun e w' => e = .returned (.map (some w.heap.size))/\w' = w.alloc (.map es g)) :
 CR P f #[.map (some b)] w (fun r w' => ∃ b2,r = .map (some b2)/\fV (ia b k enc m) w w' (gh [ia b k enc m,ia b2 k enc m])):=by
 obtain⟨es,d,i,j⟩:=h.holds
 have n:=St.Jx h
 refine Calls.mono (l _ _ i) ?_
 rintro e w' ⟨rfl,rfl⟩
 refine⟨_,rfl,w.heap.size,rfl,?_⟩
 have o:St [(w,(ia b k enc m).gJ)] (ia w.heap.size k enc m :: [ia b k enc m]) (w.alloc (.map (es.map (lT k)).toArray d)) :=
  n.rU (gx.alloc [] w _) (fun c a=>by simp[ia]at a;omega) (by simp[ia]) (fun c a=>by simp[ia]at a;simp;omega) ⟨es,d,heap_alloc_new w _,j⟩
 exact St.WE (o.perm (List.Perm.swap _ _ _)) zd
end
section
variable {r:Option Nat} {P:Program} {ops:Array Oper} {Q:Exit->Act->World->Prop} {rest:List Oper} {n:Nat} {s:List (Nat×Value)} {ds:List Deferred} {w:World}
variable {d:Nat} {dd:Option Nat} {ty t t' e kt:TypeId} {pos:String} {af:Array Edge} {g:Option (Nat×Bool)} {x y:Operand} {a:Option Nat} {c:Bool}
theorem acZ(k:Nat)(ht:P.underlying t=some (.map kt e)):(Op.equalIn (k+1) t (.map a) (.map none)).run P w = .ok a.isNone w:=by
 cases a<;>simp[Op.equalIn,run_underlying ht]
theorem aaF(b:ev n s x = .map a)(d:ev n s y = .map none)(ht:P.underlying t=some (.map kt e))(hc:(!a.isNone)=c) :
 (execOp (ev n s) ⟨dd,.binOp .neq t x y t', ty,pos,af,g⟩).run P w = .ok (.value (.bool c)) w:=by
 subst hc
 simp[execOp,b,d,eqGuard,binOp,Op.equal,Op.maxDepth,acZ 9999 ht]
theorem Qk(b:gI ops n s g=true)(f:ev n s x = .map a)(h:ev n s y = .map none)(ht:P.underlying t=some (.map kt e))(hc:(!a.isNone)=c)(K:WL r P ops Q rest (Fr n ((d,.bool c) :: s) ds) w):WL r P ops Q (⟨some d,.binOp .neq t x y t', ty,pos,af,g⟩ :: rest) (Fr n s ds) w:=pw b (fun _=>aaF f h ht hc) K
end
section
variable {γ:Type} {r:Option Nat} {P:Program} {ops:Array Oper} {Q:Exit->Act->World->Prop} {rest:List Oper} {n:Nat} {s:List (Nat×Value)} {ds:List Deferred} {w:World}
variable {d:Nat} {ty t kt e:TypeId} {pos:String} {af:Array Edge} {g:Option (Nat×Bool)} {x:Operand} {bs:List (World×List Nat)} {L:List fT} {a:Int} {k' : IntKind}
theorem aai(enc:γ->Value)(k:IntKind)(c:gI ops n s g=true)(h:ev n s x = .int k' a)(ht:P.underlying t=some (.map kt e))(f:St bs L w)(K:∀ b w', w.heap.size<=b->gx [] w w' -> St bs (ia b k enc [] :: L) w' -> WL r P ops Q rest (Fr n ((d,.map (some b)) :: s) ds) w') :
 WL r P ops Q (⟨some d,.makeMap t (some x),ty,pos,af,g⟩ :: rest) (Fr n s ds) w:=by
 refine pv (v:=.map (some w.heap.size)) (w' := w.alloc (.map #[] 0)) c rfl ?_ (K _ _ (zm _) (gx.alloc [] w _) ?_)
 . simp only[execOp,Ac,Instr.makeMap,h,zx,run_underlying ht,zp,asInt,jU]
   rfl
 . exact f.rU (gx.alloc [] w _) (fun b hb=>by simp[ia]at hb;omega) (by simp[ia]) (fun b hb=>by simp[ia]at hb;simp;omega) ⟨[],0,heap_alloc_new w _,rfl,s_,s_⟩
end
section
variable {γ:Type}
def mA(b r:Nat)(k:IntKind)(enc:γ->Value)(m todo:List (Int×γ))(cur:Option (Int×γ)):fT where
 gJ:=[b,r]
 holds w:=∃ (es:List (Int×Value×Nat)) (a:Nat) (f:Array Nat) (c d:Nat),w.heap[b]? = some (.map (es.map (lT k)).toArray a)/\es.map (fun e=>(e.1,e.2.1))=m.map (fun p=>(p.1,enc p.2))/\(es.map (fun e=>e.2.2)).Nodup/\(∀ e∈es,e.2.2<a) /\
  w.heap[r]? = some (.mapIter (some b) c f d)/\c<=d/\c<=a/\(∀ e∈es,e.2.2<c) /\
  (es.filter fun e => !f.contains e.2.2).map (fun e=>(e.1,e.2.1))=todo.map (fun p=>(p.1,enc p.2)) /\
  ∀ p,cur=some p->d=a/\∃ (q:Array Nat) (e:Int×Value×Nat),f=q.push e.2.2/\e∈es/\e.1=p.1/\e.2.1=enc p.2
 loc w w' h hh:=by
  obtain⟨es,a,f,c,d,g,i,j,l,n,o⟩:=hh
  exact⟨es,a,f,c,d,(h b s_).trans g,i,j,l,(h r s_).trans n,o⟩
theorem Xg{es:List (Int×Value×Nat)}{p:Nat->Bool}{e:Int×Value×Nat}(b:(es.map (fun e=>e.2.2)).Nodup)(a:e∈es)(hp:p e.2.2=true) :
 ∃ j,(es.filter fun x=>p x.2.2)[j]? = some e/\(es.filter fun x=>p x.2.2 && !(x.2.2==e.2.2))=(es.filter fun x=>p x.2.2).eraseIdx j:=by
 induction es with
 | nil=>simp at a
 | cons x es i =>
  simp only[l9,zz]at b
  rcases zg.1 a with rfl|a
  . refine⟨0,by simp[hp],?_⟩
    rw[tL,if_neg s_,tL,if_pos hp]
    simp only[List.eraseIdx_cons_zero]
    refine uJ fun y g=>?_
    have:y.2.2≠e.2.2:=fun h=>b.1 (by rw[<-h];exact zq.2 ⟨y,g,rfl⟩)
    simp[this]
  . obtain⟨j,c,d⟩:=i b.2 a
    have f:x.2.2≠e.2.2:=fun h=>b.1 (by rw[h];exact zq.2 ⟨e,a,rfl⟩)
    by_cases hx:p x.2.2=true
    . refine⟨j+1,by rw[tL,if_pos hx];simpa using c,?_⟩
      rw[tL,if_pos (by simp[hx,f]),tL,if_pos hx,List.eraseIdx_cons_succ,d]
    . refine⟨j,by rw[tL,if_neg hx];exact c,?_⟩
      rw[tL,if_neg (by simp[hx]),tL,if_neg hx,d]
end
section
variable {γ:Type} {enc:γ->Value}
variable {r:Option Nat} {P:Program} {ops:Array Oper} {Q:Exit->Act->World->Prop} {rest l:List Oper} {n:Nat} {s s0:List (Nat×Value)} {ds:List Deferred} {w w0:World} {Nx:Value->World->Prop}
variable {d:Nat} {dd:Option Nat} {ty:TypeId} {pos:String} {af:Array Edge} {g:Option (Nat×Bool)} {x y m:Operand} {bs:List (World×List Nat)} {L L' : List fT} {t e kt:TypeId} {b rb:Nat} {k k' : IntKind} {mm todo:List (Int×γ)} {a:Int} {z v:Value} {c:γ} {cur:Option (Int×γ)}
theorem rgM(i:Nat)(x:gI ops n s g=true)(hm:ev n s m = .map (some b))(ht:P.underlying t=some (.map kt e))(j:St bs L w)(h:L[i]? = some (ia b k enc mm))(K:∀ rb w', St bs (L.set i (mA b rb k enc mm mm none)) w' -> WL r P ops Q rest (Fr n ((d,.pointer (some ⟨rb,0,none⟩)) :: s) ds) w'):WL r P ops Q (⟨some d,.range t m,ty,pos,af,g⟩ :: rest) (Fr n s ds) w:=by
 obtain⟨es,a,l,o,u,q⟩:(ia b k enc mm).holds w:=j.own _ (ze h)
 have y:=JZ j h
 refine pv (v:=.pointer (some ⟨w.heap.size,0,none⟩)) (w' := w.alloc (.mapIter (some b) a #[] a)) x rfl ?_ (K _ _ ?_)
 . simp only[execOp,hm,zx,run_range_map w t kt e b _ a ht l,zp,jU]
 . refine j.iP h (gx.alloc _ w _) (fun c f=>?_) ?_ (fun c f=>?_) ?_
   . simp[mA]at f
     rcases f with rfl|rfl
     . exact .inl (by simp[ia])
     . exact .inr (zm _)
   . simp[mA];omega
   . simp[mA]at f
     simp only[World.alloc,Array.size_push]
     omega
   . exact⟨es,a,#[],a,a,(heap_alloc_old w _ y).trans l,o,u,q,heap_alloc_new w _,zm _,zm _,q,by rw[qN.2 s_];exact o,fun p hp=>by cases hp⟩
theorem St.ZP(e:St bs L w)(d:L[i]? = some (mA b rb k enc mm todo cur)):St bs (L.set i (ia b k enc mm)) w:=by
 obtain⟨es,f,o,n,m,g,h,j,l,_⟩:(mA b rb k enc mm todo cur).holds w:=e.own _ (ze d)
 refine e.iP d (gx.refl _ w) (fun c a=>.inl ?_) (by simp[ia]) (fun c a=>?_) ⟨es,f,g,h,j,l⟩
 . simp[ia]at a
   simp[mA,a]
 . refine e.lt c (su d ?_)
   simp[ia]at a
   simp[mA,a]
structure TX (P:Program) (bs:List (World×List Nat)) (L:List fT) (i b rb:Nat) (k:IntKind) (enc:γ->Value) (mm todo todo2:List (Int×γ)) (p:Int×γ) (w w' : World):Prop where
 run:∀ ty,(Instr.next (.pointer (some ⟨rb,0,none⟩)) false ty).run P w = .ok (.tuple #[.bool true,.int k p.1,enc p.2]) w'
 st:St bs (L.set i (mA b rb k enc mm todo2 (some p))) w'
 perm:todo.Perm (p :: todo2)
theorem ZQ(P:Program)(s:St bs L w)(r:L[i]? = some (mA b rb k enc mm todo cur)) :
 (todo=[]/\∀ ty,(Instr.next (.pointer (some ⟨rb,0,none⟩)) false ty).run P w = .ok (.tuple #[.bool false]) w)\/∃ p ag w', TX P bs L i b rb k enc mm todo ag p w w' := by
 obtain⟨es,f,d,m,D,t,X,E,Y,u,F,G, H,o,h9⟩:(mA b rb k enc mm todo cur).holds w:=s.own _ (ze r)
 have hb:b<w.heap.size:=s.lt b (su r (by simp[mA]))
 have ad:rb<w.heap.size:=s.lt rb (su r (by simp[mA]))
 have N:b≠rb:=by
  rintro rfl
  rw[t]at u
  cases u
 have O:∀ x∈(es.map (lT k)).toArray.toList,x.born<m:=by
  intro x C
  simp at C
  obtain⟨a,v,q,hm,rfl⟩:=C
  exact H _ hm
 have B:(leftOf (es.map (lT k)).toArray d).toList=(es.filter fun e => !d.contains e.2.2).map (lT k):=by
  unfold leftOf
  simp only[Array.toList_filter,List.filter_map]
  rfl
 by_cases h0:todo=[]
 . left
   subst h0
   refine⟨rfl,fun ty=>?_⟩
   have z:(leftOf (es.map (lT k)).toArray d).size=0:=by
    rw[<-uI,B,zu]
    have:=congrArg List.length o
    simpa using this
   rcases run_next_at (P:=P) w ty rb b m D d _ f u t O F with ⟨_,h⟩|⟨e,n,_⟩
   . exact h
   . rw[Array.eq_empty_of_size_eq_zero z]at n
     simp at n
 . right
   have af:∃ e∈(leftOf (es.map (lT k)).toArray d).toList,∃ w1:World,(w1=w\/w1=w.drew)/\∀ ty,(Instr.next (.pointer (some ⟨rb,0,none⟩)) false ty).run P w = .ok (.tuple #[.bool true,e.key,e.val]) (Go.ChangeMaps.setBlock w1 rb (.mapIter (some b) m (d.push e.born) f)):=by
    rcases run_next_at (P:=P) w 0 rb b m D d _ f u t O F with ⟨z,_⟩|⟨e,n,w1,y,hr⟩
    . exfalso
      rw[<-uI,B,zu]at z
      have g:=congrArg List.length o
      rw[zu,zu,z]at g
      exact h0 (zU.1 g.symm)
    . exact⟨e,n,w1,y,fun ty=>hr⟩
   obtain⟨e9,J,w1,y,ae⟩:=af
   rw[B]at J
   obtain⟨e,n,rfl⟩:=zq.1 J
   obtain⟨K,aa⟩:=zy.1 n
   obtain⟨j,M,ab⟩:=Xg (p:=fun q => !d.contains q) E K aa
   have ah:=(zt.1 M).1
   have ac:=congrArg List.length o
   rw[zu,zu]at ac
   have hp:todo[j]? = some (todo[j]'o_):=z8 o_
   generalize (todo[j]'o_)=p at hp
   have S:(e.1,e.2.1)=(p.1,enc p.2):=by
    have g:=congrArg (fun l=>l[j]?) o
    simp only[oK,M,hp,Ac]at g
    exact Option.some.inj g
   have Q:e.1=p.1:=congrArg Prod.fst S
   have R:e.2.1=enc p.2:=congrArg Prod.snd S
   have T:w1.heap=w.heap:=by rcases y with rfl|rfl<;>rfl
   have Z:gx [] w w1:=by
    rcases y with rfl|rfl
    . exact gx.refl _ _
    . exact gx.drew _ _
   have I:gx (mA b rb k enc mm todo cur).gJ w (Go.ChangeMaps.setBlock w1 rb (.mapIter (some b) m (d.push e.2.2) f)) :=
    (Z.mono s_).trans ((Vo (b:=rb) w1 _).mono (by simp[mA]))
   refine⟨p,todo.eraseIdx j,Go.ChangeMaps.setBlock w1 rb (.mapIter (some b) m (d.push e.2.2) f),⟨fun ty=>?_,?_,?_⟩⟩
   . rw[ae ty]
     simp only[Q,R]
   . refine s.iP r I (fun c A=>.inl A) ?_ (fun c A=>?_) ?_
     . simp[mA,N]
     . exact oJ (s.lt c (su r A)) I.size
     . refine⟨es,f,d.push e.2.2,m,f,?_,X,E,Y,?_,G, G, H,?_,fun q hq=>?_⟩
       . show (w1.heap.setIfInBounds rb _)[b]? = _
         rw[T,Array.getElem?_setIfInBounds_ne (Ne.symm N)]
         exact t
       . show (w1.heap.setIfInBounds rb _)[rb]? = _
         rw[T]
         simp[ad]
       . have:(es.filter fun x => !(d.push e.2.2).contains x.2.2)=(es.filter fun x => !d.contains x.2.2 && !(x.2.2==e.2.2)):=by
          refine uJ fun x C=>?_
          rw[Array.contains_push,Bool.not_or]
         rw[this,ab,<-Ja,o,Ja]
       . cases hq
         exact⟨rfl,d,e,rfl,K,Q,R⟩
   . have g:=(zt.1 hp)
     obtain⟨U,V⟩:=g
     have W:todo=todo.take j++p :: todo.drop (j+1):=by
      rw[<-V,<-Hw U,zY]
     rw[Ho]
     exact(List.Perm.of_eq W).trans sO
theorem Qr{u:Value}(a:gI ops n s g=true)(b:ev n s x=v)(h:(Instr.next v false ty).run P w = .ok u w')(K:WL r P ops Q rest (Fr n ((d,u) :: s) ds) w'):WL r P ops Q (⟨some d,.next x false,ty,pos,af,g⟩ :: rest) (Fr n s ds) w :=
 pv a rfl (by simp only[execOp,b,zx,h,zp,jU]) K
theorem WD{p:Int×γ}(i:Nat)(q:gI ops n s g=true)(y:ev n s x = .pointer (some ⟨rb,0,none⟩))(v:St bs L w)(l:L[i]? = some (mA b rb k enc mm todo (some p)))(K:WL r P ops Q rest (Fr n ((d,.tuple #[.int k p.1,enc p.2]) :: s) ds) w):WL r P ops Q (⟨some d,.entry x,ty,pos,af,g⟩ :: rest) (Fr n s ds) w:=by
 obtain⟨es,B,I,z,a,c,C,f,D,h,E,F, G,H,j⟩:(mA b rb k enc mm todo (some p)).holds w:=v.own _ (ze l)
 obtain⟨rfl,A,e,rfl,o,t,u⟩:=j p rfl
 have m:=run_entry_at (P:=P) w rb b z A (es.map (lT k)).toArray a (lT k e) h c (by simp only[zq];exact⟨e,o,rfl⟩) (by rw[xw];exact f)
 refine pv q rfl (by simp only[execOp,y,zx,m,zp,jU,t,u]) K
end
theorem aae{γ:Type}{m m2:List (Int×γ)}{a:Int}:ig (m++m2) a=if ig m a=none then ig m2 a else ig m a:=by
 induction m with
 | nil=>simp[ig]
 | cons p m c =>
  obtain⟨b,y⟩:=p
  simp only[nH,ig]
  split
  . simp
  . exact c
structure pV (im0 dn todo dn2 im2:IM):Prop where
 perm:(dn++todo).Perm im0
 same:dn2.map (fun p=>(p.1,p.2.2))=dn.map (fun p=>(p.1,p.2.2))
 keys:(im2.map Prod.fst).Nodup
 get:∀ a,ig im2 a=if ig dn2 a=none then ig im0 a else ig dn2 a
theorem pV.start{b:IM}(h:(b.map Prod.fst).Nodup):pV b [] b [] b:=⟨List.Perm.refl _,rfl,h,fun a=>by simp[ig]⟩
theorem pV.Pj{c a b im2:IM}(h:pV c a G b im2):b.map Prod.fst=a.map Prod.fst:=by
 have:=congrArg (List.map Prod.fst) h.same
 rw[xw,xw]at this
 exact this
theorem pV.nodup{b a c im2:IM}(h:pV b a G c im2)(d:(b.map Prod.fst).Nodup):((a++G).map Prod.fst).Nodup:=((h.perm.map Prod.fst).nodup_iff).2 d
theorem pV.next{d b e c im2:IM}{p:Int×(Value×List Nat)}(h:pV d b G c im2)(g:(d.map Prod.fst).Nodup)(hp:G.Perm (p :: e))(v:Value) :
 pV d (b++[p]) e (c++[(p.1,(v,p.2.2))]) (gr im2 p.1 (v,p.2.2)):=by
 have j:(b++[p]++e).Perm (b++G):=by
  rw[z7]
  exact(hp.symm.append_left b)
 have f:=h.nodup g
 have i:ig c p.1=none:=by
  rw[FN,h.Pj]
  intro hm
  rw[nt,zr]at f
  exact f.2.2 _ hm p.1 (zq.2 ⟨p,hp.mem_iff.2 s_,rfl⟩) rfl
 refine⟨j.trans h.perm,?_,wP h.keys _ _,fun a=>?_⟩
 . rw[nt,nt,h.same]
   rfl
 . rw[vm,aae,h.get]
   by_cases ha:p.1=a
   . subst ha
     simp[i,ig]
   . simp only[if_neg ha,ig]
     split<;>simp_all
theorem pV.at{a b f c im2:IM}{p:Int×(Value×List Nat)}(h:pV a b G c im2)(d:(a.map Prod.fst).Nodup)(hp:G.Perm (p :: f)):(fS a p.1).2=p.2.2:=by
 have e:(p.1,p.2)∈a:=h.perm.mem_iff.1 (vG _ (hp.mem_iff.2 s_))
 unfold fS
 rw[J8 d e]
 rfl
theorem Qa{γ:Type}{m m2:List (Int×γ)}(hp:m.Perm m2)(h:(m.map Prod.fst).Nodup)(a:Int):ig m a=ig m2 a:=by
 have b:(m2.map Prod.fst).Nodup:=((hp.map Prod.fst).nodup_iff).1 h
 cases hm:ig m a with
 | some x=>exact(J8 b (hp.mem_iff.1 (J7 hm))).symm
 | none =>
  rw[FN]at hm
  symm
  rw[FN]
  intro c
  exact hm (((hp.map Prod.fst).mem_iff).2 c)
theorem QL{γ:Type}:∀ {m m2:List (Int×γ)},(m.map Prod.fst).Nodup->(m2.map Prod.fst).Nodup->(∀ a,ig m a=ig m2 a)->m.Perm m2
 | [],m2,_,_,h=>by
  cases m2 with
  | nil=>exact List.Perm.refl _
  | cons p m2=>have:=h p.1;obtain⟨b,y⟩:=p;simp[ig]at this
 | p :: m,m2,h1,h2,h=>by
  obtain⟨b,y⟩:=p
  have hb:ig m2 b=some y:=by rw[<-h b];simp[ig]
  have f:=FO hb
  have d:=Kk h2 b
  simp only[l9,zz]at h1
  refine(List.Perm.cons _ (QL h1.2 d fun a=>?_)).trans f.symm
  rw[FM h2]
  have c:=h a
  simp only[ig]at c
  split
  . rename_i e
    subst e
    exact FN.2 h1.1
  . rename_i e
    rw[if_neg e]at c
    exact c
theorem Qb{d c:IM}(h:c.map (fun p=>(p.1,p.2.2))=d.map (fun p=>(p.1,p.2.2)))(a:Int):(ig c a=none↔ig d a=none)/\(fS c a).2=(fS d a).2:=by
 induction d generalizing c with
 | nil =>
  cases c with
  | nil=>exact⟨Iff.rfl,rfl⟩
  | cons q c=>simp at h
 | cons p d g =>
  cases c with
  | nil=>simp at h
  | cons q c =>
   simp only[l9,List.cons.injEq,Prod.mk.injEq]at h
   obtain⟨⟨e1,e⟩,f⟩:=h
   obtain⟨b,v,xs⟩:=p
   obtain⟨b2,v2,i⟩:=q
   simp only at e1 e
   subst e1 e
   have:=g f
   unfold fS at this ⊢
   simp only[ig]
   split
   . simp
   . exact this
theorem pV.fin{b d e im2:IM}(h:pV b d G e im2)(j:(b.map Prod.fst).Nodup)(ht:G=[]) :
 d.Perm b/\e.Perm im2/\(im2.map Prod.fst).Nodup/\∀ a,(ig im2 a=none↔ig b a=none)/\(fS im2 a).2=(fS b a).2:=by
 subst ht
 have hp:d.Perm b:=by simpa using h.perm
 have f:(d.map Prod.fst).Nodup:=((hp.map Prod.fst).nodup_iff).2 j
 have m:(e.map Prod.fst).Nodup:=by rw[h.Pj];exact f
 have g:∀ a,ig e a=ig im2 a:=by
  intro a
  rw[h.get]
  split
  . rename_i i
    rw[i]
    have c:=((Qb h.same a).1).1 i
    rw[Qa hp f a]at c
    exact c.symm
  . rfl
 refine⟨hp,QL m h.keys g,h.keys,fun a=>?_⟩
 have c:=Qb h.same a
 have k:=Qa hp f a
 have l:=g a
 unfold fS at c ⊢
 rw[<-l,<-k]
 exact c
theorem Dh{v:Value}{e:TypeId}(b:∀ x:Nat,cf x=[.int .i64 (x:Int)])(ds:List Nat):fL cf v e 1 ds=iz .i64 v e (gy ds):=by
 have a:ds.flatMap cf=(gy ds).map (.int .i64):=by
  unfold gy
  induction ds with
  | nil=>rfl
  | cons d ds c=>simp[b,c]
 show row v e 1 ds.length _=row v e 1 (gy ds).length _
 rw[a,show (gy ds).length=ds.length by simp[gy]]
theorem St.acJ{L:List fT}{w:World}{v:Value}{e:TypeId}(a:∀ x:Nat,cf x=[.int .i64 (x:Int)])(h:St bs (iz .i64 v e (gy ds) :: L) w):St bs (fL cf v e 1 ds :: L) w:=by
 rw[Dh a]
 exact h
theorem St.Rv{L:List fT}{w:World}{v:Value}{e:TypeId}(a:∀ x:Nat,cf x=[.int .i64 (x:Int)])(h:St bs (fL cf v e 1 ds :: L) w):St bs (iz .i64 v e (gy ds) :: L) w:=by
 rw[Dh a]at h
 exact h
def qg{α:Type}(cf:α->List Value)(e:TypeId)(sz:Nat)(l:List (Value×List α)):fT:=gh (l.map fun p=>fL cf p.1 e sz p.2)
abbrev vj{α:Type}(cf:α->List Value)(e:TypeId)(l:List (Value×List α)):fT:=qg cf e 1 l
abbrev x9(e:TypeId)(l:List (Value×List Nat)):fT:=vj fU e l
theorem set_perm{α:Type}:∀ (l:List α) (i:Nat) (x:α),i<l.length->(l.set i x).Perm (x :: l.eraseIdx i)
 | y :: l,0,x,_=>List.Perm.refl _
 | y :: l,i+1,x,h=>((set_perm l i x (by simpa using h)).cons y).trans (List.Perm.swap _ _ _)
 | [],i,x,h=>by simp at h
theorem OU{α:Type}[Inhabited α]{l:List α}{i:Nat}(h:i<l.length):l.Perm (fJ l i :: l.eraseIdx i):=by
 have a:=set_perm l i (fJ l i) h
 have b:l.set i (fJ l i)=l:=by
  apply oc
  intro j
  rw[Ab]
  split
  . rename_i c
    subst c
    exact(gz h).symm
  . rfl
 rwa [b]at a
abbrev lB{α:Type}(p:Value×List α):List Value:=[p.1]
instance {α:Type}:Inhabited (Value×List α):=⟨(.slice none 0 0,[])⟩
section
variable {α:Type} {cf:α->List Value} {bs:List (World×List Nat)} {L:List fT} {w:World} {e:TypeId} {l:List (Value×List α)} {i sz:Nat}
theorem St.JK{a:List (Value×List α)}(h:St bs (qg cf e sz l :: L) w)(hp:l.Perm a):St bs (qg cf e sz a :: L) w :=
 St.pack _ _ ((St.unpack h).perm ((hp.map _).append_right _))
theorem St.Ys{p:Value×List α}(h:St bs (qg cf e sz (p :: l) :: L) w):St bs (fL cf p.1 e sz p.2 :: qg cf e sz l :: L) w:=by
 have a:St bs (([fL cf p.1 e sz p.2]++l.map fun p=>fL cf p.1 e sz p.2)++L) w:=St.unpack h
 rw[z7]at a
 have b:=a.perm (L' := (l.map fun p=>fL cf p.1 e sz p.2)++([fL cf p.1 e sz p.2]++L)) (by
  rw[<-z7,<-z7]
  exact List.Perm.append_right _ qM)
 exact(St.pack _ _ b).swap
theorem St.IV{p:Value×List α}(h:St bs (fL cf p.1 e sz p.2 :: qg cf e sz l :: L) w):St bs (qg cf e sz (p :: l) :: L) w:=by
 have a:St bs ((l.map fun p=>fL cf p.1 e sz p.2)++(fL cf p.1 e sz p.2 :: L)) w:=St.unpack h.swap
 refine St.pack _ _ (a.perm ?_)
 show List.Perm _ (fL cf p.1 e sz p.2 :: ((l.map fun p=>fL cf p.1 e sz p.2)++L))
 exact sO
theorem St.CJ(i:Nat)(h:St bs (qg cf e sz l :: L) w)(hi:i<l.length):St bs (fL cf (fJ l i).1 e sz (fJ l i).2 :: qg cf e sz (l.eraseIdx i) :: L) w :=
 (h.JK (OU hi)).Ys
theorem St.Pp{v:Value}{xs:List α}(h:St bs (fL cf v e sz xs :: qg cf e sz (l.eraseIdx i) :: L) w)(hi:i<l.length):St bs (qg cf e sz (fO l i (fun _=>(v,xs))) :: L) w :=
 (St.IV (p:=(v,xs)) h).JK (set_perm l i (v,xs) hi).symm
theorem St.JJ(h:St bs (fL cf (fJ l i).1 e sz (fJ l i).2 :: qg cf e sz (l.eraseIdx i) :: L) w)(hi:i<l.length):St bs (qg cf e sz l :: L) w :=
 (St.IV (p:=fJ l i) h).JK (OU hi).symm
theorem St.Yt(h:St bs L w):St bs (qg cf e sz [] :: L) w:=St.pack [] L h
theorem St.Po(n:Nat)(h:St bs L w):St bs (qg cf e sz (List.replicate n (.slice none 0 0,[])) :: L) w:=by
 induction n with
 | zero=>exact h.Yt
 | succ n a=>exact St.IV (p:=(.slice none 0 0,[])) (St.ER a e sz)
theorem wz{a v:Value}(hi:i<l.length)(hv:(fJ l i).1=v):(a :: b :: l.flatMap lB)[2+i]? = some v:=by
 have h:=vg (cf:=lB) (sz:=1) (fun _=>rfl) l i 0 (fJ l i) v (gz hi) (by rw[<-hv];rfl)
 rw[qO,tM]at h
 rw[Nat.add_comm]
 exact h
theorem JH{a v:Value}{xs:List α}(hi:i<l.length):setAt (a :: b :: l.flatMap lB) (2+i) [v]=a :: b :: (fO l i (fun _=>(v,xs))).flatMap lB:=by
 have h:=Gc (cf:=lB) (sz:=1) (off:=0) (vs:=[v]) (f:=fun _=>(v,xs)) (fun _=>rfl) hi rfl (zm _)
 rw[qO,tM]at h
 have c:=RH (a:=[a,b]) (b:=l.flatMap lB) (vs:=[v]) (o:=i)
 rw[h]at c
 exact c
theorem Ye{a:Value}(hi:i<l.length):2+i+1<=(a :: b :: l.flatMap lB).length:=by
 rw[zh,zh,qY (sz:=1) (fun _=>rfl)]
 omega
end
def oU{α:Type}(cf:α->List Value)(sz:Nat)(e:TypeId)(m:List (Int×(Value×List α))):fT:=gh (m.map fun p=>fL cf p.2.1 e sz p.2.2)
section
variable {α:Type} {cf:α->List Value} {bs:List (World×List Nat)} {L:List fT} {w:World} {e:TypeId} {sz:Nat} {m:List (Int×(Value×List α))} {a:Int}
theorem St.OA{m2:List (Int×(Value×List α))}(h:St bs (oU cf sz e m :: L) w)(hp:m.Perm m2):St bs (oU cf sz e m2 :: L) w :=
 St.pack _ _ ((St.unpack h).perm ((hp.map _).append_right _))
theorem St.W3{p:Int×(Value×List α)}(h:St bs (oU cf sz e (p :: m) :: L) w):St bs (fL cf p.2.1 e sz p.2.2 :: oU cf sz e m :: L) w:=by
 have a:St bs (([fL cf p.2.1 e sz p.2.2]++m.map fun p=>fL cf p.2.1 e sz p.2.2)++L) w:=St.unpack h
 rw[z7]at a
 have b:=a.perm (L' := (m.map fun p=>fL cf p.2.1 e sz p.2.2)++([fL cf p.2.1 e sz p.2.2]++L)) (by
  rw[<-z7,<-z7]
  exact List.Perm.append_right _ qM)
 exact(St.pack _ _ b).swap
theorem St.V5{p:Int×(Value×List α)}(h:St bs (fL cf p.2.1 e sz p.2.2 :: oU cf sz e m :: L) w):St bs (oU cf sz e (p :: m) :: L) w:=by
 have a:St bs ((m.map fun p=>fL cf p.2.1 e sz p.2.2)++(fL cf p.2.1 e sz p.2.2 :: L)) w:=St.unpack h.swap
 refine St.pack _ _ (a.perm ?_)
 show List.Perm _ (fL cf p.2.1 e sz p.2.2 :: ((m.map fun p=>fL cf p.2.1 e sz p.2.2)++L))
 exact sO
theorem St.OC(a:Int)(h:St bs (oU cf sz e m :: L) w):St bs (fL cf (fS m a).1 e sz (fS m a).2 :: oU cf sz e (iL m a) :: L) w:=by
 unfold fS
 cases hm:ig m a with
 | none =>
  rw[J1 hm]
  exact St.ER h e sz
 | some x=>exact(h.OA (FO hm)).W3
theorem St.OB{v:Value}{xs:List α}(h:St bs (fL cf v e sz xs :: oU cf sz e (iL m a) :: L) w):St bs (oU cf sz e (gr m a (v,xs)) :: L) w :=
 (St.V5 (p:=(a,(v,xs))) h).OA (CV m a (v,xs)).symm
theorem St.W4(h:St bs L w):St bs (oU cf sz e ([]:List (Int×(Value×List α))) :: L) w:=St.pack [] L h
end
structure jN where
 e:Nat
 d:Nat
instance:Inhabited jN:=⟨⟨0,0⟩⟩
def jN.cells(x:jN):List Value:=[.int .i64 x.e,.int .i64 x.d]
abbrev AM:=List (Int×(Value×List jN))
theorem OD{m:AM}(h:∀ c,(fS m c).2.length<=n)(a:Int)(v:Value)(x:jN):∀ c,(fS (gr m a (v,(fS m a).2++[x])) c).2.length<=n+1:=by
 intro c
 have d:=h a
 have b:=h c
 unfold fS
 rw[vm]
 split
 . show ((fS m a).2++[x]).length<=_
   rw[zo,zh,zk]
   omega
 . exact Nat.le_succ_of_le b
theorem W7:∀ c,(fS ([]:AM) c).2.length<=0:=fun c=>zm 0
theorem um:∀ (L M:List Int),L.Nodup->(∀ j∈L,j∈M)->L.length<=M.length
 | [],_,_,_=>by simp
 | x :: L,M,hn,h=>by
  have b:=h x s_
  have c:=um L (M.erase x) (zz.1 hn).2 (fun j a=>(List.mem_erase_of_ne (fun e=>(zz.1 hn).1 (by rw[<-e];exact a))).2 (h j (by simp[a])))
  rw[DL b]at c
  have:=Hq b
  simp only[zh]
  omega
def TW.tw(t:TW):List Int:=(t.A.list t.A.begun).map (fJ t.ids)
theorem TW.CG{t:TW}(c:t.A.ok)(x:Int):x∈t.tw↔t.mem x:=by
 unfold TW.tw TW.mem
 rw[zq]
 exact⟨fun⟨i,a,b⟩=>⟨i,(c.ox i).1 a,b⟩,fun⟨i,a,b⟩=>⟨i,(c.ox i).2 a,b⟩⟩
theorem TW.Jq{t:TW}(a:t.A.ok):t.tw.length=t.A.used:=by rw[TW.tw,zu,a.yE]
theorem FY{α β:Type}{f:α->β}:∀ {l:List α},l.Nodup->(∀ x∈l,∀ y∈l,f x=f y->x=y)->(l.map f).Nodup
 | [],_,_=>xu
 | a :: l,h,hf=>by
  rw[l9,zz]
  refine⟨fun hm=>?_,FY (zz.1 h).2 fun x c y d=>hf x (by simp[c]) y (by simp[d])⟩
  obtain⟨b,hb,e⟩:=zq.1 hm
  have:=hf b (by simp[hb]) a s_ e
  subst this
  exact(zz.1 h).1 hb
theorem TW.Jr{t:TW}(h:t.ok)(a:t.A.ok):t.tw.Nodup :=
 FY ((t.A.A7 _).imp fun h=>zZ h) fun x b y c e=>h.uniq x y ((a.ox x).1 b) ((a.ox y).1 c) e
theorem TW.IC{t:TW}(h:t.ok)(b:t.A.ok){v:Int}(e:u≠v):∃ K:List Int,K.Nodup/\K.length=t.A.used+(t.cnt u+t.cnt v)/\∀ x,x∈K↔t.mem x\/x=u\/x=v:=by
 have c:=TW.Jr h b
 have d:=TW.Jq b
 have hm:=TW.CG b
 by_cases hu:t.mem u<;>by_cases hv:t.mem v
 . grind [TW.AK]
 . rw[TW.AK hu,TW.tZ hv]
   refine⟨v :: t.tw,zz.2 ⟨fun a=>hv ((hm v).1 a),c⟩,by simp;omega,fun x=>?_⟩
   rw[zg,hm]
   constructor
   . grind
   . grind
 . rw[TW.tZ hu,TW.AK hv]
   refine⟨u :: t.tw,zz.2 ⟨fun a=>hu ((hm u).1 a),c⟩,by simp;omega,fun x=>?_⟩
   rw[zg,hm]
   constructor
   . grind
   . grind
 . rw[TW.tZ hu,TW.tZ hv]
   refine⟨u :: v :: t.tw,zz.2 ⟨fun a=>?_,zz.2 ⟨fun a=>hv ((hm v).1 a),c⟩⟩,by simp;omega,fun x=>?_⟩
   . grind
   . grind
section
variable {fN fM:Nat} {s s1 s2:fW}
theorem fW.ok.wj(h:s.ok fN fM){x:Lv}(a:s.has x):∃ i:Nat,x.slot=(i:Int)/\s.A.ij i/\fJ s.live i=x/\i<fM:=by
 obtain⟨i,hi,rfl⟩:=a
 refine⟨i,h.slot i hi,hi,rfl,?_⟩
 have:=hi.1
 have:=h.kV.le
 have:=h.n
 omega
theorem fW.ok.Dl(h:s.ok fN fM){x y:Lv}(a:s.has x)(b:s.has y)(e:x.slot=y.slot):x=y:=by
 obtain⟨i,f,_,g,_⟩:=h.wj a
 obtain⟨j,c,_,d,_⟩:=h.wj b
 grind
theorem fW.ok.RE(h:s.ok fN fM){x:Lv}(a:s.has x):x.seq<=s.last:=by
 obtain⟨i,hi,rfl⟩:=a
 exact h.seq i hi
theorem fW.ok.AV(h:s.ok fN fM){x:Lv}(a:s.has x):x.ok/\x.u≠x.v:=by
 obtain⟨i,hi,rfl⟩:=a
 exact⟨h.FE i,h.ne i hi⟩
theorem fW.afe(h1:s1.ok fN fM)(a:s2.ok fN fM)(hs:∀ x,s1.has x->s2.has x):s1.A.used<=s2.A.used:=by
 rw[<-h1.kV.yE,<-a.kV.yE]
 refine C3 _ _ ((s1.A.A7 _).imp fun h=>zZ h) fun i hi=>?_
 have b:=(h1.kV.ox i).1 hi
 obtain⟨j,c,e⟩:=hs _ ⟨i,b,rfl⟩
 have d:=a.slot j c
 rw[e,h1.slot i b]at d
 have:i=j:=by omega
 subst this
 exact(a.kV.ox i).2 c
theorem fW.Vq(h1:s1.ok fN fM)(g:s1.t.A.ok)(b:s2.ok fN fM)(h:s2.t.A.ok)(hs:∀ x,s1.has x->s2.has x){v:Int}(hc:s2.gN fN fM u v=0):s1.gN fN fM u v=0:=by
 obtain⟨a,o,p⟩:=fW.E5 hc
 have s:=fW.afe h1 b hs
 obtain⟨c,k1,w,n⟩:=TW.IC h1.tok g a
 obtain⟨d,q,g2,f⟩:=TW.IC b.tok h a
 have r:c.length<=d.length:=um c d k1 fun x m=>(f x).2 ((n x).1 m |>.imp_left fun hm=>by
  obtain⟨i,hi,k⟩:=(h1.mem x).1 hm
  obtain⟨j,l,e⟩:=hs _ ⟨i,hi,rfl⟩
  exact(b.mem x).2 ⟨j,l,by rw[e];exact k⟩)
 exact fW.AJ a o_ o_
structure fW.kn (s:fW) (L:List Lv):Prop where
 mem:∀ x,x∈L↔s.has x
 kF:L.Pairwise fun a b=>a.seq<b.seq
theorem fW.kn.nodup(h:s.kn L):L.Nodup:=h.kF.imp fun {a b} c e=>by rw[e]at c;omega
theorem fW.kn.slots(a:s.kn L)(h:s.ok fN fM):(L.map Lv.slot).Nodup :=
 FY a.nodup fun x b y c e=>h.Dl ((a.mem x).1 b) ((a.mem y).1 c) e
theorem fW.kn.len(a:s.kn L)(h:s.ok fN fM):L.length<=fM:=by
 have b:(L.map Lv.slot).length<=((List.range fM).map fun i:Nat=>(i:Int)).length:=um _ _ (a.slots h) fun j c=>by
  obtain⟨x,d,rfl⟩:=zq.1 c
  obtain⟨i,e,_,_,hi⟩:=h.wj ((a.mem x).1 d)
  grind
 simpa using b
theorem fW.ZC{ys:List Lv}(h:s.ok fN fM)(hp:ys.Perm ((s.A.list s.A.begun).map (fJ s.live)))(hs:ys.Pairwise fun a b=>a.seq<=b.seq):s.kn ys:=by
 refine⟨fun x=>?_,?_⟩
 . rw[hp.mem_iff,zq]
   exact⟨fun⟨i,c,d⟩=>⟨i,(h.kV.ox i).1 c,d⟩,fun⟨i,c,d⟩=>⟨i,(h.kV.ox i).2 c,d⟩⟩
 . have c:((s.A.list s.A.begun).map (fJ s.live)).Pairwise fun a b=>a.seq≠b.seq:=by
    rw[HE]
    refine(s.A.A7 _).imp_of_mem fun {a b} f hb j e=>?_
    have:=h.Gu a b ((h.kV.ox a).1 f) ((h.kV.ox b).1 hb) e
    omega
   have d:ys.Pairwise fun a b=>a.seq≠b.seq:=hp.symm.pairwise c fun {a b} g e=>g e.symm
   exact(hs.and d).imp fun {a b} h=>by have:=h.1;have:=h.2;omega
theorem GC{α β:Type}[Inhabited α]{l:List α}(f:α->β){k:Nat}(hk:k<l.length):(l.take (k+1)).map f=(l.take k).map f++[f (fJ l k)]:=by
 have a:l[k]? = some (fJ l k):=gz hk
 rw[qu,a]
 simp
end
structure QS where
 iv:Value
 pv:Value
 ps:List (Option Nat)
 fQ:List gH
 pl:List Nat
structure QS.ok (n:Nat) (s:QS):Prop where
 hp:Hp n s.fQ s.pl
 gP:jA n s.ps s.pl
 ord:Ord s.fQ
theorem QS.ok.free{s:QS}(h:s.ok n)(hi:i<n)(d:∀ e∈s.fQ,e.ix≠i):fJ s.pl i=0:=by
 rcases BS (fJ s.pl i)with a|a
 . exact a
 . obtain⟨b,c⟩:=h.hp.of i (fJ s.pl i-1) hi o_
   exact absurd c (d _ (ri.2 ⟨_,b,rfl⟩))
theorem QS.ok.lt{s:QS}(h:s.ok n){e:gH}(a:e∈s.fQ):e.ix<n:=by
 obtain⟨p,hp,rfl⟩:=ri.1 a
 exact h.hp.ix p hp
theorem QS.ok.inj{s:QS}(h:s.ok n){e f:gH}(a:e∈s.fQ)(b:f∈s.fQ)(d:e.ix=f.ix):e=f:=by
 obtain⟨p,hp,rfl⟩:=ri.1 a
 obtain⟨q,c,rfl⟩:=ri.1 b
 rw[h.hp.inj hp c d]
structure uM (s0 s:List gH) (ds:List Nat) (now:Int):Prop where
 rest:∀ e,e∈s↔e∈s0/\e.ix∉ds
 wo:∀ i∈ds,∃ e∈s0,e.ix=i/\e.key<=now
 nd:ds.Nodup
 len:s.length+ds.length=s0.length
theorem uM.start(s:List gH)(now:Int):uM s s [] now:=⟨fun e=>by simp,fun i hi=>by simp at hi,xu,s_⟩
theorem uM.step{s0 s s1:List gH}{ds:List Nat}{u:Int}(h:uM s0 s ds u)(f:0<s.length)(hk:(fJ s 0).key<=u)(hm:∀ e,e∈s1↔e∈s/\e.ix≠(fJ s 0).ix)(k:s1.length+1=s.length):uM s0 s1 (ds++[(fJ s 0).ix]) u:=by
 have j:fJ s 0∈s:=ri.2 ⟨0,f,rfl⟩
 have d:=(h.rest _).1 j
 refine⟨fun e=>?_,fun i hi=>?_,?_,?_⟩
 . rw[hm,h.rest,zn,k7,not_or,and_assoc]
 . rcases zn.1 hi with c|c
   . exact h.wo i c
   . rw[k7]at c
     subst c
     exact⟨_,d.1,rfl,hk⟩
 . refine zr.2 ⟨h.nd,s_,?_⟩
   intro a g b hb
   rw[k7]at hb
   subst hb
   rintro rfl
   exact d.2 g
 . have:=h.len
   rw[zo]
   simp
   omega
structure qx (n:Nat) (s0 s:QS) (ds:List Nat) (now:Int):Prop where
 ok:s.ok n
 rest:∀ e,e∈s.fQ↔e∈s0.fQ/\now<e.key
 out:∀ i,i∈ds↔∃ e∈s0.fQ,e.ix=i/\e.key<=now
 nd:ds.Nodup
 len:ds.length<=n
variable{q s0:QS}
theorem uM.fin{s:QS}(h:uM s0.fQ s.fQ ds u)(d:s0.ok n)(h1:s.ok n)(hd:s.fQ.length=0\/u<(fJ s.fQ 0).key):qx n s0 s ds u:=by
 have g:∀ e∈s.fQ,u<e.key:=by
  intro e a
  rcases hd with c|c
  . rw[zU]at c;rw[c]at a;simp at a
  . have:=h1.ord.min a
    unfold iF at this
    omega
 have m:∀ e,e∈s.fQ↔e∈s0.fQ/\u<e.key:=by
  intro e
  constructor
  . intro a;exact⟨((h.rest e).1 a).1,g e a⟩
  . rintro⟨a,l⟩
    refine(h.rest e).2 ⟨a,fun b=>?_⟩
    obtain⟨f,j,k,o⟩:=h.wo _ b
    have:=d.inj a j k.symm
    subst this
    omega
 refine⟨h1,m,fun i=>⟨h.wo i,?_⟩,h.nd,?_⟩
 . rintro⟨e,a,rfl,l⟩
   by_cases b:e.ix∈ds
   . exact b
   . have:=g e ((h.rest e).2 ⟨a,b⟩)
     omega
 . have:=h.len
   have:=d.hp.len
   omega
structure Ed where
 a:Nat
 b:Nat
 exp:Int
 tree:Bool
 deriving Inhabited
def Ed.enc(e:Ed):Value:=.agg #[.int .i64 (e.a:Int),.int .i64 (e.b:Int),.int .i64 e.exp,.bool e.tree]
structure GW where
 fb:Nat
 nb:Nat
 hb:Nat
 mb:Nat
 trees:Int
 q:QS
 m:List (Int×Ed)
structure Ed.In (fN:Nat) (e:Ed):Prop where
 a:e.a<fN
 b:e.b<fN
 exp:gU .i64 e.exp
structure GW.ok (fN fM:Nat) (g:GW):Prop where
 v2:2<=fN
 vn:fN<=4096
 en:fM<=16384
 ed:∀ p∈g.m,p.2.In fN
theorem GW.ok.get{g:GW}(h:g.ok fN fM)(k:Int):(fS g.m k).In fN:=by
 unfold fS
 cases hm:ig g.m k with
 | none=>exact⟨oJ d_ h.v2,oJ d_ h.v2,⟨d_,d_⟩⟩
 | some x=>exact h.ed _ (J7 hm)
theorem GW.ok.put{g:GW}(h:g.ok fN fM){k:Int}{e:Ed}(b:e.In fN){hb:Nat}{c:Int}:GW.ok fN fM ⟨n,i,hb,a0,c,q,gr g.m k e⟩ :=
 ⟨h.v2,h.vn,h.en,fun p hp=>by
  rcases zg.1 ((CV g.m k e).mem_iff.1 hp)with rfl|a
  . exact b
  . exact h.ed p ((CT g.m k).subset a)⟩
theorem GW.ok.del{g:GW}(h:g.ok fN fM){k:Int}{hb:Nat}{a:Int}:GW.ok fN fM ⟨n,i,hb,a0,a,q,iL g.m k⟩ :=
 ⟨h.v2,h.vn,h.en,fun p hp=>h.ed p ((CT g.m k).subset hp)⟩
theorem GW.ok.same{g:GW}(h:g.ok fN fM){a:Int}:GW.ok fN fM ⟨n,i,k,a0,a,q,g.m⟩:=⟨h.v2,h.vn,h.en,h.ed⟩
theorem Fo.top{F:FT}(h:Fo xs F){j:Nat}(f:j≠0)(d:j<xs.length):∃ r,PR (gK (gw xs F)) j r:=by
 obtain⟨m,hd⟩:=h.dep d
 clear d
 induction hd with
 | zero=>exact absurd rfl f
 | @step T q j m c n t k s =>
  have hs:∀ v u,mZ (gp xs false T) q v u->gK (gw xs F) v u:=fun v u hp=>⟨(gp xs false T,q),zq.2 ⟨(T,q),c,rfl⟩,hp⟩
  have o:=h.vw c
  have hm:j∈gp xs false T:=(nE xs false T).mem_iff.2 n
  obtain⟨g, i⟩:∃ z,(gp xs false T).head? = some z:=by
   cases e:gp xs false T with
   | nil=>rw[e]at hm;simp at hm
   | cons z l=>exact⟨z,rfl⟩
  obtain⟨a,b⟩:=PR.Ft i o hs hm
  by_cases hq:q=0
  . exact⟨g, a hq⟩
  . obtain⟨r,p⟩:=s hq
    exact⟨r,b r hq p⟩
theorem Fo.JG{F:FT}(h:Fo xs F){j:Nat}(b:j≠0)(c:j<xs.length):Joined xs F j j:=by
 obtain⟨r,a⟩:=h.top b c
 exact⟨r,a,a⟩
section
variable {xs ys zs:List Nd} {F R R2:FT} {i j:Nat} {a b:Tr}
theorem Wp(m:Fo xs F)(n:Joined xs F i j)(h:jf xs F ys i a R)(k:jf (jC ys i) ((.nd a i .nil,0) :: R) zs j b R2)(hs:(fJ zs j).size=2):gp zs false (.nd b j .nil)=[i,j]:=by
 obtain⟨r,hi,o⟩:=n
 have d:=QI h.uf k (h.PJ o hi fun v u q f g=>m.nV f g)
 have hv:=(k.fo.rep (.nd b j .nil,0) s_).2.2.1.size
 have e:=(nE zs false (.nd b j .nil)).length_eq
 have p:=k.seq
 rw[p]at e d ⊢
 have e1:((b.mem++j :: Tr.nil.mem).length:Int)=2:=by rw[<-hv];exact hs
 have c:(gp zs false b++[j]).length=2:=by
  rw[e]
  show (b.mem++j :: Tr.nil.mem).length=2
  omega
 cases hb:gp zs false b with
 | nil=>rw[hb]at c;simp at c
 | cons x l =>
  rw[hb]at c d
  cases l with
  | cons y l=>simp at c
  | nil =>
   simp at d
   subst d
   rfl
theorem YS(f:Fo xs F)(h:jf xs F ys i a R)(k:jf (jC ys i) ((.nd a i .nil,0) :: R) zs j b R2)(t:¬ Joined xs F i j)(q:j≠0)(s:j<xs.length)(o:i≠0)(p:i<xs.length):∃ n,R2.Perm ((.nd a i .nil,0) :: n):=by
 rcases k.Bv (.nd a i .nil) s_ with ⟨c,_⟩|c
 . exact QK c
 . exfalso
   rw[h.uf.head]at c
   obtain⟨r,g⟩:=f.top q s
   obtain⟨m, l⟩:=f.top o p
   have w:r≠m := fun e=>t ⟨m, l, e▸g⟩
   obtain⟨x,p2⟩:=h.PK g l w fun v u z c d=>f.nV c d
   have y:=k.top c (v:=j) (by simp[Tr.mem])
   have e:r=i:=PR.unique (P:=gK (gw (jC ys i) ((.nd a i .nil,0) :: R))) (fun v u z c d=>h.uf.fo.nV c d) x y
   exact p2 (by rw[e];simp[Tr.mem])
end
theorem fZ.lead(h:fZ xs)(hi:i<xs.length):fZ (jC xs i):=h.iP hi fun x a b c d e=>⟨a,b,c,d,e⟩
theorem tC(xs:List Nd)(i:Nat):(jC xs i).length=xs.length:=gB
theorem Qm(a:n<=1000000):fZ (lV n k):=by
 have key:∀ i,i<n+1->fJ (lV n k) i=wL i\/fJ (lV n k) i=pL:=fun i hi=>by
  rw[yM hi]
  split
  . exact .inl rfl
  . exact .inr rfl
 refine⟨fun i hi=>?_,fun i hi=>?_,fun i hi=>?_,fun i hi=>?_,fun i hi=>?_⟩<;>rw[tF]at * <;> rcases key i hi with e|e<;>rw[e]
 all_goals first
  | exact(by decide:gU .i64 0)
  | (simp only[wL,pL];omega)
  | (show (-9223372036854775808:Int)<=0/\(0:Int)<=9223372036854775807;omega)
def Ad(S:rM)(i j:Nat):Prop:=i≠0/\j≠0/\(gK S i j\/gK S j i)
theorem Ad.symm{S:rM}{j:Nat}:Ad S i j->Ad S j i:=fun⟨a,b,c⟩=>⟨b,a,c.symm⟩
theorem Ad.congr{S a:rM}(h:∀ v u,gK S v u↔gK a v u){j:Nat}:Ad S i j↔Ad a i j:=by unfold Ad;rw[h,h]
theorem C9{s:List Nat}{v u:Nat}(a:u≠0):mZ s 0 v u↔∃ s1 s2,s=s1++u :: v :: s2:=by
 constructor
 . rintro⟨s1,s2,rfl,e⟩
   cases hl:s1.getLast? with
   | none=>rw[hl]at e;exact absurd e a
   | some x =>
    rw[hl]at e
    obtain⟨t,rfl⟩:=L9.1 hl
    exact⟨t,s2,by rw[show u=x from e];simp⟩
 . rintro⟨s1,s2,rfl⟩
   exact⟨s1++[u],s2,s_,s_⟩
theorem Qs{s:List Nat}{u v:Nat}:(∃ s1 s2,s.reverse=s1++u :: v :: s2)↔∃ s1 s2,s=s1++v :: u :: s2:=by
 constructor
 . rintro⟨s1,s2,e⟩
   have:=congrArg List.reverse e
   simp at this
   exact⟨s2.reverse,s1.reverse,this⟩
 . rintro⟨s1,s2,rfl⟩
   exact⟨s2.reverse,s1.reverse,s_⟩
theorem Ad.rev{s:List Nat}{R:rM}{j:Nat}:Ad ((s.reverse,0) :: R) i j↔Ad ((s,0) :: R) i j:=by
 unfold Ad
 refine and_congr_right fun hi=>and_congr_right fun a=>?_
 simp only[gK.cons]
 rw[C9 a,C9 hi,C9 a,C9 hi,Qs,Qs]
 grind
section
variable {xs0 xs ys zs:List Nd} {F0 F R R2:FT} {i j:Nat} {a b:Tr}
theorem jf.ad(h:jf xs0 F0 ys i a R)(u v:Nat):Ad (gw ys ((.nd a i .nil,0) :: R)) u v↔Ad (gw xs0 F0) u v:=Ad.congr h.par
theorem jf.JQ(h:jf xs0 F0 ys i a R)(u v:Nat):Ad (gw (jC ys i) ((.nd a i .nil,0) :: R)) u v↔Ad (gw xs0 F0) u v:=by
 obtain⟨_,c,d,_⟩:=yB h
 have b:gw (jC ys i) ((.nd a i .nil,0) :: R)=((gp ys false (.nd a i .nil)).reverse,0) :: gw ys R:=by
  grind [gw]
 rw[b,Ad.rev]
 exact h.ad u v
theorem Ej.par(h:Ej ys i a R):gK (gw ys ((.nd a i .nil,0) :: R)) i 0:=by
 obtain⟨l,b⟩:∃ l,gp ys false (.nd a i .nil)=i :: l:=by
  have:=h.head
  cases e:gp ys false (.nd a i .nil)with
  | nil=>rw[e]at this;simp at this
  | cons x l=>rw[e]at this;simp at this;exact⟨l,by rw[this]⟩
 exact⟨(gp ys false (.nd a i .nil),0),by simp[gw],[],l,by rw[b];rfl,rfl⟩
theorem Ue(h:jf xs F ys i a R)(k:jf (jC ys i) ((.nd a i .nil,0) :: R) zs j b R2)(g:Ad (gw xs F) i j):gp zs false (.nd b j .nil)=[i,j]:=by
 obtain⟨i0,o,hp⟩:=(h.JQ i j).2 g
 have e:=h.uf
 have f:=e.par
 have p:gK (gw (jC ys i) ((.nd a i .nil,0) :: R)) j i:=hp.resolve_left fun q=>o (e.fo.nV q f)
 have t:=(k.par j i).2 p
 have r:=(k.par i 0).2 f
 have n:gK (gw zs ((.nd b j .nil,0) :: R2)) j ((gp zs false b).getLast?.getD 0):=⟨(gp zs false (.nd b j .nil),0),by simp[gw],gp zs false b,[],k.seq,rfl⟩
 have u:=k.fo.nV n t
 have l:(gp zs false b).getLast? = some i:=by
  grind
 obtain⟨s,d⟩:=L9.1 l
 have hv:gK (gw zs ((.nd b j .nil,0) :: R2)) i (s.getLast?.getD 0):=⟨(gp zs false (.nd b j .nil),0),by simp[gw],s,[j],by rw[k.seq,d];simp,rfl⟩
 have c:=k.fo.nV hv r
 have m:s=[]:=by
  cases hl2:s.getLast? with
  | none=>exact Hy.1 hl2
  | some x =>
   rw[hl2]at c
   simp only[D1]at c
   exact absurd c (k.fo.vw (T:=.nd b j .nil) (q:=0) s_ x (by rw[k.seq,d];simp[BK hl2]))
 rw[k.seq,d,m]
 rfl
theorem Ud(h:jf xs F ys i a R)(k:jf (jC ys i) ((.nd a i .nil,0) :: R) zs j b R2)(e:Ad (gw xs F) i j):(fJ zs j).size=2:=by
 have d:=Ue h k e
 have hv:=(k.fo.rep (.nd b j .nil,0) s_).2.2.1.size
 have c:=(nE zs false (.nd b j .nil)).length_eq
 rw[d]at c
 have:(b.mem++j :: Tr.nil.mem).length=2:=c.symm
 rw[hv,this]
 rfl
theorem Rn{xs:List Nd}{i:Nat}(hi:i<xs.length):mo xs (mj xs i k) i:=by
 unfold mj
 have key:∀ (y:List Nd),i<y.length->∀ (f:Nd->Nd),(∀ x,∃ s t g,f x={ x with size:=s,total:=t,first:=g })->mo y (fO y i f) i:=fun y h f c=>by
  obtain⟨s,t,g,e⟩:=c (fJ y i)
  exact⟨gB,fun j d=>kD (fun e=>d e.symm),s,t,g,by rw[jS h,e]⟩
 split
 . exact .refl _ _
 . have b:=key xs hi (fun x=>{ x with size:=IntKind.i64.wrap (x.size+(fJ xs k).size) }) fun x=>⟨_,_,_,rfl⟩
   have a:=b.trans (key _ (by rw[gB];exact hi) (fun x=>{ x with total:=IntKind.i64.wrap (x.total+(fJ (fO xs i (fun x=>{ x with size:=IntKind.i64.wrap (x.size+(fJ xs k).size) })) k).total) }) fun x=>⟨_,_,_,rfl⟩)
   dsimp only
   split
   . exact a.trans (key _ (by rw[gB,gB];exact hi) _ fun x=>⟨_,_,_,rfl⟩)
   . exact a
theorem KC{xs:List Nd}{i:Nat}(hi:i<xs.length):mo xs (iJ xs i) i:=by
 unfold iJ
 have b:mo xs (fO xs i (fun x=>{ x with size:=1,first:=i,total:=IntKind.i64.wrap (1+x.iO) })) i:=⟨gB,fun j c=>kD (fun e=>c e.symm),_,_,_,jS hi⟩
 have a:=b.trans (Rn (k:=(fJ xs i).k0) (by rw[gB];exact hi))
 exact a.trans (Rn (by rw[a.len];exact hi))
theorem mo.fk{xs ys:List Nd}(h:mo xs ys i)(k:Nat):(fJ ys k).flip=(fJ xs k).flip/\(fJ ys k).key=(fJ xs k).key:=by
 by_cases e:k=i
 . subst e
   obtain⟨s,t,f,e⟩:=h.here
   rw[e]
   exact⟨rfl,rfl⟩
 . rw[h.other k e]
   exact⟨rfl,rfl⟩
theorem GY{xs:List Nd}{f:Nd->Nd}(hi:i<xs.length)(a:∀ x,(f x).flip=x.flip/\(f x).key=x.key)(k:Nat):(fJ (fO xs i f) k).flip=(fJ xs k).flip/\(fJ (fO xs i f) k).key=(fJ xs k).key:=by
 grind [jS,kD]
theorem PN{zs:List Nd}{a b:Nat}(g:a<zs.length)(hb:b<zs.length)(k:Nat):(fJ (mz zs a b) k).flip=(fJ zs k).flip/\(fJ (mz zs a b) k).key=(fJ zs k).key:=by
 unfold mz
 have c:=KC (xs:=fO (fO zs a (fun x=>{ x with up:=b })) b (fun x=>{ x with iO:=IntKind.i64.wrap (x.iO+(fJ (fO zs a (fun x=>{ x with up:=b })) a).total) })) (i:=b) (by rw[gB,gB];exact hb)
 have d:=GY (xs:=fO zs a (fun x=>{ x with up:=b })) (i:=b) (f:=fun x=>{ x with iO:=IntKind.i64.wrap (x.iO+(fJ (fO zs a (fun x=>{ x with up:=b })) a).total) }) (by rw[gB];exact hb) (fun x=>⟨rfl,rfl⟩) k
 have e:=GY (xs:=zs) (i:=a) (f:=fun x=>{ x with up:=b }) g (fun x=>⟨rfl,rfl⟩) k
 exact⟨(c.fk k).1.trans (d.1.trans e.1),(c.fk k).2.trans (d.2.trans e.2)⟩
theorem Tf{us:List Nd}{i j:Nat}(hi:i<us.length)(d:j<us.length)(k:Nat):(fJ (nZ us i j) k).flip=(fJ us k).flip/\(fJ (nZ us i j) k).key=(fJ us k).key:=by
 unfold nZ
 have a:=KC (xs:=fO (fO us i (fun x=>{ x with up:=0 })) j (fun x=>{ x with k0:=0 })) (i:=j) (by rw[gB,gB];exact d)
 have b:=GY (xs:=fO us i (fun x=>{ x with up:=0 })) (i:=j) (f:=fun x=>{ x with k0:=0 }) (by rw[gB];exact d) (fun x=>⟨rfl,rfl⟩) k
 have c:=GY (xs:=us) (i:=i) (f:=fun x=>{ x with up:=0 }) hi (fun x=>⟨rfl,rfl⟩) k
 exact⟨(a.fk k).1.trans (b.1.trans c.1),(a.fk k).2.trans (b.2.trans c.2)⟩
theorem RI{ys:List Nd}{i:Nat}{c:Int}(hi:i<ys.length)(k:Nat):(fJ (rA ys i c) k).flip=(fJ ys k).flip/\(fJ (rA ys i c) k).key=if k=i then c else(fJ ys k).key:=by
 unfold rA
 have a:=KC (xs:=fO ys i (fun x=>{ x with key:=c })) (i:=i) (by rw[gB];exact hi)
 refine⟨(a.fk k).1.trans ?_,(a.fk k).2.trans ?_⟩
 all_goals
  by_cases e:k=i
  . subst e
    simp[jS hi]
  . simp[kD (fun h=>e h.symm:i≠k),e]
theorem YN{c:FT}(h:Fo zs ((.nd b j .nil,0) :: (.nd a i .nil,0) :: c))(hd:(gp zs false (.nd a i .nil)).head? = some i)(u v:Nat) :
 Ad (gw (mz zs i j) ((.nd b j .nil,0) :: (.nd a i .nil,j) :: c)) u v↔Ad (gw zs ((.nd b j .nil,0) :: (.nd a i .nil,0) :: c)) u v\/(u=i/\v=j)\/(u=j/\v=i):=by
 have f:=h.rep (.nd b j .nil,0) s_
 have d:=h.rep (.nd a i .nil,0) s_
 have m:=fun k=>(PN (zs:=zs) (a:=i) (b:=j) d.1.2 f.1.2 k).1
 have p:∀ t,gp (mz zs i j) false t=gp zs false t:=fun t=>sE fun k _=>m k
 have n:gw (mz zs i j) c=gw zs c:=by
  grind [gw]
 obtain⟨l,o⟩:∃ l,gp zs false (.nd a i .nil)=i :: l:=by
  cases e:gp zs false (.nd a i .nil)with
  | nil=>rw[e]at hd;simp at hd
  | cons x l=>rw[e]at hd;simp at hd;exact⟨l,by rw[hd]⟩
 have e1:gw (mz zs i j) ((.nd b j .nil,0) :: (.nd a i .nil,j) :: c)=(gp zs false (.nd b j .nil),0) :: (i :: l,j) :: gw zs c:=by
  grind [gp,mz,gw]
 have g:gw zs ((.nd b j .nil,0) :: (.nd a i .nil,0) :: c)=(gp zs false (.nd b j .nil),0) :: (i :: l,0) :: gw zs c:=by
  grind [gp,gw]
 rw[e1,g]
 unfold Ad
 simp only[gK.cons,qG]
 have i0:=d.1.1
 have q:=f.1.1
 constructor
 . grind
 . grind
theorem Wd{us:List Nd}(h:Fo us ((.nd (.nd .nil i .nil) j .nil,0) :: R))(hs:gp us false (.nd (.nd .nil i .nil) j .nil)=[i,j])(u v:Nat) :
 Ad (gw (nZ us i j) ((.nd .nil i .nil,0) :: (.nd .nil j .nil,0) :: R)) u v↔Ad (gw us ((.nd (.nd .nil i .nil) j .nil,0) :: R)) u v/\¬ ((u=i/\v=j)\/(u=j/\v=i)):=by
 have a:=h.rep (.nd (.nd .nil i .nil) j .nil,0) s_
 have d:=fun k=>(Tf (us:=us) (i:=i) (j:=j) a.2.2.2.1.1.2 a.1.2 k).1
 have b:∀ t,gp (nZ us i j) false t=gp us false t:=fun t=>sE fun k _=>d k
 have c:gw (nZ us i j) R=gw us R:=by
  grind [gw]
 have one:∀ k,gp us false (.nd .nil k .nil)=[k]:=fun k=>by simp only[gp];cases (fJ us k).flip<;>rfl
 have e1:gw (nZ us i j) ((.nd .nil i .nil,0) :: (.nd .nil j .nil,0) :: R)=([i],0) :: ([j],0) :: gw us R:=by
  show (gp (nZ us i j) false (.nd .nil i .nil),0) :: (gp (nZ us i j) false (.nd .nil j .nil),0) :: gw (nZ us i j) R=_
  rw[b,b,one,one,c]
 have e:gw us ((.nd (.nd .nil i .nil) j .nil,0) :: R)=([i,j],0) :: gw us R:=by
  grind [gp,gw]
 have f:=Gp (xs:=us) h.nodup
 grind [gK,gw,uo,wO,Ad,gK.cons,qG,C8]
end
inductive Cn (A:Nat->Nat->Prop):Nat->Nat->Prop where
 | refl (i:Nat):Cn A i i
 | step {i j k:Nat} (h:A i j) (t:Cn A j k):Cn A i k
section
variable {A B:Nat->Nat->Prop} {i j k:Nat}
theorem Cn.one(h:A i j):Cn A i j:=.step h (.refl _)
theorem Cn.trans(h:Cn A i j)(t:Cn A j k):Cn A i k:=by
 induction h with
 | refl=>exact t
 | step h _ a=>exact .step h (a t)
theorem Cn.symm(hs:∀ i j,A i j->A j i)(h:Cn A i j):Cn A j i:=by
 induction h with
 | refl=>exact .refl _
 | step h _ a=>exact a.trans (.one (hs _ _ h))
theorem Cn.bind(h:∀ i j,A i j->Cn B i j)(t:Cn A i j):Cn B i j:=by
 induction t with
 | refl=>exact .refl _
 | step a _ b=>exact(h _ _ a).trans b
theorem Cn.mono(h:∀ i j,A i j->B i j)(t:Cn A i j):Cn B i j:=t.bind fun i j a=>.one (h i j a)
def kT(A:Nat->Nat->Prop):List Nat->Prop
 | []=>True
 | [_]=>True
 | x :: y :: l=>A x y/\kT A (y :: l)
theorem kT.tail{x:Nat}{l:List Nat}(h:kT A (x :: l)):kT A l:=by
 cases l with
 | nil=>trivial
 | cons y l=>exact h.2
theorem kT.right:∀ {s t:List Nat},kT A (s++t)->kT A t
 | [],_,h=>h
 | x :: s,t,h=>kT.right (s:=s) (kT.tail h)
theorem kT.left:∀ {s t:List Nat},kT A (s++t)->kT A s
 | [],_,_=>trivial
 | [x],_,_=>trivial
 | x :: y :: s,t,h=>⟨h.1,kT.left (s:=y :: s) h.2⟩
theorem kT.mid{x y:Nat}:∀ {s t:List Nat},kT A (s++x :: y :: t)->A x y
 | [],_,h=>h.1
 | [z],_,h=>h.2.1
 | z :: z2 :: s,t,h=>kT.mid (s:=z2 :: s) h.2
theorem kT.cn{φ:Nat->Nat}:∀ {p:List Nat},kT A p->(∀ s x y t,p=s++x :: y :: t->A x y->Cn B (φ x) (φ y))->∀ {a b:Nat},p.head? = some a->p.getLast? = some b->Cn B (φ a) (φ b)
 | [],_,_,a,b,h,_=>by simp at h
 | [x],_,_,a,b,h,h2=>by simp at h h2;subst h h2;exact .refl _
 | x :: y :: l,hp,hs,a,b,h,h2=>by
  simp at h
  subst h
  have c:(y :: l).getLast? = some b:=by rw[<-h2];simp[List.getLast?_cons_cons]
  exact(hs [] _ y l rfl hp.1).trans (kT.cn hp.2 (fun s u v t e=>hs (x :: s) u v t (by rw[e];rfl)) rfl c)
end
def nQ(t1:Int)(t2:Nat)(e1:Int)(a:Nat):Prop:=t1<e1\/(t1=e1/\t2<=a)
abbrev EM:=Nat->Option Ed
def EM.set(E:EM)(k:Nat)(x:Option Ed):EM:=fun j=>if j=k then x else E j
def ends(e:Ed)(u v:Nat):Prop:=(u=e.a/\v=e.b)\/(u=e.b/\v=e.a)
def Ea(E:EM)(t1:Int)(t2:Nat)(u v:Nat):Prop:=∃ k e,E k=some e/\nQ t1 t2 e.exp k/\ends e u v
def Et(E:EM)(t1:Int)(t2:Nat)(u v:Nat):Prop:=∃ k e,E k=some e/\e.tree=true/\nQ t1 t2 e.exp k/\ends e u v
def Eo(E:EM)(k:Nat)(u v:Nat):Prop:=∃ j e,j≠k/\E j=some e/\e.tree=true/\ends e u v
theorem ends.symm{e:Ed}{u v:Nat}:ends e u v->ends e v u:=fun h=>h.elim (fun⟨a,b⟩=>.inr ⟨b,a⟩) fun⟨a,b⟩=>.inl ⟨b,a⟩
theorem Eo.symm{E:EM}{u v:Nat}:Eo E k u v->Eo E k v u:=fun⟨j,e,a,b,c,d⟩=>⟨j,e,a,b,c,d.symm⟩
theorem Cn.more{A:Nat->Nat->Prop}{a b j:Nat}(h:Cn (fun i j=>A i j\/(i=a/\j=b)\/(i=b/\j=a)) i j):Cn A i j\/(Cn A i a/\Cn A b j)\/(Cn A i b/\Cn A a j):=by
 induction h with
 | refl=>exact .inl (.refl _)
 | step s _ c =>
  rcases s with s|⟨rfl,rfl⟩|⟨rfl,rfl⟩
  . exact c.imp (fun h=>.step s h) fun h=>h.imp (fun h=>⟨.step s h.1,h.2⟩) fun h=>⟨.step s h.1,h.2⟩
  . rcases c with h|h|h
    . exact .inr (.inl ⟨.refl _,h⟩)
    . exact .inr (.inl ⟨.refl _,h.2⟩)
    . exact .inl h.2
  . rcases c with h|h|h
    . exact .inr (.inr ⟨.refl _,h⟩)
    . exact .inl h.2
    . exact .inr (.inr ⟨.refl _,h.2⟩)
def tE:Int:=9223372036854775807
def nU(fM k:Nat)(e:Ed)(i j:Nat):Prop:=(i=k/\(j=fM+e.a\/j=fM+e.b))\/(j=k/\(i=fM+e.a\/i=fM+e.b))
structure iC (fN fM:Nat) (E:EM) (A:Nat->Nat->Prop) (key:Nat->Int):Prop where
 lo:∀ k e,E k=some e->k<fM/\e.a<fN/\e.b<fN/\e.a≠e.b/\e.exp<=tE
 j9:∀ i j,A i j↔∃ k e,E k=some e/\e.tree=true/\nU fM k e i j
 kv:∀ v,v<fN->key (fM+v)=tE
 ks:∀ k e,E k=some e->e.tree=true->key k=e.exp
 CW:∀ t1 t2 u v,Ea E t1 t2 u v->Cn (Et E t1 t2) u v
 u6:∀ k e,E k=some e->e.tree=true->¬ Cn (Eo E k) e.a e.b
theorem Et.symm{E:EM}{t1:Int}{t2 u v:Nat}:Et E t1 t2 u v->Et E t1 t2 v u:=fun⟨k,e,c,d,f,g⟩=>⟨k,e,c,d,f,g.elim (fun⟨a,b⟩=>.inr ⟨b,a⟩) fun⟨a,b⟩=>.inl ⟨b,a⟩⟩
variable{m1 m2:List (Int×Ed)}{o' e1:Ed}{g2:GW}{y:Option Ed}{E2:EM}
section
variable {fN fM:Nat} {E:EM} {A:Nat->Nat->Prop} {key:Nat->Int}
def rp(fM:Nat)(E:EM)(i:Nat):Nat:=if i<fM then((E i).getD default).a else i-fM
theorem mN{v:Nat}:rp fM E (fM+v)=v:=by unfold rp;rw[if_neg o_];omega
theorem sD{e:Ed}(h:E k=some e)(hk:k<fM):rp fM E k=e.a:=by unfold rp;rw[if_pos hk,h];rfl
theorem iC.step(h:iC fN fM E A key){t1:Int}{t2 i j:Nat}{E2:EM}(g:A i j)(f:∀ k e,E k=some e->e.tree=true->(k=i\/k=j)->Et E2 t1 t2 e.a e.b):Cn (Et E2 t1 t2) (rp fM E i) (rp fM E j):=by
 obtain⟨k,e,c,ht,l⟩:=(h.j9 i j).1 g
 have d:=h.lo k e c
 rcases l with ⟨rfl,rfl|rfl⟩|⟨rfl,rfl|rfl⟩
 . rw[mN,sD c d.1];exact .refl _
 . rw[mN,sD c d.1];exact .one (f _ e c ht (.inl rfl))
 . rw[mN,sD c d.1];exact .refl _
 . rw[mN,sD c d.1];exact .one (f _ e c ht (.inr rfl)).symm
theorem iC.RU(h:iC fN fM E A key){B:Nat->Nat->Prop}{j:Nat}(g:A i j)(f:∀ k e,E k=some e->e.tree=true->(k=i\/k=j)->B e.a e.b/\B e.b e.a):Cn B (rp fM E i) (rp fM E j):=by
 obtain⟨k,e,c,ht,l⟩:=(h.j9 i j).1 g
 have d:=h.lo k e c
 rcases l with ⟨rfl,rfl|rfl⟩|⟨rfl,rfl|rfl⟩
 . rw[mN,sD c d.1];exact .refl _
 . rw[mN,sD c d.1];exact .one (f _ e c ht (.inl rfl)).1
 . rw[mN,sD c d.1];exact .refl _
 . rw[mN,sD c d.1];exact .one (f _ e c ht (.inr rfl)).2
theorem iC.WJ(h:iC fN fM E A key){B:Nat->Nat->Prop}(c:∀ u v,B u v->∃ k e,E k=some e/\e.tree=true/\ends e u v){u v:Nat}(t:Cn B u v):Cn A (fM+u) (fM+v):=by
 induction t with
 | refl=>exact .refl _
 | step b _ f =>
  refine Cn.trans ?_ f
  obtain⟨k,e,a,ht,d⟩:=c _ _ b
  rcases d with ⟨rfl,rfl⟩|⟨rfl,rfl⟩
  . exact .step ((h.j9 _ _).2 ⟨k,e,a,ht,.inr ⟨rfl,.inl rfl⟩⟩) (.one ((h.j9 _ _).2 ⟨k,e,a,ht,.inl ⟨rfl,.inr rfl⟩⟩))
  . exact .step ((h.j9 _ _).2 ⟨k,e,a,ht,.inr ⟨rfl,.inr rfl⟩⟩) (.one ((h.j9 _ _).2 ⟨k,e,a,ht,.inl ⟨rfl,.inl rfl⟩⟩))
theorem iC.uz(h:iC fN fM E A key){j:Nat}(a:A i j):A j i:=by
 obtain⟨k,e,b,ht,c⟩:=(h.j9 i j).1 a
 exact(h.j9 j i).2 ⟨k,e,b,ht,c.symm⟩
theorem iC.two(h:iC fN fM E A key){u v:Nat}{t1:Int}{t2:Nat}(b:Et E t1 t2 u v):Cn A (fM+u) (fM+v):=by
 obtain⟨k,e,a,ht,_,c⟩:=b
 rcases c with ⟨rfl,rfl⟩|⟨rfl,rfl⟩
 . exact .step ((h.j9 _ _).2 ⟨k,e,a,ht,.inr ⟨rfl,.inl rfl⟩⟩) (.one ((h.j9 _ _).2 ⟨k,e,a,ht,.inl ⟨rfl,.inr rfl⟩⟩))
 . exact .step ((h.j9 _ _).2 ⟨k,e,a,ht,.inr ⟨rfl,.inr rfl⟩⟩) (.one ((h.j9 _ _).2 ⟨k,e,a,ht,.inl ⟨rfl,.inl rfl⟩⟩))
theorem iC.aeV(h:iC fN fM E A key){u v:Nat}{t1:Int}{t2:Nat}(hc:Cn (Et E t1 t2) u v):Cn A (fM+u) (fM+v):=by
 induction hc with
 | refl=>exact .refl _
 | step a _ b=>exact(h.two a).trans b
def Ec(E:EM)(u v:Nat):Prop:=∃ k e,E k=some e/\ends e u v
theorem iC.conn(h:iC fN fM E A key){u v:Nat}:Cn A (fM+u) (fM+v)↔Cn (Ec E) u v:=by
 constructor
 . intro d
   have key:∀ i j,Cn A i j->Cn (Ec E) (rp fM E i) (rp fM E j):=fun i j t=>by
    induction t with
    | refl=>exact .refl _
    | @step i j k a _ g =>
     refine Cn.trans ?_ g
     obtain⟨k,e,b,ht,f⟩:=(h.j9 i j).1 a
     have c:=h.lo k e b
     rcases f with ⟨rfl,rfl|rfl⟩|⟨rfl,rfl|rfl⟩
     . rw[mN,sD b c.1];exact .refl _
     . rw[mN,sD b c.1];exact .one ⟨_,e,b,.inl ⟨rfl,rfl⟩⟩
     . rw[mN,sD b c.1];exact .refl _
     . rw[mN,sD b c.1];exact .one ⟨_,e,b,.inr ⟨rfl,rfl⟩⟩
   have:=key _ _ d
   rw[mN,mN]at this
   exact this
 . intro d
   induction d with
   | refl=>exact .refl _
   | @step u v w a _ g =>
    refine Cn.trans ?_ g
    obtain⟨k,e,b,f⟩:=a
    exact h.aeV (h.CW e.exp k u v ⟨k,e,b,.inr ⟨rfl,zm _⟩,f⟩)
theorem nQ.trans{a c e:Int}{b d f:Nat}(h:nQ a b c d)(k:nQ c d e f):nQ a b e f:=by unfold nQ at *;omega
structure Pm (A:Nat->Nat->Prop) (key:Nat->Int) (i j f:Nat) (q:List Nat):Prop where
 head:q.head? = some i
 last:q.getLast? = some j
 nd:q.Nodup
 vq:kT A q
 mem:f∈q
 min:∀ x∈q,x=f\/key f<key x\/(key f=key x/\f<x)
abbrev sW(fM:Nat)(A:Nat->Nat->Prop)(key:Nat->Int)(a b f:Nat)(q:List Nat):Prop:=Pm A key (fM+a) (fM+b) f q
variable {a b f:Nat} {q:List Nat}
theorem sW.nb(p:sW fM A key a b f q)(g:a≠b){x:Nat}(e:x∈q):∃ y∈q,A x y\/A y x:=by
 obtain⟨s,t,rfl⟩:=vI e
 cases t with
 | cons y t=>exact⟨y,s_,.inl p.vq.mid⟩
 | nil =>
  rcases Md s with rfl|⟨h, y,rfl⟩
  . have c:=p.head
    have d:=p.last
    simp at c d
    omega
  . refine⟨y,s_,.inr ?_⟩
    have c:=p.vq
    rw[Mc,z7]at c
    exact c.mid
theorem iC.Qj(h:iC fN fM E A key){x y:Nat}(c:A x y):(x<fM/\∃ e,E x=some e/\e.tree=true)\/∃ v,v<fN/\x=fM+v:=by
 obtain⟨k,e,b,ht,d⟩:=(h.j9 x y).1 c
 have a:=h.lo k e b
 rcases d with ⟨rfl,_⟩|⟨_,rfl|rfl⟩
 . exact .inl ⟨a.1,e,b,ht⟩
 . exact .inr ⟨_,a.2.1,rfl⟩
 . exact .inr ⟨_,a.2.2.1,rfl⟩
theorem iC.slot(h:iC fN fM E A key)(p:sW fM A key a b f q)(o:a≠b):∃ e,E f=some e/\e.tree=true/\f<fM:=by
 have w:∀ x∈q,(x<fM/\∃ e,E x=some e/\e.tree=true)\/∃ v,v<fN/\x=fM+v:=fun x u=>by
  obtain⟨y,_,g⟩:=p.nb o u
  rcases g with g|g
  . exact h.Qj g
  . exact h.Qj (h.uz g)
 rcases w f p.mem with ⟨c,e,d,m⟩|⟨v,hv,rfl⟩
 . exact⟨e,d,m,c⟩
 . exfalso
   obtain⟨i,D,e⟩:∃ y t,q=(fM+a) :: y :: t:=by
    have c:=p.head
    have d:=p.last
    match q,c,d with
    | [],c,_=>simp at c
    | [x],c,d=>simp at c d;omega
    | x :: y :: t,c,_=>simp at c;exact⟨y,t,by rw[c]⟩
   subst_vars
   have n:A (fM+a) i:=p.vq.1
   obtain⟨k,e,l,ht,s⟩:=(h.j9 _ _).1 n
   have r:=h.lo k e l
   have c:i=k:=by
    rcases s with ⟨d,_⟩|⟨d,_⟩
    . omega
    . exact d
   subst c
   have z:=h.kv v hv
   have B:=h.ks _ e l ht
   have C:=r.2.2.2.2
   rcases p.min i s_ with j|j|j<;>omega
theorem iC.later(h:iC fN fM E A key)(p:sW fM A key a b f q)(m:a≠b){o e:Ed}(g:E f=some o)(i:o.tree=true)(hk:k∈q)(d:E k=some e)(ht:e.tree=true):nQ o.exp f e.exp k:=by
 have j:=h.ks f o g i
 have l:=h.ks k e d ht
 unfold nQ
 rcases p.min k hk with rfl|c|c
 . grind
 . left;omega
 . right;omega
theorem iC.part(h:iC fN fM E A key){t1:Int}{t2:Nat}{s:List Nat}{x y:Nat}(hp:kT A s)(i:s.head? = some x)(j:s.getLast? = some y)(hs:∀ k e,k∈s->E k=some e->e.tree=true->Et E2 t1 t2 e.a e.b):Cn (Et E2 t1 t2) (rp fM E x) (rp fM E y) :=
 hp.cn (fun s1 u v s2 e c=>h.step c fun k d f ht g=>hs k d (by rw[e];rcases g with rfl|rfl<;>simp) f ht) i j
theorem EM.lC{E:EM}{j:Nat}{x:Option Ed}(h:j≠k):E.set k x j=E j:=if_neg h
theorem EM.kO{E:EM}{x:Option Ed}:E.set k x k=x:=if_pos rfl
theorem iC.add(h:iC fN fM E A key){x:Nat}{e:Ed}(I:E x=none)(G:x<fM/\e.a<fN/\e.b<fN/\e.a≠e.b/\e.exp<=tE)(ht:e.tree=true)(q:¬ Cn A (fM+e.a) (fM+e.b)){key':Nat->Int}(C:∀ i j,A' i j↔A i j\/nU fM x e i j)(hk:∀ y,key' y=if y=x then e.exp else key y):iC fN fM (E.set x (some e)) A' key' := by
 have H:∀ {k d},E k=some d->k≠x:=fun g f=>by rw[f,I]at g;cases g
 refine⟨fun k d hd=>?_,fun i j=>?_,fun v hv=>?_,fun k d hd p=>?_,fun K L u v ⟨k,d,hd,f,m⟩=>?_,fun k d hd p r=>?_⟩
 . by_cases e1:k=x
   . subst e1;rw[EM.kO]at hd;cases hd;exact G
   . rw[EM.lC e1]at hd;exact h.lo k d hd
 . rw[C,h.j9]
   constructor
   . grind [EM.lC,EM.kO]
   . grind [EM.kO,EM.lC]
 . rw[hk,if_neg o_];exact h.kv v hv
 . by_cases e1:k=x
   . subst e1;rw[EM.kO]at hd;cases hd;rw[hk,if_pos rfl]
   . rw[EM.lC e1]at hd;rw[hk,if_neg e1];exact h.ks k d hd p
 . by_cases e1:k=x
   . subst e1;rw[EM.kO]at hd;cases hd;exact .one ⟨k,e,EM.kO,ht,f,m⟩
   . rw[EM.lC e1]at hd
     exact(h.CW K L u v ⟨k,d,hd,f,m⟩).mono fun i j ⟨J,z,a1,a2,a3,w⟩=>⟨J,z,by rw[EM.lC (H a1)];exact a1,a2,a3,w⟩
 . have o:∀ {B:Nat->Nat->Prop},(∀ u v,B u v->∃ k e,E k=some e/\e.tree=true/\ends e u v)->∀ {u v},Cn B u v->Cn A (fM+u) (fM+v):=fun {B} D {u v} t=>h.WJ D t
   by_cases e1:k=x
   . subst e1;rw[EM.kO]at hd;cases hd
     exact q (o (fun u v ⟨j,d,g,f,m,n⟩=>⟨j,d,by rw[EM.lC g]at f;exact f,m,n⟩) r)
   . rw[EM.lC e1]at hd
     have hk:∀ u v,Eo E k u v->∃ k e,E k=some e/\e.tree=true/\ends e u v:=fun u v ⟨j,d,_,f,m,n⟩=>⟨j,d,f,m,n⟩
     have F:Cn (fun i j=>Eo E k i j\/(i=e.a/\j=e.b)\/(i=e.b/\j=e.a)) d.a d.b:=r.mono fun i j ⟨l,c,g,f,m,n⟩=>by
      by_cases e2:l=x
      . subst e2;rw[EM.kO]at f;cases f;exact .inr n
      . rw[EM.lC e2]at f;exact .inl ⟨l,c,g,f,m,n⟩
     have s:Cn A (fM+d.a) (fM+d.b):=o (B:=fun u v=>∃ j c,E j=some c/\c.tree=true/\ends c u v) (fun u v h=>h) (.one ⟨k,d,hd,p,.inl ⟨rfl,rfl⟩⟩)
     rcases F.more with g|⟨g,f⟩|⟨g,f⟩
     . exact h.u6 k d hd p g
     . exact q (((o hk g).symm fun i j=>h.uz).trans (s.trans ((o hk f).symm fun i j=>h.uz)))
     . exact q ((o hk f).trans ((s.symm fun i j=>h.uz).trans (o hk g)))
theorem iC.keep(h:iC fN fM E A key){x:Nat}{e o:Ed}(K:E x=none)(G:x<fM/\e.a<fN/\e.b<fN/\e.a≠e.b/\e.exp<=tE)(ht:e.tree=false)(p:sW fM A key e.a e.b f q)(I:E f=some o)(J:o.tree=true)(H:nQ e.exp x o.exp f):iC fN fM (E.set x (some e)) A key:=by
 have z:∀ {k d},E k=some d->k≠x:=fun s g=>by rw[g,K]at s;cases s
 refine⟨fun k d hd=>?_,fun i j=>?_,h.kv,fun k d hd r=>?_,fun t1 t2 u v ⟨k,d,hd,g,m⟩=>?_,fun k d hd r n=>?_⟩
 . by_cases e1:k=x
   . grind [EM.kO]
   . rw[EM.lC e1]at hd;exact h.lo k d hd
 . rw[h.j9]
   constructor
   . grind [EM.lC]
   . grind [EM.kO,EM.lC]
 . by_cases e1:k=x
   . grind [EM.kO]
   . rw[EM.lC e1]at hd;exact h.ks k d hd r
 . by_cases e1:k=x
   . subst e1;rw[EM.kO]at hd;cases hd
     have n:=h.part (E2:=E.set k (some e)) (t1:=t1) (t2:=t2) p.vq p.head p.last fun y t F w B=>⟨y,t,by rw[EM.lC (z w)];exact w,B,g.trans (H.trans (h.later p G.2.2.2.1 I J F w B)),.inl ⟨rfl,rfl⟩⟩
     rw[mN,mN]at n
     rcases m with ⟨rfl,rfl⟩|⟨rfl,rfl⟩
     . exact n
     . exact n.symm fun i j=>Et.symm
   . rw[EM.lC e1]at hd
     exact(h.CW t1 t2 u v ⟨k,d,hd,g,m⟩).mono fun i j ⟨y,t,a1,a2,a3,C⟩=>⟨y,t,by rw[EM.lC (z a1)];exact a1,a2,a3,C⟩
 . by_cases e1:k=x
   . subst e1;rw[EM.kO]at hd;cases hd;rw[ht]at r;cases r
   . rw[EM.lC e1]at hd
     refine h.u6 k d hd r (n.mono fun i j ⟨l,c,s,g,m,D⟩=>?_)
     by_cases e2:l=x
     . subst e2;rw[EM.kO]at g;cases g;rw[ht]at m;cases m
     . rw[EM.lC e2]at g;exact⟨l,c,s,g,m,D⟩
theorem iC.IX(h:iC fN fM E A key)(p:sW fM A key a b f q)(C:a≠b){o:Ed}(G:E f=some o)(D:f<fM):∃ s t u v,q=s++f :: t/\s.head? = some (fM+a)/\s.getLast? = some (fM+u)/\t.head? = some (fM+v)/\t.getLast? = some (fM+b)/\ends o u v/\f∉s/\f∉t:=by
 obtain⟨s,t,e⟩:=vI p.mem
 have l:=p.nd
 have j:=p.head
 have c:=p.last
 have hp:=p.vq
 rw[e]at l j c hp
 have g:=zr.1 l
 have w:f∉s:=fun hm=>g.2.2 f hm f s_ rfl
 have x:f∉t:=(zz.1 g.2.1).1
 rcases Md s with rfl|⟨I, y1,e1⟩
 . simp at j;omega
 rw[Mc]at e1
 cases t with
 | nil=>rw[Hs]at c;simp at c;omega
 | cons y2 t' =>
  subst e1
  have a1:A y1 f:=by rw[z7]at hp;exact hp.mid
  have a2:A f y2:=hp.mid
  have F:y1≠y2:=fun m=>g.2.2 y1 s_ y2 s_ m
  have look:∀ y,A y f->∃ u,y=fM+u/\(u=o.a\/u=o.b):=fun y z=>by
   obtain⟨k,d,n,B,r⟩:=(h.j9 _ _).1 z
   have hd:=h.lo k d n
   rcases r with ⟨_,i|i⟩|⟨rfl,i⟩
   . omega
   . omega
   . grind
  obtain⟨u,rfl,H⟩:=look y1 a1
  obtain⟨v,rfl,hv⟩:=look y2 (h.uz a2)
  refine⟨_,_,u,v,e,?_,s_,s_,?_,?_,w,x⟩
  . grind
  . grind
  . grind [ends]
theorem iC.swap(h:iC fN fM E A key){x:Nat}{e o:Ed}(V:E x=none)(O:x<fM/\e.a<fN/\e.b<fN/\e.a≠e.b/\e.exp<=tE)(ht:e.tree=true)(p:sW fM A key e.a e.b f q)(D:E f=some o)(U:o.tree=true)(af:nQ o.exp f e.exp x)(ah:o'.a=o.a/\o'.b=o.b/\o'.exp=o.exp/\o'.tree=false){key':Nat->Int}(R:∀ i j,A' i j↔(A i j/\¬ nU fM f o i j)\/nU fM x e i j)(hk:∀ y,key' y=if y=x then e.exp else key y):iC fN fM ((E.set f (some o')).set x (some e)) A' key' := by
 have G:∀ {k d},E k=some d->k≠x:=fun m g=>by rw[g,V]at m;cases m
 have ad:=G D
 have T:=h.lo f o D
 obtain⟨o1,o2,o3,X⟩:=ah
 have get:∀ k,k≠x->k≠f->((E.set f (some o')).set x (some e)) k=E k:=fun k m g=>by rw[EM.lC m,EM.lC g]
 have K:((E.set f (some o')).set x (some e)) f=some o' := by rw[EM.lC ad,EM.kO]
 have ai:∀ z B,nQ z B o.exp f->∀ u v,ends o u v->Cn (Et ((E.set f (some o')).set x (some e)) z B) u v:=fun z B g=>by
  obtain⟨s,t,u,v,L,s1,s2,Y, Z, P,n1,W⟩:=h.IX p O.2.2.2.1 D T.1
  have hp:=p.vq
  rw[L]at hp
  have ab:∀ k d,k∈q->k≠f->E k=some d->d.tree=true->Et ((E.set f (some o')).set x (some e)) z B d.a d.b:=fun k d hk ae hd w =>
   ⟨k,d,by rw[get k (G hd) ae];exact hd,w,g.trans (h.later p O.2.2.2.1 D U hk hd w),.inl ⟨rfl,rfl⟩⟩
  have I:=h.part hp.left s1 s2 fun k d hk=>ab k d (by rw[L];simp[hk]) fun e1=>n1 (e1▸hk)
  have J:=h.part hp.right.tail Y Z fun k d hk=>ab k d (by rw[L];simp[hk]) fun e1=>W (e1▸hk)
  rw[mN,mN]at I J
  have sy:=fun {i j:Nat} (c:Cn (Et ((E.set f (some o')).set x (some e)) z B) i j)=>c.symm fun i j=>Et.symm
  have F:Cn (Et ((E.set f (some o')).set x (some e)) z B) u v:=(sy I).trans ((Cn.one ⟨x,e,EM.kO,ht,g.trans af,.inl ⟨rfl,rfl⟩⟩).trans (sy J))
  rintro i j aa
  unfold ends at P aa
  rcases P with ⟨rfl,rfl⟩|⟨rfl,rfl⟩<;>rcases aa with ⟨rfl,rfl⟩|⟨rfl,rfl⟩
  . exact F
  . exact sy F
  . exact sy F
  . exact F
 refine⟨fun k d hd=>?_,fun i j=>?_,fun v hv=>?_,fun k d hd w=>?_,fun z B u v ⟨k,d,hd,g,r⟩=>?_,fun k d hd w N=>?_⟩
 . by_cases e1:k=x
   . subst e1;rw[EM.kO]at hd;cases hd;exact O
   . by_cases n:k=f
     . subst n;rw[K]at hd;cases hd;rw[o1,o2,o3];exact T
     . rw[get k e1 n]at hd;exact h.lo k d hd
 . rw[R,h.j9]
   constructor
   . rintro(⟨⟨k,d,m,g,r⟩,C⟩|m)
     . by_cases n:k=f
       . subst n;rw[D]at m;cases m;exact absurd r C
       . exact⟨k,d,by rw[get k (G m) n];exact m,g,r⟩
     . exact⟨x,e,EM.kO,ht,m⟩
   . rintro⟨k,d,m,g,r⟩
     by_cases e1:k=x
     . subst e1;rw[EM.kO]at m;cases m;exact .inr r
     . by_cases n:k=f
       . subst n;rw[K]at m;cases m;rw[X]at g;cases g
       . rw[get k e1 n]at m
         refine .inl ⟨⟨k,d,m,g,r⟩,fun C=>?_⟩
         have ak:=h.lo k d m
         unfold nU at r C
         omega
 . rw[hk,if_neg o_];exact h.kv v hv
 . by_cases e1:k=x
   . subst e1;rw[EM.kO]at hd;cases hd;rw[hk,if_pos rfl]
   . by_cases n:k=f
     . subst n;rw[K]at hd;cases hd;rw[X]at w;cases w
     . rw[get k e1 n]at hd;rw[hk,if_neg e1];exact h.ks k d hd w
 . by_cases e1:k=x
   . subst e1;rw[EM.kO]at hd;cases hd;exact .one ⟨k,e,EM.kO,ht,g,r⟩
   . by_cases n:k=f
     . subst n;rw[K]at hd;cases hd
       rw[o3]at g
       exact ai z B g u v (by unfold ends at *;rw[<-o1,<-o2];exact r)
     . rw[get k e1 n]at hd
       refine(h.CW z B u v ⟨k,d,hd,g,r⟩).bind fun i j ⟨H,M,a1,a2,a3,a4⟩=>?_
       by_cases e3:H=f
       . grind
       . exact .one ⟨H,M,by rw[get H (G a1) e3];exact a1,a2,a3,a4⟩
 . have S:¬ Cn (Eo E f) e.a e.b:=fun N=>by
    obtain⟨s,t,u,v,L,s1,s2,Y, Z, P,n1,W⟩:=h.IX p O.2.2.2.1 D T.1
    have hp:=p.vq
    rw[L]at hp
    have sy:=fun {i j:Nat} (c:Cn (Eo E f) i j)=>c.symm fun i j=>Eo.symm
    have pr:∀ {l:List Nat} {x y:Nat},kT A l->f∉l->l.head? = some x->l.getLast? = some y->Cn (Eo E f) (rp fM E x) (rp fM E y):=fun {l x y} aj ag V hy =>
     aj.cn (fun l1 c d l2 e R=>h.RU R fun H M m g r=>by
      have G:H≠f:=fun n=>ag (by rw[e,<-n];rcases r with rfl|rfl<;>simp)
      exact⟨⟨H,M,G,m,g,.inl ⟨rfl,rfl⟩⟩,⟨H,M,G,m,g,.inr ⟨rfl,rfl⟩⟩⟩) V hy
    have I:=pr hp.left n1 s1 s2
    have J:=pr hp.right.tail W Y Z
    rw[mN,mN]at I J
    have F:Cn (Eo E f) u v:=(sy I).trans (N.trans (sy J))
    rcases P with ⟨rfl,rfl⟩|⟨rfl,rfl⟩
    . exact h.u6 f o D U F
    . exact h.u6 f o D U (sy F)
   have old:∀ l c,l≠x->((E.set f (some o')).set x (some e)) l=some c->c.tree=true->l≠f/\E l=some c:=fun l c m g r=>by
    by_cases n:l=f
    . subst n;rw[K]at g;cases g;rw[X]at r;cases r
    . rw[get l m n]at g;exact⟨n,g⟩
   by_cases e1:k=x
   . subst e1;rw[EM.kO]at hd;cases hd
     exact S (N.mono fun i j ⟨l,c,m,g,r,C⟩=>by obtain⟨a1,a2⟩:=old l c m g r;exact⟨l,c,a1,a2,r,C⟩)
   . obtain⟨a1,a2⟩:=old k d e1 hd w
     have ac:Cn (fun i j=>(∃ l c,l≠k/\l≠f/\E l=some c/\c.tree=true/\ends c i j)\/(i=e.a/\j=e.b)\/(i=e.b/\j=e.a)) d.a d.b:=N.mono fun i j ⟨l,c,m,g,r,C⟩=>by
      by_cases n:l=x
      . subst n;rw[EM.kO]at g;cases g;exact .inr C
      . obtain⟨b1,b2⟩:=old l c n g r;exact .inl ⟨l,c,m,b1,b2,r,C⟩
     have vz:∀ {i j:Nat},Cn (fun i j=>∃ l c,l≠k/\l≠f/\E l=some c/\c.tree=true/\ends c i j) i j->Cn (Eo E f) i j:=fun t=>t.mono fun i j ⟨l,c,_,b1,b2,b3,Q⟩=>⟨l,c,b1,b2,b3,Q⟩
     have sy:=fun {i j:Nat} (c:Cn (Eo E f) i j)=>c.symm fun i j=>Eo.symm
     have dd:Cn (Eo E f) d.a d.b:=.one ⟨k,d,a1,a2,w,.inl ⟨rfl,rfl⟩⟩
     rcases ac.more with m|⟨m,g⟩|⟨m,g⟩
     . exact h.u6 k d a2 w (m.mono fun i j ⟨l,c,b0,_,b2,b3,Q⟩=>⟨l,c,b0,b2,b3,Q⟩)
     . exact S ((sy (vz m)).trans (dd.trans (sy (vz g))))
     . exact S ((vz g).trans ((sy dd).trans (vz m)))
theorem iC.apart(h:iC fN fM E A key)(p:sW fM A key a b f q)(F:a≠b){o:Ed}(L:E f=some o)(I:f<fM)(g:∀ i j,A' i j↔A i j/\¬ nU fM f o i j)(w:¬ Cn A' (fM+o.a) (fM+o.b)):¬ Cn A' (fM+a) (fM+b):=by
 intro G
 obtain⟨s,t,u,v,M,s1,s2,R,S,N,n1,Q⟩:=h.IX p F L I
 have hp:=p.vq
 rw[M]at hp
 have k:∀ i j,A' i j->A' j i:=fun i j r=>(g j i).2 ⟨h.uz ((g i j).1 r).1,fun D=>((g i j).1 r).2 D.symm⟩
 have part:∀ {l:List Nat} {x y:Nat},kT A l->f∉l->l.head? = some x->l.getLast? = some y->Cn A' x y:=fun {l x y} J K O P =>
  (J.cn (φ:=id) (B:=A') (fun l1 c d T e H=>.one ((g c d).2 ⟨H,fun n=>by
   have:f∈l:=by rw[e];unfold nU at n;rcases n with ⟨rfl,_⟩|⟨rfl,_⟩<;>simp
   exact K this⟩)) O P)
 have z:=part hp.left n1 s1 s2
 have C:=part hp.right.tail Q R S
 have m:Cn A' (fM+u) (fM+v):=(z.symm k).trans (G.trans (C.symm k))
 rcases N with ⟨rfl,rfl⟩|⟨rfl,rfl⟩
 . exact w m
 . exact w (m.symm k)
theorem iC.pop(h:iC fN fM E A key){o:Ed}(y:E f=some o)(x:∀ k e,E k=some e->k=f\/o.exp<e.exp\/(o.exp=e.exp/\f<k))(s:∀ i j,A' i j↔A i j/\¬ (o.tree=true/\nU fM f o i j)):iC fN fM (E.set f none) A' key:=by
 have B:=h.lo f o y
 have a:∀ {k d},(E.set f none) k=some d->k≠f/\E k=some d:=fun {k d} m=>by
  grind [EM.kO,EM.lC]
 refine⟨fun k d hd=>h.lo k d (a hd).2,fun i j=>?_,h.kv,fun k d hd=>h.ks k d (a hd).2,fun D F u v ⟨k,d,hd,b,g⟩=>?_,fun k d hd w t=>h.u6 k d (a hd).2 w (t.mono fun i j ⟨l,c,m,b,g,n⟩=>⟨l,c,m,(a b).2,g,n⟩)⟩
 . rw[s,h.j9]
   constructor
   . grind [EM.lC]
   . grind [nU]
 . obtain⟨n,p⟩:=a hd
   have C:=x k d p
   refine(h.CW d.exp k u v ⟨k,d,p,.inr ⟨rfl,zm _⟩,g⟩).mono fun i j ⟨z,r,a1,a2,a3,q⟩=>⟨z,r,?_,a2,b.trans a3,q⟩
   rw[EM.lC]
   . exact a1
   . grind [nQ]
end
theorem Fo.Bh{F:FT}(b:Fo xs F){v u:Nat}(h:gK (gw xs F) v u):v<xs.length/\u<xs.length:=by
 obtain⟨e,d,hp⟩:=h
 obtain⟨a,c,rfl⟩:=zq.1 d
 have hm:∀ x∈gp xs false a.1,x<xs.length:=fun x f=>((b.rep a c).pK x ((nE xs false a.1).mem_iff.1 f)).2
 exact⟨hm v (uo hp),(aa7 hp).elim (hm u) fun h=>h▸b.par a c⟩
def vO(xs:List Nd)(F:FT)(i j:Nat):Prop:=Ad (gw xs F) (i+1) (j+1)
section
variable {xs ys zs:List Nd} {F R R2:FT} {i j:Nat} {a b:Tr}
theorem Yj(a:Fo xs F)(hi:i+1<xs.length)(m:j+1<xs.length):Joined xs F (i+1) (j+1)↔Cn (vO xs F) i j:=by
 constructor
 . rintro⟨r,d,e⟩
   have key:∀ v r,PR (gK (gw xs F)) v r->v≠0->Cn (vO xs F) (v-1) (r-1):=fun v r h=>by
    induction h with
    | top _=>exact fun _=>.refl _
    | @step v u r hp k _ f =>
     intro hv
     refine .step ?_ (f k)
     unfold vO
     rw[show v-1+1=v by omega,show u-1+1=u by omega]
     exact⟨hv,k,.inl hp⟩
   exact(key _ _ d o_).trans ((key _ _ e o_).symm fun i j=>Ad.symm)
 . intro h
   have n:∀ v u g, gK (gw xs F) v u->gK (gw xs F) v g -> u=g := fun v u g => a.nV
   have o:∀ {x y z},Joined xs F x y->Joined xs F y z->Joined xs F x z:=fun⟨r,a1,a2⟩ ⟨p, b1,b2⟩=>⟨r,a1,by rw[PR.unique n a2 b1];exact b2⟩
   clear m
   induction h with
   | refl=>exact a.JG o_ hi
   | @step x y z l t f =>
    have:Joined xs F (x+1) (y+1)/\y+1<xs.length:=by
     obtain⟨d,e,b|b⟩:=l
     . obtain⟨r,c⟩:=a.top e (a.Bh b).2
       exact⟨⟨r,.step b e c,c⟩,(a.Bh b).2⟩
     . obtain⟨r,c⟩:=a.top d (a.Bh b).2
       exact⟨⟨r,c,.step b d c⟩,(a.Bh b).1⟩
    exact o this.1 (f this.2)
theorem Q3{A:Nat->Nat->Prop}:∀ {p:List Nat},(∀ s x y t,p=s++x :: y :: t->A x y)->kT A p
 | [],_=>trivial
 | [_],_=>trivial
 | x :: y :: l,h=>⟨h [] x y l rfl,Q3 fun s u v t e=>h (x :: s) u v t (by rw[e];rfl)⟩
theorem Q4{A:Nat->Nat->Prop}:∀ {p:List Nat},(∀ x∈p,x≠0)->kT (fun x y=>A (x-1) (y-1)) p->kT A (p.map (· - 1))
 | [],_,_=>trivial
 | [_],_,_=>trivial
 | x :: y :: l,h0,h=>⟨h.1,Q4 (p:=y :: l) (fun z a=>h0 z (zw _ a)) h.2⟩
theorem aba(B:Fo xs F)(h:jf xs F ys (i+1) a R)(k:jf (jC ys (i+1)) ((.nd a (i+1) .nil,0) :: R) zs (j+1) b R2)(C:Joined xs F (i+1) (j+1)){key:Nat->Int}(hk:∀ x,x+1<xs.length->(fJ xs (x+1)).key=key x) :
 ∃ q,Pm (vO xs F) key i j ((fJ zs (j+1)).first-1) q:=by
 obtain⟨p,hp⟩:∃ p,gp zs false (.nd b (j+1) .nil)=p:=⟨_,rfl⟩
 have d:∀ x∈p,x≠0:=fun x c=>k.fo.vw (T:=.nd b (j+1) .nil) (q:=0) s_ x (by rw[hp];exact c)
 have g:p.Perm (Tr.nd b (j+1) .nil).mem:=by rw[<-hp];exact nE zs false _
 have w:=k.fo.rep (.nd b (j+1) .nil,0) s_
 have n:∀ x∈p,x<zs.length:=fun x c=>(w.pK x (g.mem_iff.1 c)).2
 have J:zs.length=xs.length:=by have:=k.len;rw[tC]at this;exact this.trans h.len
 obtain⟨r,hi,D⟩:=C
 have m:=QI h.uf k (h.PJ D hi fun v u N z A=>B.nV z A)
 have hs:=k.seq
 rw[hp]at m hs
 have I:∀ x,(fJ zs x).key=(fJ xs x).key:=fun x=>(k.key x).trans (((yB h).2.2.2.2.2 x).trans (h.key x))
 have l:Eh zs (fJ zs (j+1)).first (Tr.nd b (j+1) .nil).mem:=w.2.2.1.first
 have G:=d _ (g.mem_iff.2 l.1)
 refine⟨p.map (· - 1),⟨by rw[List.head?_map,m];rfl,by rw[hs,nt,Hs];rfl,?_,Q4 d (Q3 fun s x y t e=>?_),zq.2 ⟨_,g.mem_iff.2 l.1,rfl⟩,fun x c=>?_⟩⟩
 . have o:p.Nodup:=g.nodup_iff.2 k.fo.split.1
   rw[List.nodup_iff_pairwise_ne]at o ⊢
   rw[HE]
   refine o.imp_of_mem fun {x y} c f K=>?_
   have:=d x c
   have:=d y f
   omega
 . have c:=d x (by rw[e];simp)
   have f:=d y (by rw[e];simp)
   show vO xs F (x-1) (y-1)
   unfold vO
   rw[show x-1+1=x by omega,show y-1+1=y by omega]
   have E:gK (gw zs ((.nd b (j+1) .nil,0) :: R2)) y x:=⟨(gp zs false (.nd b (j+1) .nil),0),by simp[gw],by rw[hp];exact(C9 c).2 ⟨s,t,e⟩⟩
   exact(h.JQ x y).1 ((k.ad x y).1 ⟨c,f,.inr E⟩)
 . obtain⟨y,f,rfl⟩:=zq.1 c
   have L:=d y f
   have M:=n y f
   have H:=n _ (g.mem_iff.2 l.1)
   rcases l.2 y (g.mem_iff.1 f)with e|e
   . left;rw[e]
   . grind [fJ,lK]
end
theorem kT.mono{A B:Nat->Nat->Prop}(h:∀ i j,A i j->B i j):∀ {p:List Nat},kT A p->kT B p
 | [],_=>trivial
 | [_],_=>trivial
 | _ :: y :: l,hp=>⟨h _ _ hp.1,kT.mono h (p:=y :: l) hp.2⟩
theorem Pm.mono{A B:Nat->Nat->Prop}{key:Nat->Int}{j f:Nat}{q:List Nat}(p:Pm A key i j f q)(h:∀ i j,A i j->B i j):Pm B key i j f q:=⟨p.head,p.last,p.nd,p.vq.mono h,p.mem,p.min⟩
section
variable {xs ys zs us:List Nd} {F R R2:FT} {i j:Nat} {a b:Tr}
theorem ac7{xs ys:List Nd}(h:∀ k,(fJ ys k).flip=(fJ xs k).flip)(F:FT):gw ys F=gw xs F:=by
 grind [gw,sE]
theorem adb(h:jf xs F ys i a R)(c:Int)(u v:Nat):Ad (gw (rA ys i c) ((.nd a i .nil,0) :: R)) u v↔Ad (gw xs F) u v:=by
 rw[ac7 (fun k=>(RI (h.fo.rep (.nd a i .nil,0) s_).1.2 k).1)]
 exact h.ad u v
theorem ade(h:jf xs F ys i a R)(c:Int)(k:Nat):(fJ (rA ys i c) k).key=if k=i then c else(fJ xs k).key:=by
 rw[(RI (h.fo.rep (.nd a i .nil,0) s_).1.2 k).2,h.key]
theorem Uc(c:Fo xs F)(f:Ad (gw xs F) i j):Joined xs F i j:=by
 obtain⟨d,e,a|a⟩:=f
 . obtain⟨r,b⟩:=c.top e (c.Bh a).2
   exact⟨r,.step a e b,b⟩
 . obtain⟨r,b⟩:=c.top d (c.Bh a).2
   exact⟨r,b,.step a d b⟩
theorem F7(h:jf xs F ys i a R)(k:jf (jC ys i) ((.nd a i .nil,0) :: R) zs j b R2)(x:Nat):(fJ zs x).key=(fJ xs x).key:=(k.key x).trans (((yB h).2.2.2.2.2 x).trans (h.key x))
theorem F6(h:jf xs F ys i a R)(k:jf (jC ys i) ((.nd a i .nil,0) :: R) zs j b R2)(u v:Nat):Ad (gw zs ((.nd b j .nil,0) :: R2)) u v↔Ad (gw xs F) u v:=(k.ad u v).trans (h.JQ u v)
theorem YP(f:Fo xs F)(h:jf xs F ys i a R)(k:jf (jC ys i) ((.nd a i .nil,0) :: R) zs j b R2)(s:¬ Joined xs F i j)(p:j≠0)(q:j<xs.length)(n:i≠0)(o:i<xs.length):(gp zs false (.nd a i .nil)).head? = some i:=by
 rcases k.Bv (.nd a i .nil) s_ with ⟨_,d⟩|c
 . rw[Gv d]
   exact h.uf.head
 . exfalso
   rw[h.uf.head]at c
   obtain⟨r,g⟩:=f.top p q
   obtain⟨m, l⟩:=f.top n o
   have t:r≠m := fun e=>s ⟨m, l, e▸g⟩
   obtain⟨w,p2⟩:=h.PK g l t fun v u y c d=>f.nV c d
   have x:=k.top c (v:=j) (by simp[Tr.mem])
   have e:r=i:=PR.unique (P:=gK (gw (jC ys i) ((.nd a i .nil,0) :: R))) (fun v u y c d=>h.uf.fo.nV c d) w x
   exact p2 (by rw[e];simp[Tr.mem])
theorem YO{c:FT}(e:Fo xs F)(h:jf xs F ys i a R)(k:jf (jC ys i) ((.nd a i .nil,0) :: R) zs j b R2)(n:¬ Joined xs F i j)(l:j≠0)(m:j<xs.length)(f:i≠0)(g:i<xs.length)(d:R2.Perm ((.nd a i .nil,0) :: c))(u v:Nat) :
 Ad (gw (mz zs i j) ((.nd b j .nil,0) :: (.nd a i .nil,j) :: c)) u v↔Ad (gw xs F) u v\/(u=i/\v=j)\/(u=j/\v=i):=by
 rw[YN (k.fo.perm (d.cons _)) (YP e h k n l m f g)]
 have hp:Ad (gw zs ((.nd b j .nil,0) :: (.nd a i .nil,0) :: c)) u v↔Ad (gw zs ((.nd b j .nil,0) :: R2)) u v:=Ad.congr fun x y=>gK.perm ((d.cons _).symm.map _)
 rw[hp,F6 h k]
theorem YQ(h:jf xs F ys i a R)(k:jf (jC ys i) ((.nd a i .nil,0) :: R) zs j b R2)(x:Nat):(fJ (mz zs i j) x).key=(fJ xs x).key:=by
 have c:i<zs.length:=by rw[k.len,tC];exact(h.fo.rep (.nd a i .nil,0) s_).1.2
 exact(PN c (k.fo.rep (.nd b j .nil,0) s_).1.2 x).2.trans (F7 h k x)
theorem Wh(k:jf xs F us j (.nd .nil i .nil) R):gp us false (.nd (.nd .nil i .nil) j .nil)=[i,j]:=by
 rw[k.seq]
 grind [gp,fJ]
theorem We{zs:List Nd}(h:Fo zs ((.nd .nil i .nil,0) :: (.nd .nil j .nil,0) :: R)):¬ Joined zs ((.nd .nil i .nil,0) :: (.nd .nil j .nil,0) :: R) i j:=by
 rintro⟨r,c,d⟩
 have b:∀ v u a, gK (gw zs ((.nd .nil i .nil,0) :: (.nd .nil j .nil,0) :: R)) v u->gK (gw zs ((.nd .nil i .nil,0) :: (.nd .nil j .nil,0) :: R)) v a -> u=a := fun v u a => h.nV
 have one:∀ k,gp zs false (.nd .nil k .nil)=[k]:=fun k=>by simp only[gp];cases (fJ zs k).flip<;>rfl
 have g:gK (gw zs ((.nd .nil i .nil,0) :: (.nd .nil j .nil,0) :: R)) i 0:=⟨([i],0),by simp[gw,one],[],[],rfl,rfl⟩
 have p2:gK (gw zs ((.nd .nil i .nil,0) :: (.nd .nil j .nil,0) :: R)) j 0:=⟨([j],0),by simp[gw,one],[],[],rfl,rfl⟩
 have e:i=j:=(PR.unique b (.top g) c).trans (PR.unique b (.top p2) d).symm
 have f:=h.nodup
 subst e
 simp[jT,Tr.mem]at f
end
section
variable {A:Nat->Nat->Prop} {k x y fM:Nat} {e:Ed}
theorem X3(h:∀ i,¬ A k i/\¬ A i k){j:Nat}(t:Cn A k j):j=k:=by
 cases t with
 | refl=>rfl
 | step a _=>exact absurd a (h _).1
theorem X4(h:∀ i,¬ A k i/\¬ A i k)(c:¬ Cn A x y)(hk:k≠y):¬ Cn (fun i j=>A i j\/(i=k/\j=x)\/(i=x/\j=k)) k y:=by
 intro t
 have key:∀ i j,Cn (fun i j=>A i j\/(i=k/\j=x)\/(i=x/\j=k)) i j->Cn A (if i=k then x else i) (if j=k then x else j):=fun i j t=>by
  induction t with
  | refl=>exact .refl _
  | @step i j l a _ b =>
   refine Cn.trans ?_ b
   rcases a with a|⟨rfl,rfl⟩|⟨rfl,rfl⟩
   . rw[if_neg (fun e=>(h _).1 (e▸a)),if_neg (fun e=>(h _).2 (e▸a))]
     exact .one a
   . rw[if_pos rfl]
     split<;>exact .refl _
   . rw[if_pos rfl]
     split<;>exact .refl _
 grind
theorem aaA(P:Prop)(i j:Nat):((P\/(i=k/\j=fM+e.a)\/(i=fM+e.a/\j=k))\/(i=k/\j=fM+e.b)\/(i=fM+e.b/\j=k))↔P\/nU fM k e i j:=by
 grind [nU]
theorem Qi(P:Prop)(i j:Nat):((P/\¬ ((i=k/\j=fM+e.a)\/(i=fM+e.a/\j=k)))/\¬ ((i=k/\j=fM+e.b)\/(i=fM+e.b/\j=k)))↔P/\¬ nU fM k e i j:=by
 grind [nU]
theorem Wf(hs:∀ i j,A i j->A j i)(g:A k y)(m:x≠y)(l:k≠y)(f:¬ Cn (fun i j=>A i j/\¬ ((i=k/\j=x)\/(i=x/\j=k))) k x):¬ Cn (fun i j=>(A i j/\¬ ((i=k/\j=x)\/(i=x/\j=k)))/\¬ ((i=k/\j=y)\/(i=y/\j=k))) x y:=by
 intro t
 refine f (.step (j:=y) ⟨g,o_⟩ ?_)
 have e:Cn (fun i j=>A i j/\¬ ((i=k/\j=x)\/(i=x/\j=k))) x y:=t.mono fun i j h=>h.1
 exact e.symm fun i j ⟨a,b⟩=>⟨hs i j a,fun c=>b (c.elim (fun⟨c,d⟩=>.inr ⟨d,c⟩) fun⟨c,d⟩=>.inl ⟨d,c⟩)⟩
end
def gE(m:List (Int×Ed)):EM:=fun k=>ig m (k:Int)
def Ed.er(e:Ed):Nat×Nat×Int:=(e.a,e.b,e.exp)
def GW.qd(s:GW):Prop:=∀ x:gH,x∈s.q.fQ↔∃ e,gE s.m x.ix=some e/\e.exp=x.key
section
variable {m m2:List (Int×Ed)} {k f:Nat} {e o:Ed}
theorem oL:gE (gr m (k:Int) e)=(gE m).set k (some e):=by
 grind [gE,EM.set,vm]
theorem Mk(a:(m.map Prod.fst).Nodup):gE (iL m (k:Int))=(gE m).set k none:=by
 grind [gE,EM.set,FM]
theorem xz(h:gE m k=some e):fS m (k:Int)=e:=by
 unfold fS
 rw[show ig m (k:Int)=some e from h]
 rfl
theorem EM.set_set{E:EM}{k:Nat}{x:Option Ed}:(E.set k x).set k y=E.set k y:=by
 funext j
 unfold EM.set
 split<;>rfl
theorem EM.ac9{E:EM}{k f:Nat}{x z:Option Ed}:((E.set k x).set f y).set k z=(E.set f y).set k z:=by
 grind [EM.set]
def xB(m m2:List (Int×Ed))(k:Nat)(t:Option (Nat×Nat×Int)):Prop:=∀ j,(gE m2 j).map Ed.er=if j=k then t else(gE m j).map Ed.er
theorem GW.Dd{s s2:GW}{k a b:Nat}(h:s.qd)(p:gE s.m k=none)(o:xB s.m s2.m k (some (a,b,u)))(r:∀ x,x∈s2.q.fQ↔x∈s.q.fQ\/x=⟨k,u⟩):s2.qd:=by
 intro x
 rw[r,h x]
 have c:=o x.ix
 by_cases hk:x.ix=k
 . rw[if_pos hk]at c
   obtain⟨e,i,g⟩:=BO.1 c
   unfold Ed.er at g
   simp only[Prod.mk.injEq]at g
   rw[hk,p]
   rw[hk]at i
   constructor
   . grind
   . rintro⟨e', d,f⟩
     rw[i]at d
     cases d
     right
     obtain⟨t,xk⟩:=x
     simp only at hk f
     rw[hk,<-f,g.2.2]
 . rw[if_neg hk]at c
   constructor
   . rintro(⟨e,d,f⟩|rfl)
     . rw[d]at c
       obtain⟨j,l,n⟩:=BO.1 c
       grind [Ed.er]
     . exact absurd rfl hk
   . rintro⟨e,d,f⟩
     rw[d]at c
     obtain⟨j,l,n⟩:=BO.1 c.symm
     grind [Ed.er]
theorem GW.Rg{s s2:GW}(h:s.qd)(a:gE s2.m=(gE s.m).set i none)(b:∀ e,e∈s2.q.fQ↔e∈s.q.fQ/\e.ix≠i):s2.qd:=by
 intro x
 rw[b,h x,a]
 grind [EM.set]
section
variable {fN fM a b:Nat} {A:Nat->Nat->Prop} {key:Nat->Int} {exp:Int} {q:List Nat}
theorem iC.JA(h:iC fN fM (gE m) A key)(d:gE m k=none)(hk:k<fM)(i:Nat):¬ A k i/\¬ A i k:=by
 have a:∀ i,¬ A k i:=fun i b=>by
  obtain⟨j,e,a,_,c⟩:=(h.j9 k i).1 b
  grind [nU]
 exact⟨a i,fun b=>a i (h.uz b)⟩
abbrev CY(fM:Nat)(A:Nat->Nat->Prop)(k:Nat)(e:Ed):Nat->Nat->Prop:=fun i j=>A i j\/nU fM k e i j
abbrev sw(fM:Nat)(A:Nat->Nat->Prop)(k:Nat)(e:Ed):Nat->Nat->Prop:=fun i j=>A i j/\¬ nU fM k e i j
abbrev CK(key:Nat->Int)(k:Nat)(x:Int):Nat->Int:=fun y=>if y=k then x else key y
theorem iC.own(h:iC fN fM (gE m) A key)(c:gE m f=some o)(ht:(fS m (f:Int)).tree=true):f<fM/\A f (fM+(fS m (f:Int)).a)/\A f (fM+(fS m (f:Int)).b)/\(fS m (f:Int)).a≠(fS m (f:Int)).b:=by
 rw[xz c]at ht ⊢
 have d:=h.lo f o c
 exact⟨d.1,(h.j9 _ _).2 ⟨f,o,c,ht,.inl ⟨rfl,.inl rfl⟩⟩,(h.j9 _ _).2 ⟨f,o,c,ht,.inl ⟨rfl,.inr rfl⟩⟩,d.2.2.2.1⟩
theorem iC.Uj(h:iC fN fM (gE m) A key)(g:gE m k=none)(f:k<fM/\a<fN/\b<fN/\a≠b/\exp<=tE)(l:¬ Cn A (fM+a) (fM+b)){m4:List (Int×Ed)}(h1:m1=gr m (k:Int) ⟨a,b,exp,false⟩)(c:m4=gr m1 (k:Int) ⟨(fS m1 (k:Int)).a,(fS m1 (k:Int)).b,(fS m1 (k:Int)).exp,true⟩) :
 iC fN fM (gE m4) (CY fM A k (fS m1 (k:Int))) (CK key k (fS m1 (k:Int)).exp)/\xB m m4 k (some (a,b,exp)):=by
 have e:fS m1 (k:Int)=⟨a,b,exp,false⟩:=xz (by rw[h1,oL,EM.kO])
 rw[e]at c ⊢
 have d:gE m4=(gE m).set k (some ⟨a,b,exp,true⟩):=by rw[c,h1,oL,oL,EM.set_set]
 refine⟨?_,fun j=>?_⟩
 . rw[d]
   exact h.add g f rfl l (fun i j=>Iff.rfl) fun y=>rfl
 . rw[d]
   unfold EM.set
   split<;>rfl
theorem iC.Nu(h:iC fN fM (gE m) A key)(i:gE m k=none)(d:k<fM/\a<fN/\b<fN/\a≠b/\exp<=tE)(p:sW fM A key a b f q)(g:∀ o,gE m f=some o->nQ exp k o.exp f)(h1:m1=gr m (k:Int) ⟨a,b,exp,false⟩) :
 iC fN fM (gE m1) A key/\xB m m1 k (some (a,b,exp)):=by
 obtain⟨o,e,l,_⟩:=h.slot p d.2.2.2.1
 have c:gE m1=(gE m).set k (some ⟨a,b,exp,false⟩):=by rw[h1,oL]
 refine⟨?_,fun j=>?_⟩
 . rw[c]
   exact h.keep i d rfl p e l (g o e)
 . rw[c]
   unfold EM.set
   split<;>rfl
theorem iC.first(h:iC fN fM (gE m) A key)(r:gE m k=none)(i:a≠b)(p:sW fM A key a b f q)(h1:m1=gr m (k:Int) e) :
 f<fM/\f≠k/\gE m f=some (fS m1 (f:Int))/\(fS m1 (f:Int)).tree=true/\A f (fM+(fS m1 (f:Int)).a)/\A f (fM+(fS m1 (f:Int)).b)/\(fS m1 (f:Int)).a≠(fS m1 (f:Int)).b:=by
 obtain⟨o,c,d,j⟩:=h.slot p i
 have g:f≠k:=fun e=>by rw[e,r]at c;cases c
 have l:fS m1 (f:Int)=o:=xz (by rw[h1,oL,EM.lC g];exact c)
 rw[l]
 have n:=h.lo f o c
 exact⟨j,g,c,d,(h.j9 _ _).2 ⟨f,o,c,d,.inl ⟨rfl,.inl rfl⟩⟩,(h.j9 _ _).2 ⟨f,o,c,d,.inl ⟨rfl,.inr rfl⟩⟩,n.2.2.2.1⟩
theorem iC.Nv(h:iC fN fM (gE m) A key)(d:gE m k=none)(c:k<fM/\a<fN/\b<fN/\a≠b/\exp<=tE)(p:sW fM A key a b f q){m3 m4:List (Int×Ed)}(h1:m1=gr m (k:Int) ⟨a,b,exp,false⟩)(s:nQ (fS m1 (f:Int)).exp f exp k)(l:m3=gr m1 (f:Int) ⟨(fS m1 (f:Int)).a,(fS m1 (f:Int)).b,(fS m1 (f:Int)).exp,false⟩)(hc:¬ Cn (sw fM A f (fS m1 (f:Int))) (fM+(fS m1 (f:Int)).a) (fM+(fS m1 (f:Int)).b)) :
 (∀ i,¬ sw fM A f (fS m1 (f:Int)) k i/\¬ sw fM A f (fS m1 (f:Int)) i k)/\¬ Cn (sw fM A f (fS m1 (f:Int))) (fM+(fS m3 (k:Int)).a) (fM+(fS m3 (k:Int)).b) /\
  (m4=gr m3 (k:Int) ⟨(fS m3 (k:Int)).a,(fS m3 (k:Int)).b,(fS m3 (k:Int)).exp,true⟩->iC fN fM (gE m4) (CY fM (sw fM A f (fS m1 (f:Int))) k (fS m3 (k:Int))) (CK key k (fS m3 (k:Int)).exp)/\xB m m4 k (some (a,b,exp))):=by
 obtain⟨v,x,g,t,_⟩:=h.first d c.2.2.2.1 p h1
 have w:fS m3 (k:Int)=⟨a,b,exp,false⟩:=xz (by rw[l,h1,oL,oL,EM.lC (fun e=>x e.symm),EM.kO])
 rw[w]
 generalize fS m1 (f:Int)=o at s l hc g t ⊢
 refine⟨fun i=>⟨fun n=>(h.JA d c.1 i).1 n.1,fun n=>(h.JA d c.1 i).2 n.1⟩,h.apart p c.2.2.2.1 g v (fun i j=>Iff.rfl) hc,fun u=>?_⟩
 have r:gE m4=((gE m).set f (some ⟨o.a,o.b,o.exp,false⟩)).set k (some ⟨a,b,exp,true⟩):=by rw[u,l,h1,oL,oL,oL,EM.ac9]
 refine⟨?_,fun j=>?_⟩
 . rw[r]
   exact h.swap (e:=⟨a,b,exp,true⟩) (o' := ⟨o.a,o.b,o.exp,false⟩) d c rfl p g t s ⟨rfl,rfl,rfl,rfl⟩ (fun i j=>Iff.rfl) fun y=>rfl
 . rw[r]
   unfold EM.set
   by_cases e1:j=k
   . rw[if_pos e1,if_pos e1];rfl
   . rw[if_neg e1,if_neg e1]
     by_cases e2:j=f
     . rw[if_pos e2,e2,g];rfl
     . rw[if_neg e2]
theorem iC.abH(h:iC fN fM (gE m) A key)(d:gE m f=some o)(c:∀ k e,gE m k=some e->k=f\/o.exp<e.exp\/(o.exp=e.exp/\f<k))(ht:o.tree=false):iC fN fM ((gE m).set f none) A key :=
 h.pop d c fun i j=>⟨fun a=>⟨a,fun b=>by rw[ht]at b;cases b.1⟩,fun a=>a.1⟩
theorem iC.abI(h:iC fN fM (gE m) A key)(c:gE m f=some o)(b:∀ k e,gE m k=some e->k=f\/o.exp<e.exp\/(o.exp=e.exp/\f<k))(ht:o.tree=true):iC fN fM ((gE m).set f none) (sw fM A f o) key :=
 h.pop c b fun i j=>and_congr Iff.rfl (not_congr ⟨fun a=>⟨ht,a⟩,fun a=>a.2⟩)
theorem GW.Rf{s:GW}(h:s.qd){k:Int}(hi:(⟨i,k⟩:gH)∈s.q.fQ)(hm:∀ e∈s.q.fQ,¬ iF e ⟨i,k⟩):∃ o,gE s.m i=some o/\o.exp=k/\∀ j e,gE s.m j=some e->j=i\/o.exp<e.exp\/(o.exp=e.exp/\i<j):=by
 obtain⟨o,b,c⟩:=(h _).1 hi
 refine⟨o,b,c,fun j e a=>?_⟩
 have d:=hm ⟨j,e.exp⟩ ((h _).2 ⟨e,a,rfl⟩)
 grind [iF]
end
end
def tI(m:List (Int×Ed)):Nat:=(m.filter fun p=>p.2.tree).length
def kJ(m:List (Int×Ed))(t:Int):Prop:=(m.map Prod.fst).Nodup/\t=IntKind.i64.wrap (tI m:Int)/\∀ p∈m,∃ k:Nat,p.1=(k:Int)
section
variable {m:List (Int×Ed)} {t:Int} {k f:Nat} {e o:Ed}
theorem Sm{m:List (Int×Ed)}(h:m.Perm m2):tI m=tI m2:=(h.filter _).length_eq
theorem Sk{p:Int×Ed}:tI (p :: m)=tI m+if p.2.tree=true then 1 else 0:=by
 grind [tI]
theorem Ll{k:Int}:tI (gr m k e)=tI (iL m k)+if e.tree=true then 1 else 0:=by rw[Sm (CV m k e),Sk]
theorem Lj{k:Int}(h:ig m k=some e):tI m=tI (iL m k)+if e.tree=true then 1 else 0:=by rw[Sm (FO h),Sk]
theorem kJ.nil:kJ [] 0:=⟨xu,by rw[IntKind.wrap_i64];decide,fun p h=>(nr h).elim⟩
theorem kJ.kp(h:kJ m t):∀ p∈gr m (k:Int) e,∃ k:Nat,p.1=(k:Int):=fun p hp=>by
 rcases zg.1 ((CV m (k:Int) e).mem_iff.1 hp)with rfl|a
 . exact⟨k,rfl⟩
 . exact h.2.2 p ((CT m _).subset a)
theorem kJ.put(h:kJ m t)(b:gE m k=none)(a:e.tree=false):kJ (gr m (k:Int) e) t:=by
 refine⟨wP h.1 _ _,?_,h.kp⟩
 rw[h.2.1,Ll,J1 b,if_neg (by rw[a];decide)]
 rfl
theorem kJ.OF(h:kJ m t)(d:gE m k=some o)(c:o.tree=false)(b:e.tree=true):kJ (gr m (k:Int) e) (IntKind.i64.wrap (t+1)):=by
 refine⟨wP h.1 _ _,?_,h.kp⟩
 have a:=Lj (show ig m (k:Int)=some o from d)
 rw[if_neg (by rw[c];decide)]at a
 rw[h.2.1,Ll,if_pos b,IntKind.wrap_i64,IntKind.wrap_i64,IntKind.wrap_i64]
 omega
theorem kJ.loose(h:kJ m t)(c:gE m k=some o)(ht:o.tree=true)(b:e.tree=false):kJ (gr m (k:Int) e) (IntKind.i64.wrap (t-1)):=by
 refine⟨wP h.1 _ _,?_,h.kp⟩
 have a:=Lj (show ig m (k:Int)=some o from c)
 rw[if_pos ht]at a
 rw[h.2.1,Ll,if_neg (by rw[b];decide),IntKind.wrap_i64,IntKind.wrap_i64,IntKind.wrap_i64]
 omega
theorem kJ.del(h:kJ m t)(c:gE m k=some o)(b:o.tree=false):kJ (iL m (k:Int)) t:=by
 refine⟨Kk h.1 _,?_,fun p hp=>h.2.2 p ((CT m _).subset hp)⟩
 have a:=Lj (show ig m (k:Int)=some o from c)
 rw[if_neg (by rw[b];decide)]at a
 rw[h.2.1,a]
 rfl
theorem kJ.pop(h:kJ m t)(b:gE m k=some o)(ht:o.tree=true)(a:e.tree=false):kJ (iL (gr m (k:Int) e) (k:Int)) (IntKind.i64.wrap (t-1)) :=
 (h.loose b ht a).del (o:=e) (by rw[oL,EM.kO]) a
theorem kJ.swap(h:kJ m t)(i:gE m k=none)(d:f≠k)(j:gE m f=some o)(ht:o.tree=true){a b:Ed}(c:a.tree=false)(h1:e1.tree=false)(g:b.tree=true):kJ (gr (gr (gr m (k:Int) a) (f:Int) e1) (k:Int) b) (IntKind.i64.wrap (IntKind.i64.wrap (t-1)+1)) :=
 ((h.put i c).loose (o:=o) (by rw[oL,EM.lC d];exact j) ht h1).OF (o:=a) (by rw[oL,EM.lC fun e=>d e.symm,oL,EM.kO]) c g
end
theorem aaJ{u v:Nat}:¬ Ad (gw (lV n n) (newF n)) u v:=by
 have one:∀ v u,gK (gw (lV n n) (newF n)) v u->u=0:=fun v u ⟨e,d,hp⟩=>by
  grind [gw,newF,gp,lV,fJ,qG,C8]
 rintro⟨b,c,a|a⟩
 . exact c (one _ _ a)
 . exact b (one _ _ a)
theorem aaK(h:k+1<n+1):(fJ (lV n n) (k+1)).key=0:=by
 rw[yM h,if_pos o_]
 rfl
abbrev qc(fM k:Nat):Nat->Int:=fun x=>if fM<=x/\x<fM+k then tE else 0
theorem Yk{x:Nat}:(if x=fM+k then(9223372036854775807:Int)else qc fM k x)=qc fM (k+1) x:=by
 unfold qc tE
 grind
theorem iC.new:iC fN fM (gE []) (fun _ _=>False) (qc fM fN) :=
 ⟨fun k e h=>(by cases h),fun i j=>⟨fun h=>h.elim,fun⟨k,e,h,_⟩=>(by cases h)⟩,fun v hv=>if_pos o_,fun k e h=>(by cases h),fun a b u v ⟨k,e,h,_⟩=>(by cases h),fun k e h=>(by cases h)⟩
def TW.Kp(t t2:TW):Prop:=∀ z,t.A.ij z->t2.mem (fJ t.ids z)->t2.A.ij z/\fJ t2.ids z=fJ t.ids z
theorem TW.Kp.refl(t:TW):TW.Kp t t:=fun z h _=>⟨h,rfl⟩
theorem TW.Kp.trans{t e:TW}(h1:TW.Kp t t2)(h:TW.Kp t2 e)(hm:∀ x,t.mem x->e.mem x->t2.mem x):TW.Kp t e:=fun z g f=>by
 obtain⟨a,b⟩:=h1 z g (hm _ ⟨z,g,rfl⟩ f)
 obtain⟨c,d⟩:=h z a (by rw[b];exact f)
 exact⟨c,d.trans b⟩
theorem TW.ok.Rc{t:TW}(h:t.ok){id:Int}(hp:AW.put t.A v2.A i){is2:List Int}{cs2:List Nat}(c:is2=uq t.ids i id):TW.Kp t ⟨iv,cv,v2,is2,cs2⟩:=fun z a _=>by
 have e:=h.uc
 have d:i<=t.ids.length:=by rcases hp.pI with b|b<;>omega
 refine⟨(hp.ij z).2 (.inl a),?_⟩
 show fJ is2 z=_
 rw[c,Q8 d,if_neg]
 rintro rfl
 exact hp.new a
theorem TW.ok.Wm{t:TW}(h:t.ok)(hi:t.A.ij i)(hd:AW.del t.A v2.A i){is2:List Int}{cs2:List Nat}(c:is2=fO t.ids i (fun _=>0))(hm:∀ x,TW.mem ⟨iv,cv,v2,is2,cs2⟩ x↔t.mem x/\x≠fJ t.ids i):TW.Kp t ⟨iv,cv,v2,is2,cs2⟩:=fun z d f=>by
 have a:z≠i:=fun e=>((hm _).1 f).2 (by rw[e])
 have b:i<t.ids.length:=by have:=hi.1;have:=h.uc;omega
 refine⟨(hd.ij z).2 ⟨d,a⟩,?_⟩
 show fJ is2 z=_
 rw[c,jG b,if_neg fun e=>a e.symm]
theorem TW.Af.yA{t a:TW}{v:Int}(p:TW.Af t t2 u)(q:TW.Af t2 a v)(h1:TW.Kp t t2)(b:TW.Kp t2 a):TW.Kp t a:=h1.trans b fun x c _=>(p.mem x).2 (.inl c)
theorem mT.yA{c im2:IM}{t:TW}{v:Int}(d:mT c t1 im2 t2 v i)(h1:TW.Kp t t1)(a:TW.Kp t1 t2):TW.Kp t t2:=h1.trans a fun x _ b=>((d.mem x).1 b).1
def TW.At(t:TW)(z:Nat)(id:Int):Prop:=t.A.ij z/\fJ t.ids z=id
theorem TW.At.uniq{t:TW}(h:t.ok){y:Nat}{id:Int}(a:t.At n id)(b:t.At y id):n=y:=h.uniq n y a.1 b.1 (a.2.trans b.2.symm)
theorem TW.Kp.at{t:TW}(k:TW.Kp t t2){id:Int}(a:t.At n id)(hm:t2.mem id):t2.At n id:=by
 obtain⟨b,c⟩:=k n a.1 (by rw[a.2];exact hm)
 exact⟨b,c.trans a.2⟩
theorem TW.Kp.back{t:TW}(k:TW.Kp t t2)(d:t2.ok){id:Int}(a:t2.At n id)(hm:t.mem id):t.At n id:=by
 obtain⟨y,c,b⟩:=hm
 have hb:=k.at ⟨c,b⟩ ⟨n,a.1,a.2⟩
 rw[TW.At.uniq d a hb]
 exact⟨c,b⟩
theorem TW.mR.at{t:TW}{id:Int}{b:Bool}(h:t.mR id n b)(hm:t.mem id):t.At n id:=by
 rcases h with ⟨_,h⟩|⟨_,_,h⟩
 . exact h
 . exact absurd hm h
def nM(u:fW)(g:GW):Prop:=∀ (k:Nat) (t:Nat×Nat×Int),(gE g.m k).map Ed.er=some t↔∃ x,u.has x/\x.slot=(k:Int)/\u.t.At t.1 x.u/\u.t.At t.2.1 x.v/\t.2.2=x.exp
section
variable {fN fM:Nat} {u u2:fW} {g g2:GW}
theorem fW.ok.yK(h:u.ok fN fM){x:Lv}(a:u.has x):u.t.mem x.u/\u.t.mem x.v:=by
 obtain⟨i,hi,rfl⟩:=a
 exact⟨(h.mem _).2 ⟨i,hi,.inl rfl⟩,(h.mem _).2 ⟨i,hi,.inr rfl⟩⟩
theorem fW.ok.ZX{fN fM:Nat}{u u2:fW}(h:u.ok fN fM)(a:u2.ok fN fM)(d:∀ y,u2.has y->u.has y)(x:Int)(f:u2.t.mem x):u.t.mem x:=by
 obtain⟨i,hi,b⟩:=(a.mem x).1 f
 obtain⟨j,e,c⟩:=d _ ⟨i,hi,rfl⟩
 exact(h.mem x).2 ⟨j,e,by rw[c];exact b⟩
theorem nM.ua(h:nM u g)(n:u.ok fN fM){x:Lv}(j:u.has x)(hk:x.slot=(k:Int)):∃ e,gE g.m k=some e/\e.exp=x.exp/\u.t.At e.a x.u/\u.t.At e.b x.v:=by
 obtain⟨⟨a,d,f⟩,⟨b,hb,i⟩⟩:=n.yK j
 have:=(h k (a,b,x.exp)).2 ⟨x,j,hk,⟨d,f⟩,⟨hb,i⟩,rfl⟩
 obtain⟨e,l,c⟩:=BO.1 this
 unfold Ed.er at c
 simp only[Prod.mk.injEq]at c
 exact⟨e,l,c.2.2,by rw[c.1];exact⟨d,f⟩,by rw[c.2.1];exact⟨hb,i⟩⟩
theorem nM.live(h:nM u g){e:Ed}(c:gE g.m k=some e):∃ x,u.has x/\x.slot=(k:Int)/\u.t.At e.a x.u/\u.t.At e.b x.v/\e.exp=x.exp :=
 (h k e.er).1 (by rw[c];rfl)
theorem nM.empty(h:nM u g)(hk:∀ x,u.has x->x.slot≠(k:Int)):gE g.m k=none:=by
 cases he:gE g.m k with
 | none=>rfl
 | some e =>
  obtain⟨x,a,hs,_⟩:=h.live he
  exact absurd hs (hk x a)
theorem nM.rest(h:nM u g)(o:u.ok fN fM)(c:u2.ok fN fM){P:Nat->Prop}(e:∀ x,u2.has x↔u.has x/\∀ k:Nat,x.slot=(k:Int)->¬ P k)(hk:TW.Kp u.t u2.t)(h1:∀ k,P k->gE g2.m k=none)(l:∀ k,¬ P k->(gE g2.m k).map Ed.er=(gE g.m k).map Ed.er):nM u2 g2:=by
 intro k t
 by_cases hp:P k
 . grind
 . rw[l k hp,h k t]
   constructor
   . rintro⟨x,d,hs,a,hb,b⟩
     have i:u2.has x:=(e x).2 ⟨d,fun j n=>by rw[hs]at n;rw[<-show k=j by omega];exact hp⟩
     have hm:=c.yK i
     exact⟨x,i,hs,hk.at a hm.1,hk.at hb hm.2,b⟩
   . rintro⟨x,d,hs,a,hb,b⟩
     have f:=((e x).1 d).1
     have hm:=o.yK f
     exact⟨x,f,hs,hk.back c.tok a hm.1,hk.back c.tok hb hm.2,b⟩
theorem nM.ins(h:nM u g)(w:u.ok fN fM)(b:u2.ok fN fM){o p:Nat}(s:e.slot=(i:Int))(j:∀ y,u2.has y↔u.has y\/y=e)(hk:TW.Kp u.t u2.t)(q:xB g.m g2.m i (some (o,p,e.exp)))(r:u2.t.At o e.u)(hb:u2.t.At p e.v):nM u2 g2:=by
 intro k t
 rw[q k]
 by_cases hki:k=i
 . subst hki
   rw[if_pos rfl]
   constructor
   . grind
   . rintro⟨x,f,hs,c,d,a⟩
     have:x=e:=b.Dl f ((j e).2 (.inr rfl)) (hs.trans s.symm)
     subst this
     obtain⟨z,A,B⟩:=t
     simp only at c d a
     rw[TW.At.uniq b.tok c r,TW.At.uniq b.tok d hb,a]
 . rw[if_neg hki,h k t]
   constructor
   . rintro⟨x,f,hs,c,d,a⟩
     have n:=(j x).2 (.inl f)
     have hm:=b.yK n
     exact⟨x,n,hs,hk.at c hm.1,hk.at d hm.2,a⟩
   . rintro⟨x,f,hs,c,d,a⟩
     rcases(j x).1 f with l|rfl
     . have hm:=w.yK l
       exact⟨x,l,hs,hk.back b.tok c hm.1,hk.back b.tok d hm.2,a⟩
     . grind
end
structure sS (m m2:List (Int×Ed)) (ds:List Nat) (k:Nat):Prop where
 out:∀ j,j∉ds->(gE m2 j).map Ed.er=(gE m j).map Ed.er
 sub:∀ j,j∈ds->gE m2 j=none\/(gE m2 j).map Ed.er=(gE m j).map Ed.er
 cnt:(ds.filter fun j=>(gE m2 j).isSome).length+k=ds.length
theorem sS.start{m:List (Int×Ed)}(h:∀ j∈ds,(gE m j).isSome=true):sS m m ds 0 :=
 ⟨fun j _=>rfl,fun j _=>.inr rfl,by rw[qN.2 h];rfl⟩
theorem OL{α:Type}[DecidableEq α]{p q:α->Bool}{i:α}:∀ {l:List α},l.Nodup->i∈l->p i=true->(∀ j,q j=(p j&&decide (j≠i)))->(l.filter q).length+1=(l.filter p).length
 | [],_,h,_,_=>by simp at h
 | a :: l,hn,hi,hp,hq=>by
  have c:=zz.1 hn
  by_cases e:a=i
  . subst e
    have b:q a=false:=by rw[hq];simp
    rw[BM (by rw[b];decide),BN hp]
    have d:l.filter q=l.filter p:=uJ fun x g=>by rw[hq];simp;rintro _ rfl;exact absurd g c.1
    rw[d]
    rfl
  . have f:i∈l:=(zg.1 hi).resolve_left fun h=>e h.symm
    have k:=OL c.2 f hp hq
    have b:q a=p a:=by rw[hq];simp[e]
    by_cases hpa:p a=true
    . rw[BN hpa,BN (by rw[b];exact hpa)]
      simp only[zh]
      omega
    . rw[BM hpa,BM (by rw[b];exact hpa)]
      exact k
theorem sS.next{m m3:List (Int×Ed)}{b:Bool}{T:Int}(h:sS m m2 ds k)(hk:k<ds.length)(D:ds.Nodup)(G:∀ j e,gE m j=some e->(j∈ds↔e.exp<=T))(E:(b=false/\(∀ k,gE m2 k=none)/\gE m3=gE m2)\/(b=true/\(∃ o,gE m2 i=some o/\∀ j e,gE m2 j=some e->j=i\/o.exp<e.exp\/(o.exp=e.exp/\i<j))/\gE m3=(gE m2).set i none)):sS m m3 ds (k+1):=by
 have t:=h.cnt
 have u:∀ {j:Nat} {e:Ed},gE m2 j=some e->(gE m2 j).map Ed.er=(gE m j).map Ed.er->∃ f,gE m j=some f/\f.exp=e.exp:=fun {j e} c r=>by
  rw[c]at r
  obtain⟨f,x,y⟩:=BO.1 r.symm
  grind [Ed.er]
 obtain⟨s,A⟩:∃ s,s∈ds.filter fun j=>(gE m2 j).isSome:=by
  cases hf:ds.filter fun j=>(gE m2 j).isSome with
  | nil=>rw[hf]at t;simp at t;omega
  | cons a l=>exact⟨a,s_⟩
 obtain⟨B,C⟩:=zy.1 A
 obtain⟨f,g⟩:=Option.isSome_iff_exists.1 C
 rcases E with ⟨_,c,_⟩|⟨_,⟨o,v,H⟩,z⟩
 . rw[c]at g;cases g
 . have d:i∈ds:=by
    by_cases d:i∈ds
    . exact d
    . exfalso
      obtain⟨I,c,r⟩:=u v (h.out i d)
      obtain⟨F,x,y⟩:=u g ((h.sub s B).resolve_left (by rw[g];exact fun h=>by cases h))
      grind
   have w:∀ j,gE m3 j=if j=i then none else gE m2 j:=fun j=>by rw[z];rfl
   refine⟨fun j n=>?_,fun j n=>?_,?_⟩
   . rw[w,if_neg (fun e:j=i=>n (e▸d))];exact h.out j n
   . rw[w]
     split
     . exact .inl rfl
     . exact h.sub j n
   . have c:=OL (p:=fun j=>(gE m2 j).isSome) (q:=fun j=>(gE m3 j).isSome) D d (by rw[v];rfl) fun j=>by
      grind
     omega
theorem sS.fin{m:List (Int×Ed)}(h:sS m m2 ds ds.length):∀ j∈ds,gE m2 j=none:=fun j b=>by
 have c:=h.cnt
 have a:ds.filter (fun j=>(gE m2 j).isSome)=[]:=vD o_
 cases he:gE m2 j with
 | none=>rfl
 | some e =>
  have:j∈ds.filter fun j=>(gE m2 j).isSome:=zy.2 ⟨b,by rw[he];rfl⟩
  rw[a]at this
  cases this
def qz(a b:Int):Int×Int:=if -9223372036854775808<=a+b/\a+b<=9223372036854775807 then(a+b,0)else(0,7)
theorem AG{a b:Int}(h:-9223372036854775808<=a+b/\a+b<=9223372036854775807):qz a b=(a+b,0):=if_pos h
theorem Nt{a b:Int}(h:¬ (-9223372036854775808<=a+b/\a+b<=9223372036854775807)):qz a b=(0,7):=if_neg h
def r8(win now to:Int):Int:=if to<now then 10 else(qz to win).2
structure WC where
 win:Int
 fM:Nat
 fN:Nat
 kN:Int
structure WW where
 cb:Nat
 ub:Nat
 sb:Nat
 hb:Nat
 ob:Nat
 now:Int
 q:QS
 u:fW
 g:GW
 added:Int
 jX:Int
def Ek(u:fW)(q:QS):Prop:=∀ e:gH,e∈q.fQ↔∃ x,u.has x/\x.slot=(e.ix:Int)/\x.exp=e.key
structure WW.ok (c:WC) (s:WW):Prop where
 w1:1<=c.win
 wi:c.win<=1000000
 e1:1<=c.fM
 en:c.fM<=16384
 v2:2<=c.fN
 vn:c.fN<=4096
 n0:0<=s.now
 n1:s.now<=1000000
 a0:0<=s.added
 a1:s.added<=1000000
 ex:gU .u64 s.jX
 la:s.u.last<=s.added
 uy:Ek s.u s.q
 live:∀ x,s.u.has x->x.t<=s.now/\s.now<x.exp/\x.exp=x.t+c.win/\0<=x.t
 ord:∀ x y,s.u.has x->s.u.has y->x.seq<y.seq->x.t<=y.t
 fr:nM s.u s.g
structure pE (u u2:fW) (ds:List Nat):Prop where
 has:∀ x,u2.has x↔u.has x/\∀ i∈ds,x.slot≠(i:Int)
 last:u2.last=u.last
theorem pE.start(u:fW):pE u u []:=⟨fun x=>by simp,rfl⟩
theorem pE.next{u u2 d:fW}(h:pE u u2 ds)(e:∀ x,d.has x↔u2.has x/\x.slot≠(i:Int))(f:d.last=u2.last):pE u d (ds++[i]) :=
 ⟨fun x=>by
  rw[e,h.has,and_assoc]
  refine and_congr_right fun _=>⟨fun⟨a,b⟩ j c=>?_,fun h=>⟨fun j c=>h j (by simp[c]),h i s_⟩⟩
  rcases zn.1 c with c|c
  . exact a j c
  . rw[k7]at c;subst c;exact b,f.trans h.last⟩
theorem pE.fin{u u2:fW}{p:QS}{t:Int}(h:pE u u2 ds)(hs:Ek u q)(c:u.ok fN fM)(hd:qx n q p ds t):∀ x,u2.has x↔u.has x/\t<x.exp:=by
 intro x
 rw[h.has]
 refine and_congr_right fun a=>?_
 obtain⟨i,hi,_,_,_⟩:=c.wj a
 have d:(⟨i,x.exp⟩:gH)∈q.fQ:=(hs _).2 ⟨x,a,hi,rfl⟩
 constructor
 . intro b
   by_cases h2:t<x.exp
   . exact h2
   . exact absurd hi (b i ((hd.out i).2 ⟨_,d,rfl,Int.not_lt.1 h2⟩))
 . intro b j l e
   obtain⟨f,g,k,r⟩:=(hd.out j).1 l
   obtain⟨y,m,o,s⟩:=(hs f).1 g
   have:x=y:=c.Dl a m (by rw[e,o,k])
   subst this
   omega
theorem pE.can{u u2:fW}{B:QS}{t:Int}(h:pE u u2 (ds.take k))(hs:Ek u q)(v:u2.ok fN fM)(hd:qx n q B ds t)(hk:ds[k]? = some i):u2.A.ij i:=by
 obtain⟨s,r⟩:=zt.1 hk
 obtain⟨f,l,m,C⟩:=(hd.out i).1 (ze hk)
 obtain⟨x,w,z,D⟩:=(hs f).1 l
 rw[m]at z
 have y:u2.has x:=(h.has x).2 ⟨w,fun j c e=>by
  obtain⟨a,d,b⟩:=vH c
  have g:a<k/\a<ds.length:=by
   rw[k8]at d
   omega
  rw[List.getElem_take]at b
  have o:j=i:=by omega
  have:=Kh hd.nd g.2 s (by rw[b,r,o])
  omega⟩
 obtain⟨j,c,p,_,_⟩:=v.wj y
 have:j=i:=by omega
 subst this
 exact p
section
variable {c:WC} {s:WW}
theorem WW.ok.tick(h:s.ok c){T:Int}(o:s.now<=T)(g:T<=1000000){u2:fW}{d:QS}{ex:Int}(i:gU .u64 ex)(hd:qx n s.q d ds T)(a:∀ x,u2.has x↔s.u.has x/\T<x.exp)(k:u2.last=s.u.last)(j:nM u2 g2) :
 WW.ok c ⟨s.cb,s.ub,s.sb,s.hb,s.ob,T,d,u2,g2,s.added,ex⟩:=by
 have p:=h.n0
 refine⟨h.w1,h.wi,h.e1,h.en,h.v2,h.vn,by show 0<=T;omega,g,h.a0,h.a1,i,by show u2.last<=_;rw[k];exact h.la,fun e=>?_,fun x b=>?_,fun x y b l=>h.ord x y ((a x).1 b).1 ((a y).1 l).1,j⟩
 . show e∈d.fQ↔∃ x,u2.has x/\_
   rw[hd.rest,h.uy]
   constructor
   . grind
   . grind
 . have f:=(a x).1 b
   have m:=h.live x f.1
   grind
theorem WW.ok.free(h:s.ok c)(j:s.u.ok c.fN c.fM){u2:fW}(k:u2.ok c.fN c.fM)(d:e.slot=(i:Int))(m:e.seq=s.u.last+1)(a:∀ y,u2.has y↔s.u.has y\/y=e):∀ f∈s.q.fQ,f.ix≠i:=by
 intro f g e1
 obtain⟨x,b,l,_⟩:=(h.uy f).1 g
 have:x=e:=k.Dl ((a x).2 (.inl b)) ((a e).2 (.inr rfl)) (by rw[l,d,e1])
 subst this
 have:=j.RE b
 omega
theorem WW.ok.ins(h:s.ok c)(z:s.u.ok c.fN c.fM){u2:fW}{m:QS}(r:e.slot=(i:Int))(E:e.seq=s.u.last+1)(F:e.t=s.now)(D:e.exp=s.now+c.win)(g:∀ y,u2.has y↔s.u.has y\/y=e)(G:u2.last=s.u.last+1)(w:∀ f,f∈m.fQ↔f∈s.q.fQ\/f=⟨i,e.exp⟩)(B:s.added<1000000)(v:nM u2 g2):WW.ok c ⟨s.cb,s.ub,s.sb,s.hb,s.ob,s.now,m,u2,g2,s.added+1,s.jX⟩:=by
 have C:=h.a0
 have H:=h.la
 have I:=h.n0
 have J:=h.w1
 refine⟨h.w1,h.wi,h.e1,h.en,h.v2,h.vn,h.n0,h.n1,by show 0<=s.added+1;omega,by show s.added+1<=_;omega,h.ex,by show u2.last<=s.added+1;omega,fun f=>?_,fun x j=>?_,fun x y j o=>?_,v⟩
 . show f∈m.fQ↔∃ x,u2.has x/\_
   rw[w,h.uy]
   constructor
   . rintro(⟨x,k,l⟩|rfl)
     . exact⟨x,(g x).2 (.inl k),l⟩
     . exact⟨e,(g e).2 (.inr rfl),r,rfl⟩
   . rintro⟨x,k,l,p⟩
     rcases(g x).1 k with d|rfl
     . exact .inl ⟨x,d,l,p⟩
     . right
       obtain⟨a,b⟩:=f
       grind
 . show x.t<=s.now/\s.now<x.exp/\_
   rcases(g x).1 j with d|rfl
   . exact h.live x d
   . exact⟨o_,o_,o_,o_⟩
 . change u2.has x at j
   change u2.has y at o
   rcases(g x).1 j with d|rfl<;>rcases(g y).1 o with n|rfl
   . exact h.ord x y d n
   . intro _
     have:=(h.live x d).1
     omega
   . have:=z.RE n
     intro A
     omega
   . intro _;omega
end
theorem WW.uk{c:WC}(w1:1<=c.win)(wi:c.win<=1000000)(e1:1<=c.fM)(en:c.fM<=16384)(v2:2<=c.fN)(vn:c.fN<=4096){u:fW}{g:GW}(a:∀ y,¬ u.has y)(f:u.last=0)(d:q.fQ=[])(b:g.m=[])(cb ub sb hb ob:Nat):WW.ok c ⟨cb,ub,sb,hb,ob,0,q,u,g,0,0⟩ :=
 ⟨w1,wi,e1,en,v2,vn,Int.le_refl 0,by show (0:Int)<=1000000;decide,Int.le_refl 0,by show (0:Int)<=1000000;decide,pJ ⟨Int.le_refl 0,by show (0:Int)<=18446744073709551615;decide⟩,by show u.last<=0;omega,fun e=>⟨fun h=>by change e∈q.fQ at h;rw[d]at h;simp at h,fun⟨x,h,_⟩=>absurd h (a x)⟩,fun x h=>absurd h (a x),fun x y h=>absurd h (a x),fun k t=>⟨fun h=>(by change (gE g.m k).map Ed.er=_ at h;rw[b]at h;cases h),fun⟨x,h,_⟩=>absurd h (a x)⟩⟩
theorem WW.ok.noE{c:WC}{s:WW}(h:s.ok c)(a:∀ f∈s.q.fQ,f.ix≠i):gE s.g.m i=none :=
 h.fr.empty fun x b hs=>a ⟨i,x.exp⟩ ((h.uy _).2 ⟨x,b,hs,rfl⟩) rfl
theorem WW.ok.due{c:WC}{s:WW}(h:s.ok c){v:QS}{T:Int}(hd:qx n s.q v ds T)(o:s.u.ok c.fN c.fM):sS s.g.m s.g.m ds 0/\∀ j e,gE s.g.m j=some e->(j∈ds↔e.exp<=T):=by
 refine⟨sS.start fun j p=>?_,fun j e d=>?_⟩
 . obtain⟨f,i,l,_⟩:=(hd.out j).1 p
   obtain⟨x,a,b,_⟩:=(h.uy f).1 i
   obtain⟨e,d,_⟩:=h.fr.ua o a (k:=j) (by rw[b,l])
   rw[d];rfl
 . obtain⟨x,a,b,_,_,A⟩:=h.fr.live d
   rw[hd.out]
   constructor
   . rintro⟨f,i,l,z⟩
     obtain⟨y,r,t,B⟩:=(h.uy f).1 i
     have:x=y:=o.Dl a r (by rw[b,t,l])
     subst this
     omega
   . intro w
     exact⟨⟨j,x.exp⟩,(h.uy _).2 ⟨x,a,b,rfl⟩,rfl,by show x.exp<=T;omega⟩
theorem WW.ok.aeC{c:WC}{s:WW}(h:s.ok c){l:QS}{u2:fW}{T:Int}(hd:qx n s.q l ds T)(f:s.u.ok c.fN c.fM)(j:u2.ok c.fN c.fM)(e:pE s.u u2 ds)(hk:TW.Kp s.u.t u2.t)(b:sS s.g.m g2.m ds ds.length):nM u2 g2 :=
 h.fr.rest f j (P:=fun k=>k∈ds) (fun x=>(e.has x).trans (and_congr_right fun o=>⟨fun a k hk d=>a k d hk,fun a i hi hs=>a i hs hi⟩)) hk (fun k hk=>b.fin k hk) fun k hk=>b.out k hk
structure WW.Step (s s2:WW) (r:Lv):Prop where
 now:s2.now=s.now\/s2.now=r.t
 added:s2.added<=s.added+1
 has:∀ x,s2.u.has x->s.u.has x\/(x.u=r.u/\x.v=r.v/\x.wt=r.wt)
theorem WW.Step.same(s:WW)(r:Lv):WW.Step s s r:=⟨.inl rfl,o_,fun x h=>.inl h⟩
theorem XV(x:Int):gU .u64 (IntKind.u64.wrap x):=by
 rw[IntKind.wrap_u64]
 exact pJ o_
theorem N3{t:Int}(h1:x<=t)(a:-9223372036854775808<=t+u/\t+u<=9223372036854775807):r8 u x t=0:=by
 grind [r8,AG]
theorem qx.aaT{a t:QS}(h:qx n a t ds u)(e:a.fQ=q.fQ):qx n q t ds u :=
 ⟨h.ok,by rw[<-e];exact h.rest,by rw[<-e];exact h.out,h.nd,h.len⟩
theorem TW.mR.lt{t:TW}{id:Int}{z:Nat}{b:Bool}(h:t.mR id z b)(a:t.ok)(hp:0<t.A.n):z<t.A.n:=by
 rcases h with ⟨_,h,_⟩|⟨_,rfl,_⟩
 . exact oJ h.1 a.pI
 . exact hp
def Room(c:WC)(s:WW)(x:Lv):Prop:=∀ u2:fW,u2.ok c.fN c.fM->u2.t.A.ok->(∀ y,u2.has y↔s.u.has y/\x.t<y.exp)->u2.gN c.fN c.fM x.u x.v=0
theorem Room.of{c:WC}{s:WW}{x:Lv}{a:fW}(d:a.ok c.fN c.fM)(e:a.t.A.ok)(hc:a.gN c.fN c.fM x.u x.v=0)(hs:∀ y,s.u.has y/\x.t<y.exp->a.has y):Room c s x :=
 fun u2 b f g=>fW.Vq b f d e (fun y h=>hs y ((g y).1 h)) hc
structure sX (c:WC) (s:WW) (k:Nat):Prop where
 now:s.now<=3*(k:Int)
 added:s.added<=(k:Int)
 ids:∀ x,s.u.has x->(0<=x.u/\x.u<12)/\0<=x.v/\x.v<12
 wt:∀ x,s.u.has x -> -128<=x.wt/\x.wt<=127
variable{s2:WW}
theorem sX.next{c:WC}{s:WW}{r:Lv}(h:sX c s k)(hs:WW.Step s s2 r)(ht:r.t<=s.now+3)(f:0<=r.u/\r.u<12)(hv:0<=r.v/\r.v<12)(g:-128<=r.wt/\r.wt<=127):sX c s2 (k+1):=by
 have i:=h.now
 have j:=h.added
 have l:=hs.added
 refine⟨?_,o_,fun x b=>?_,fun x b=>?_⟩
 . rcases hs.now with e|e<;>omega
 . rcases hs.has x b with a|⟨a,d,_⟩
   . exact h.ids x a
   . rw[a,d];exact⟨f,hv⟩
 . rcases hs.has x b with a|⟨_,_,a⟩
   . exact h.wt x a
   . rw[a];exact g
structure Mv where
 u:Int
 v:Int
 wt:Int
 af:Int
instance:Inhabited Mv:=⟨⟨0,0,0,0⟩⟩
structure Mv.ok (x:Mv):Prop where
 u:0<=x.u/\x.u<=255
 v:0<=x.v/\x.v<=255
 wt : -128<=x.wt/\x.wt<=127
 af:0<=x.af/\x.af<=255
theorem sX.start{c:WC}{s:WW}(h1:s.now=0)(d:s.added=0)(b:∀ y,¬ s.u.has y):sX c s 0 :=
 ⟨by rw[h1];decide,by rw[d];decide,fun x a=>absurd a (b x),fun x a=>absurd a (b x)⟩
def Mv.ua(now:Int)(x:Mv):Lv:=⟨0,0,x.u%12,x.v%12,x.wt,now+x.af%4,0⟩
theorem Mv.ok.ua{x:Mv}(h:x.ok)(a:0<=u)(h1:u<=1000):(x.ua u).ok:=by
 have b:=h.wt
 unfold Mv.ua
 exact⟨kY (by show _/\_;dsimp only;omega),pJ (by show _/\_;dsimp only;omega),pJ (by show _/\_;dsimp only;omega),pJ (by show _/\_;dsimp only;omega),kY (by show _/\_;dsimp only;omega),kY (by show _/\_;dsimp only;omega),kY (by show _/\_;dsimp only;omega)⟩
section
variable {ys xs:List Int} {i j n:Nat} {x:Int}
def qS(ys:List Int)(i:Nat):Prop:=∀ p q,p<q->q<i->fJ ys p<=fJ ys q
def uO(ys:List Int)(i j:Nat):Prop:=∀ p q,p<q->q<=i->q≠j->fJ ys p<=fJ ys q
def Dp(ys:List Int)(j:Nat):List Int:=fO (fO ys j fun _=>fJ ys (j-1)) (j-1) fun _=>fJ ys j
theorem ad7(a:0<j)(h:j<ys.length):(Dp ys j).Perm ys:=by
 grind [fJ,iS,Dp,fO]
theorem Se(a:0<j)(h:j<ys.length)(k:Nat):fJ (Dp ys j) k=if k=j then fJ ys (j-1)else if k=j-1 then fJ ys j else fJ ys k:=by
 grind [Dp,jG,gB]
theorem qS.zero:qS ys 1:=fun p q a b=>by omega
theorem qS.at(h:qS ys i):uO ys i i:=fun p q a b c=>h p q a o_
theorem uO.swap(h:uO ys i j)(b:0<j)(e:j<=i)(f:i<ys.length)(g:fJ ys j<fJ ys (j-1)):uO (Dp ys j) i (j-1):=by
 intro p q d a c
 rw[Se b o_,Se b o_]
 by_cases hqj:q=j
 . rw[if_pos hqj]
   by_cases hp:p=j-1
   . rw[if_neg o_,if_pos hp];omega
   . rw[if_neg o_,if_neg hp]
     exact h p (j-1) o_ o_ o_
 . rw[if_neg hqj,if_neg c]
   by_cases hpj:p=j
   . rw[if_pos hpj]
     exact h (j-1) q o_ a hqj
   . rw[if_neg hpj]
     by_cases hp:p=j-1
     . rw[if_pos hp]
       exact h j q o_ a hqj
     . rw[if_neg hp]
       exact h p q d a hqj
theorem uO.Wt(h:uO ys i 0):qS ys (i+1):=fun p q a b=>h p q a o_ o_
theorem uO.done(h:uO ys i j)(b:0<j)(d:j<=i)(e:¬ fJ ys j<fJ ys (j-1)):qS ys (i+1):=by
 intro p q a c
 by_cases hq:q=j
 . subst hq
   by_cases hp:p=q-1
   . subst hp;omega
   . have:=h p (q-1) o_ o_ o_
     omega
 . exact h p q a o_ hq
theorem qS.kF(h:qS ys ys.length)(f:ys.Nodup):ys.Pairwise fun a b=>a<b:=by
 have e:ys.Pairwise fun a b=>a<=b:=by
  rw[vE]
  intro p q hp d g
  have c:=h p q g d
  rw[iS (z8 hp),iS (z8 d)]at c
  exact c
 exact(e.and f).imp fun {a b} h=>by have:=h.1;have:=h.2;omega
theorem ES{α:Type}{r:α->α->Prop}(hi:∀ a,¬ r a a)(ht:∀ a b,r a b->¬ r b a):∀ {a b:List α},a.Pairwise r->b.Pairwise r->(∀ x,x∈a↔x∈b)->a=b
 | [],[],_,_,_=>rfl
 | [],y :: b,_,_,h=>by have:=(h y).2 s_;cases this
 | x :: a,[],_,_,h=>by have:=(h x).1 s_;cases this
 | x :: a,y :: b,ha,hb,h=>by
  have j:x=y:=by
   rcases zg.1 ((h x).1 s_)with e|c
   . exact e
   . rcases zg.1 ((h y).2 s_)with e|f
     . exact e.symm
     . exact absurd ((pn.1 ha).1 y f) (ht _ _ ((pn.1 hb).1 x c))
  subst j
  have g:=(pn.1 ha).1
  have i:=(pn.1 hb).1
  congr 1
  refine ES hi ht (pn.1 ha).2 (pn.1 hb).2 fun z=>⟨fun d=>?_,fun d=>?_⟩
  . rcases zg.1 ((h z).1 (by simp[d]))with e|c
    . subst e;exact absurd (g z d) (hi z)
    . exact c
  . rcases zg.1 ((h z).2 (by simp[d]))with e|c
    . subst e;exact absurd (i z d) (hi z)
    . exact c
theorem UA{b:List Int}(c:a.Pairwise fun x y=>x<y)(hb:b.Pairwise fun x y=>x<y)(h:∀ x,x∈a↔x∈b):a=b :=
 ES (fun a=>Int.lt_irrefl a) (fun a b h=>by omega) c hb h
theorem fW.kn.uniq{a b:List Lv}(c:s.kn a)(hb:s.kn b):a=b :=
 ES (r:=fun x y:Lv=>x.seq<y.seq) (fun a=>Int.lt_irrefl _) (fun a b h=>by omega) c.kF hb.kF fun x=>(c.mem x).trans (hb.mem x).symm
structure pq (ys:List Int) (x:Int) (i j:Nat):Prop where
 lo:∀ p,p<i->fJ ys p<x
 hi:∀ p,j<=p->p<ys.length->x<=fJ ys p
theorem pq.start:pq ys x 0 ys.length:=⟨fun p h=>by omega,fun p a b=>by omega⟩
theorem ET(h:ys.Pairwise fun a b=>a<b){p q:Nat}(e:p<q)(c:q<ys.length):fJ ys p<fJ ys q:=by
 have d:=(vE.1 h) p q o_ c e
 rw[iS (z8 (show p<ys.length by omega)),iS (z8 c)]
 exact d
theorem pq.up(h:pq ys x i j)(hs:ys.Pairwise fun a b=>a<b)(hk:k<ys.length)(c:fJ ys k<x):pq ys x (k+1) j :=
 ⟨fun p hp=>by
  by_cases e:p=k
  . subst e;exact c
  . have:=ET hs (show p<k by omega) hk
    omega,h.hi⟩
theorem pq.down(h:pq ys x i j)(hs:ys.Pairwise fun a b=>a<b)(f:¬ fJ ys k<x):pq ys x i k :=
 ⟨h.lo,fun p d c=>by
  by_cases e:p=k
  . subst e;omega
  . have:=ET hs (show k<p by omega) c
    omega⟩
def gP(ys:List Int)(x:Int):Nat:=(ys.filter fun y=>decide (y<x)).length
theorem pq.gP(h:pq ys x i i)(hi:i<=ys.length):i=gP ys x:=by
 have d:(ys.take i).filter (fun y=>decide (y<x))=ys.take i:=qN.2 fun y c=>by
  obtain⟨p,hp,e⟩:=vH c
  rw[k8]at hp
  rw[List.getElem_take]at e
  have a:=h.lo p o_
  rw[iS (z8 o_),e]at a
  exact decide_eq_true a
 have a:(ys.drop i).filter (fun y=>decide (y<x))=[]:=DO.2 fun y c=>by
  obtain⟨p,hp,e⟩:=vH c
  rw[DM]at hp
  rw[List.getElem_drop]at e
  have b:=h.hi (i+p) o_ o_
  rw[iS (z8 o_),e]at b
  simp
  omega
 have b:ys.filter (fun y=>decide (y<x))=ys.take i:=by
  conv=>lhs;rw[<-zY i ys]
  grind
 unfold Go.Sx.gP
 rw[b,k8]
 omega
theorem sB(hs:ys.Pairwise fun a b=>a<b)(f:x∈ys):gP ys x<ys.length/\fJ ys (gP ys x)=x:=by
 obtain⟨k,c,e⟩:=vH f
 have e1:fJ ys k=x:=iS (by rw[z8 c,e])
 have hb:pq ys x k k:=⟨fun p hp=>by have:=ET hs hp c;omega,fun p g d=>by
  by_cases h3:k=p
  . subst h3;omega
  . have:=ET hs (show k<p by omega) d
    omega⟩
 rw[<-hb.gP o_]
 exact⟨c,e1⟩
structure Ge where
 u:Nat
 v:Nat
 w:Int
instance:Inhabited Ge:=⟨⟨0,0,0⟩⟩
def Ge.cells(x:Ge):List Value:=[.int .i64 x.u,.int .i64 x.v,.int .i64 x.w]
structure Mm (ids:List Int) (x:Lv) (e:Ge):Prop where
 ul:e.u<ids.length
 vl:e.v<ids.length
 u:fJ ids e.u=x.u
 v:fJ ids e.v=x.v
 w:e.w=x.wt
structure kA (ids:List Int) (L:List Lv) (es:List Ge) (k:Nat):Prop where
 len:es.length=L.length
 fst:∀ i,i<k->Mm ids (fJ L i) (fJ es i)
theorem kA.start:kA a L (List.replicate L.length ⟨0,0,0⟩) 0:=⟨by rw[qL],fun i h=>by omega⟩
variable{es:List Ge}
theorem kA.next{ids:List Int}(h:kA ids L es k)(hk:k<L.length)(hs:ids.Pairwise fun a b=>a<b)(c:(fJ L k).u∈ids)(hv:(fJ L k).v∈ids) :
 kA ids L (fO es k fun _=>⟨gP ids (fJ L k).u,gP ids (fJ L k).v,(fJ L k).wt⟩) (k+1):=by
 have d:=h.len
 refine⟨by rw[gB];exact d,fun i hi=>?_⟩
 rw[jG o_]
 by_cases e:k=i
 . subst e
   rw[if_pos rfl]
   exact⟨(sB hs c).1,(sB hs hv).1,(sB hs c).2,(sB hs hv).2,rfl⟩
 . rw[if_neg e]
   exact h.fst i o_
structure fW.k9 (s:fW) (K:List Int):Prop where
 kF:K.Pairwise fun a b=>a<b
 mem:∀ x,x∈K↔s.t.mem x
theorem fW.k9.uniq{b:List Int}(c:s.k9 a)(hb:s.k9 b):a=b:=UA c.kF hb.kF fun x=>(c.mem x).trans (hb.mem x).symm
theorem fW.k9.ends(h:s.k9 K)(a:s.ok fN fM)(b:s.kn L)(hk:k<L.length):(fJ L k).u∈K/\(fJ L k).v∈K:=by
 obtain⟨i,hi,e⟩:=(b.mem _).1 (ze (gz hk))
 exact⟨(h.mem _).2 ((a.mem _).2 ⟨i,hi,.inl (by rw[e])⟩),(h.mem _).2 ((a.mem _).2 ⟨i,hi,.inr (by rw[e])⟩)⟩
theorem fW.k9.len(h:s.k9 K)(d:s.ok fN fM)(c:s.t.A.ok):K.length<=fN:=by
 have f:K.length<=s.t.tw.length:=um K _ (h.kF.imp fun {a b} k e=>by omega) fun x g=>(TW.CG c x).2 ((h.mem x).1 g)
 rw[TW.Jq c]at f
 have i:=d.tok.ul
 have j:=d.tn
 omega
structure Mw where
 wa:Bool
 u:Int
 v:Int
 wt:Int
 af:Int
instance:Inhabited Mw:=⟨⟨false,0,0,0,0⟩⟩
def Mw.cells(x:Mw):List Value:=[.bool x.wa,.int .u8 x.u,.int .u8 x.v,.int .i8 x.wt,.int .u8 x.af]
def Mw.mv(x:Mw):Mv:=⟨x.u,x.v,x.wt,x.af⟩
abbrev cG:WC:=⟨20,40,10,60⟩
theorem sX.tick{c:WC}{s:WW}{T:Int}(h:sX c s k)(g:s2.now=T)(ht:T<=s.now+3)(f:s2.added=s.added)(b:∀ y,s2.u.has y↔s.u.has y/\T<y.exp):sX c s2 (k+1):=by
 have d:=h.now
 have e:=h.added
 exact⟨o_,o_,fun x a=>h.ids x ((b x).1 a).1,fun x a=>h.wt x ((b x).1 a).1⟩
end
structure Ds where
 uv:Value
 lv:Value
 sv:Value
 up:List Nat
 le:List Nat
 sz:List Int
 cnt:Int
 lb:List Nat
structure Ds.wQ (d:Nat->Nat) (n:Nat) (s:Ds):Prop where
 ul:s.up.length=n
 ll:s.le.length=n
 sl:s.sz.length=n
 bl:s.lb.length=n
 ub:∀ i,i<n->fJ s.up i<n
 wK:∀ i,i<n->fJ s.lb (fJ s.up i)=fJ s.lb i
 dec:∀ i,i<n->fJ s.up i≠i->d (fJ s.up i)<d i
 sG:∀ i j,i<n->j<n->fJ s.up i=i->fJ s.up j=j->fJ s.lb i=fJ s.lb j->i=j
 gW:∀ i,i<n->fJ s.up i=i->fJ s.le i=fJ s.lb i
 low:∀ i,i<n->fJ s.lb i<=i
 me:∀ i,i<n->fJ s.lb (fJ s.lb i)=fJ s.lb i
 Lg:∀ x∈s.sz,gU .i64 x
def Ds.ok(n:Nat)(s:Ds):Prop:=(∃ d,s.wQ d n)/\gU .i64 s.cnt
def iW(lb:List Nat)(x y:Nat):List Nat:=lb.map fun z=>if z=max x y then min x y else z
theorem FQ{x y:Nat}:(iW E x y).length=E.length:=by simp[iW]
theorem Ka{x:Nat}:iW E x x=E:=by
 unfold iW
 conv=>rhs;rw[<-List.map_id E]
 exact DU fun z _=>by simp;intro h;exact h.symm
theorem nT{x y:Nat}(h:i<E.length):fJ (iW E x y) i=if fJ E i=max x y then min x y else fJ E i:=by
 obtain⟨z,a⟩:=oW h
 grind [iS,iW]
theorem lU(h:i<n):fJ (List.range n) i=i:=iS (rF h)
theorem Bc{α:Type}[Inhabited α]{x:α}{n i:Nat}(h:i<n):fJ (List.replicate n x) i=x:=iS (by rw[uH,if_pos h])
theorem XX:gU .i64 1:=by unfold gU;decide
theorem Ds.uk{u l s:Value}{c:Int}(hc:gU .i64 c):Ds.ok n ⟨u,l,s,List.range n,List.range n,List.replicate n 1,c,List.range n⟩ :=
 ⟨⟨fun _=>0,s_,s_,s_,s_,fun i h=>by show fJ (List.range n) i<n;rw[lU h];exact h,fun i h=>by show fJ (List.range n) (fJ (List.range n) i)=_;rw[lU h,lU h],fun i h a=>absurd (lU h) a,
  fun i j hi b _ _ h=>by have a:fJ (List.range n) i=fJ (List.range n) j:=h;rwa [lU hi,lU b]at a,fun i _ _=>rfl,fun i h=>by show fJ (List.range n) i<=i;rw[lU h];exact zm _,fun i h=>by show fJ (List.range n) (fJ (List.range n) i)=_;rw[lU h,lU h],fun x d=>by rw[(List.mem_replicate.1 d).2];exact XX⟩,hc⟩
structure sR (n k:Nat) (up le:List Nat) (sz:List Int):Prop where
 u:up=(List.range k)++List.replicate (n-k) 0
 l:le=(List.range k)++List.replicate (n-k) 0
 s:sz=List.replicate k 1++List.replicate (n-k) 0
theorem Bx{α:Type}[Inhabited α]{a b:List α}{x y:α}{f:α->α}(c:f x=y):fO (a++x :: b) a.length f=a++y :: b:=by
 unfold fO
 rw[iS (x:=x) s_,c,List.set_append_right _ _ (zm _)]
 simp
theorem sR.start:sR n 0 (List.replicate n 0) (List.replicate n 0) (List.replicate n 0):=⟨s_,s_,s_⟩
theorem Bl{α:Type}{x:α}(h:k<n):List.replicate (n-k) x=x :: List.replicate (n-(k+1)) x:=by
 rw[show n-k=(n-(k+1))+1 by omega];rfl
theorem sR.next{sz:List Int}(h:sR n k E ds sz)(hk:k<n):sR n (k+1) (fO E k fun _=>k) (fO ds k fun _=>k) (fO sz k fun _=>1):=by
 obtain⟨rfl,rfl,rfl⟩:=h
 have c:fO (List.range k++List.replicate (n-k) 0) k (fun _=>k)=List.range (k+1)++List.replicate (n-(k+1)) 0:=by
  have:=Bx (a:=List.range k) (b:=List.replicate (n-(k+1)) 0) (x:=0) (y:=k) (f:=fun _=>k) rfl
  rw[mQ]at this
  rw[Bl hk,this,sP]
  simp
 refine⟨c,c,?_⟩
 have:=Bx (a:=List.replicate k (1:Int)) (b:=List.replicate (n-(k+1)) 0) (x:=0) (y:=1) (f:=fun _=>1) rfl
 rw[qL]at this
 rw[Bl hk,this,List.replicate_succ']
 simp
theorem sR.fin{sz:List Int}(h:sR n n E ds sz):E=List.range n/\ds=List.range n/\sz=List.replicate n 1:=by
 obtain⟨rfl,rfl,rfl⟩:=h
 simp
theorem sR.len{sz:List Int}(h:sR n k E ds sz)(hk:k<=n):E.length=n/\ds.length=n/\sz.length=n:=by
 obtain⟨rfl,rfl,rfl⟩:=h
 simp
 omega
def gi(x:Int):List Value:=[.int .i64 x]
def Ds.wu(s:Ds)(up:List Nat):Ds:={ s with up:=up }
structure qw (d:Nat->Nat) (n:Nat) (s:Ds) (a0:Nat) (up:List Nat) (a:Nat):Prop where
 ok:(s.wu up).wQ d n
 an:a<n
 la:fJ s.lb a=fJ s.lb a0
 ro:∀ i,i<n->fJ s.up i=i->fJ up i=i
theorem qw.start{d:Nat->Nat}{a:Nat}{s:Ds}(h:s.wQ d n)(b:a<n):qw d n s a s.up a:=⟨h,b,rfl,fun _ _ h=>h⟩
theorem qw.half{d:Nat->Nat}{a:Nat}{s:Ds}(h:qw d n s a0 E a)(w:fJ E a≠a) :
 qw d n s a0 (fO E a fun _=>fJ E (fJ E a)) (fJ E (fJ E a))/\fJ (fO E a fun _=>fJ E (fJ E a)) a=fJ E (fJ E a)/\d (fJ E (fJ E a))<d a:=by
 obtain⟨b,f,v,A⟩:=h
 have x:E.length=n:=b.ul
 have m:∀ i,i<n->fJ E i<n:=b.ub
 have g:∀ i,i<n->fJ s.lb (fJ E i)=fJ s.lb i:=b.wK
 have t:∀ i,i<n->fJ E i≠i->d (fJ E i)<d i:=b.dec
 have hp:=m a f
 have o:=m _ hp
 have k:∀ i,fJ (fO E a fun _=>fJ E (fJ E a)) i=if a=i then fJ E (fJ E a)else fJ E i:=fun i=>jG o_
 have y:=t a f w
 have r:d (fJ E (fJ E a))<=d (fJ E a):=by
  grind
 have z:fJ E (fJ E a)≠a:=fun e=>by rw[e]at r;omega
 have l:∀ i,fJ (fO E a fun _=>fJ E (fJ E a)) i=i->fJ E i=i:=by
  grind
 refine⟨⟨⟨by show (fO E a fun _=>fJ E (fJ E a)).length=n;rw[gB];exact x,b.ll,b.sl,b.bl,?_,?_,?_,?_,?_,b.low,b.me,b.Lg⟩,o,by rw[g _ hp,g _ f];exact v,?_⟩,by rw[k,if_pos rfl],o_⟩
 . intro i hi
   show fJ (fO E a fun _=>fJ E (fJ E a)) i<n
   rw[k]
   split
   . exact o
   . exact m i hi
 . intro i hi
   show fJ s.lb (fJ (fO E a fun _=>fJ E (fJ E a)) i)=fJ s.lb i
   rw[k]
   split
   . grind
   . exact g i hi
 . intro i hi
   show fJ (fO E a fun _=>fJ E (fJ E a)) i≠i->d (fJ (fO E a fun _=>fJ E (fJ E a)) i)<d i
   grind
 . intro i j hi u c p q
   exact b.sG i j hi u (l i c) (l j p) q
 . intro i hi c
   exact b.gW i hi (l i c)
 . grind
theorem qw.OW{d:Nat->Nat}{a:Nat}{s:Ds}(h:qw d n s a0 E a)(b:fJ E a≠a) :
 qw d n s a0 (fO E a fun _=>fJ E (fJ E a)) (fJ (fO E a fun _=>fJ E (fJ E a)) a)/\d (fJ (fO E a fun _=>fJ E (fJ E a)) a)<d a:=by
 rw[h.half b |>.2.1]
 exact⟨(h.half b).1,(h.half b).2.2⟩
theorem Ds.join{d:Nat->Nat}{x y:Nat}{s:Ds}{sz:List Int}{m:Nat}{c:Int}(h:s.wQ d n)(f:x<n)(b:y<n)(r:fJ s.up x=x)(o:fJ s.up y=y)(B:x≠y)(hs:sz.length=n)(hk:∀ z∈sz,gU .i64 z)(hm:m=min (fJ s.le x) (fJ s.le y))(hc:gU .i64 c):Ds.ok n ⟨s.uv,s.lv,s.sv,fO s.up y fun _=>x,fO s.le x fun _=>m,sz,c,iW s.lb (fJ s.lb x) (fJ s.lb y)⟩:=by
 have F:fJ s.lb x≠fJ s.lb y:=fun e=>B (h.sG x y f b r o e)
 have l:∀ i,fJ (fO s.up y fun _=>x) i=if y=i then x else fJ s.up i:=fun i=>jG (by rw[h.ul];exact b)
 have A:∀ i,fJ (fO s.le x fun _=>m) i=if x=i then m else fJ s.le i:=fun i=>jG (by rw[h.ll];exact f)
 have hb:∀ i,i<n->fJ (iW s.lb (fJ s.lb x) (fJ s.lb y)) i=if fJ s.lb i=max (fJ s.lb x) (fJ s.lb y)then min (fJ s.lb x) (fJ s.lb y)else fJ s.lb i:=fun i hi=>nT (by rw[h.bl];exact hi)
 refine⟨⟨fun i=>d i+if fJ s.lb i=fJ s.lb y then d x+1 else 0,by show (fO s.up y fun _=>x).length=n;rw[gB];exact h.ul,by show (fO s.le x fun _=>m).length=n;rw[gB];exact h.ll,hs,by show (iW s.lb (fJ s.lb x) (fJ s.lb y)).length=n;rw[FQ];exact h.bl,?_,?_,?_,?_,?_,?_,?_,hk⟩,hc⟩
 . intro i hi
   show fJ (fO s.up y fun _=>x) i<n
   rw[l]
   split
   . exact f
   . exact h.ub i hi
 . intro i hi
   show fJ (iW s.lb (fJ s.lb x) (fJ s.lb y)) (fJ (fO s.up y fun _=>x) i)=fJ (iW s.lb (fJ s.lb x) (fJ s.lb y)) i
   rw[l,hb i hi]
   by_cases e:y=i
   . grind
   . rw[if_neg e,hb _ (h.ub i hi),h.wK i hi]
 . intro i hi
   show fJ (fO s.up y fun _=>x) i≠i->d (fJ (fO s.up y fun _=>x) i)+_<d i+_
   rw[l]
   by_cases e:y=i
   . grind
   . rw[if_neg e,h.wK i hi]
     intro g
     have:=h.dec i hi g
     omega
 . intro i j hi q g u v
   have a : fJ (fO s.up y fun _=>x) i=i:=g
   have k : fJ (fO s.up y fun _=>x) j=j:=u
   have w : fJ (iW s.lb (fJ s.lb x) (fJ s.lb y)) i=fJ (iW s.lb (fJ s.lb x) (fJ s.lb y)) j:=v
   rw[l]at a k
   rw[hb i hi,hb j q]at w
   have p:y≠i:=fun e=>by rw[if_pos e]at a; omega
   have t:y≠j:=fun e=>by rw[if_pos e]at k; omega
   rw[if_neg p]at a
   rw[if_neg t]at k
   have I:=h.sG i y hi b a o
   have K:=h.sG j y q b k o
   have J:=h.sG i j hi q a k
   grind
 . intro i hi g
   show fJ (fO s.le x fun _=>m) i=fJ (iW s.lb (fJ s.lb x) (fJ s.lb y)) i
   have a : fJ (fO s.up y fun _=>x) i=i:=g
   rw[l]at a
   rw[A,hb i hi,hm,h.gW x f r,h.gW y b o]
   have p:y≠i:=fun e=>by rw[if_pos e]at a; omega
   rw[if_neg p]at a
   by_cases e:x=i
   . subst e
     rw[if_pos rfl]
     split<;>omega
   . rw[if_neg e,h.gW i hi a, if_neg]
     intro E
     have a1:=h.sG i x hi f a r
     have a2:=h.sG i y hi b a o
     grind [fJ]
 . intro i hi
   show fJ (iW s.lb (fJ s.lb x) (fJ s.lb y)) i<=i
   rw[hb i hi]
   have:=h.low i hi
   split<;>omega
 . intro i hi
   show fJ (iW s.lb (fJ s.lb x) (fJ s.lb y)) (fJ (iW s.lb (fJ s.lb x) (fJ s.lb y)) i)=fJ (iW s.lb (fJ s.lb x) (fJ s.lb y)) i
   have bi:=h.low i hi
   have bx:=h.low x f
   have D:=h.low y b
   have ix:=h.me x f
   have H:=h.me y b
   have C:=h.me i hi
   rw[hb i hi]
   split
   . have G:min (fJ s.lb x) (fJ s.lb y)<n:=by omega
     grind
   . rename_i e
     rw[hb _ o_,C,if_neg e]
theorem qw.two{d:Nat->Nat}{a b x y:Nat}{s:Ds}{g:List Nat}(h1:qw d n s a g x)(j:fJ g x=x)(c:qw d n (s.wu g) b ds y)(i:fJ ds y=y) :
 (s.wu ds).wQ d n/\fJ ds x=x/\fJ ds y=y/\x<n/\y<n/\fJ s.lb x=fJ s.lb a/\fJ s.lb y=fJ s.lb b/\(x=y↔fJ s.lb a=fJ s.lb b):=by
 have h:=c.ro x h1.an j
 refine⟨c.ok,h,i,h1.an,c.an,h1.la,c.la,fun e=>?_,fun e=>?_⟩
 . have e1:=h1.la
   have f:fJ s.lb y=fJ s.lb b:=c.la
   rw[<-e1,<-f,e]
 . have e1:=h1.la
   have f:fJ s.lb y=fJ s.lb b:=c.la
   exact c.ok.sG x y h1.an c.an h i (e1.trans (e.trans f.symm))
theorem J9{x y:Nat}:iW E x y=iW E y x:=by unfold iW;rw[Nat.max_comm,Nat.min_comm]
theorem Qc{x y a b:Nat}(h1:x=a)(c:y=b):iW E x y=iW E a b:=by rw[h1,c]
theorem Tg{k:IntKind}{zs:List Int}{f:Int->Int}(h:∀ z∈zs,gU k z)(b:gU k (f (fJ zs i))):∀ z∈fO zs i f,gU k z:=fun z c=>by
 rcases List.mem_or_eq_of_mem_set c with a|a
 . exact h z a
 . exact a▸b
theorem FP{a b:Nat}:(if (b:Int)<(a:Int)then(b:Int)else(a:Int))=((min a b:Nat):Int):=by split<;>omega
theorem ZT{a b:Nat}:(if (a:Int)<(b:Int)then(b:Int)else(a:Int))=((max a b:Nat):Int):=by split<;>omega
theorem G2(x:Int):gU .i64 (IntKind.i64.wrap x):=by
 rw[IntKind.wrap_i64]
 show (-9223372036854775808:Int)<=_/\_<=(9223372036854775807:Int)
 omega
theorem acK(v:Value){e:TypeId}:fL fU v e 1 (List.replicate n 0)=fL gi v e 1 (List.replicate n 0):=by
 unfold fL
 have h:(List.replicate n (0:Nat)).flatMap fU=(List.replicate n (0:Int)).flatMap gi:=by
  induction n with
  | zero=>rfl
  | succ n a=>rw[List.replicate_succ,List.replicate_succ,kR,kR,a];rfl
 grind
def ja(es:List Ge):List Nat:=es.flatMap fun e=>[e.u,e.v]
theorem xU(es:List Ge):(ja es).length=2*es.length:=by
 induction es with
 | nil=>rfl
 | cons e es a=>simp only[ja,kR,zo,zh,zk]at *;omega
variable{es:List Ge}
theorem AQ(h:i<es.length):(ja es)[2*i]? = some (fJ es i).u/\(ja es)[2*i+1]? = some (fJ es i).v:=by
 induction es generalizing i with
 | nil=>simp at h
 | cons e es a =>
  grind [fJ,ja]
theorem WH(h:i<es.length):ja (es.take (i+1))=ja (es.take i)++[(fJ es i).u,(fJ es i).v]:=by
 have a:es.take (i+1)=es.take i++[fJ es i]:=by rw[qu,gz h];rfl
 rw[a]
 simp[ja]
def oT(E:List Nat)(v:Nat):Nat:=E.count v
def tD(E:List Nat)(v:Nat):Nat:=E.countP fun x=>decide (x<v)
theorem PU(E:List Nat)(v:Nat):tD E (v+1)=tD E v+oT E v:=by
 unfold tD oT
 induction E with
 | nil=>rfl
 | cons x E a =>
  grind
theorem Y7(E:List Nat):tD E 0=0:=by unfold tD;rw[List.countP_eq_zero];simp
theorem PT(E:List Nat)(v:Nat):tD E v<=E.length:=List.countP_le_length
theorem Od(E:List Nat)(v:Nat):oT E v<=E.length:=BJ
theorem VT{v:Nat}(h:E[k]? = some v):oT (E.take k) v<oT E v:=by
 have a:k<E.length:=(zt.1 h).1
 have b:E=E.take k++v :: E.drop (k+1):=by
  conv=>lhs;rw[<-zY k E]
  rw[Hw a,(zt.1 h).2]
 grind [oT]
theorem VS{v:Nat}(h:E[k]? = some v)(x:Nat):oT (E.take (k+1)) x=oT (E.take k) x+if v=x then 1 else 0:=by
 unfold oT
 rw[qu,h,List.count_append]
 simp[List.count_cons]
def oG(n:Nat)(E:List Nat):List Nat:=0 :: (List.range n).map (oT E)
theorem wY:(oG n E).length=n+1:=by simp[oG]
theorem Gq{v:Nat}(h:v<n):fJ (oG n E) (v+1)=oT E v:=iS (by simp[oG,rF h])
theorem Ba{α:Type}[Inhabited α]{xs ys:List α}(h:xs.length=ys.length)(a:∀ i,i<xs.length->fJ xs i=fJ ys i):xs=ys:=by
 apply oc
 grind [gz]
theorem adg:List.replicate (n+1) 0=oG n []:=by
 refine Ba (by simp[oG]) fun i hi=>?_
 rw[qL]at hi
 rw[Bc hi]
 cases i with
 | zero=>rfl
 | succ i=>rw[Gq o_];rfl
theorem RK{v:Nat}(h:v<n):fO (oG n E) (v+1) (fun _=>fJ (oG n E) (v+1)+1)=oG n (E++[v]):=by
 refine Ba (by rw[gB,wY,wY]) fun i hi=>?_
 rw[gB,wY]at hi
 rw[jG (by rw[wY];omega)]
 cases i with
 | zero=>rw[if_neg o_];rfl
 | succ i =>
  grind [Gq,oT]
def nh(n:Nat)(E:List Nat)(k:Nat):List Nat:=(List.range (n+1)).map fun j=>if j<=k then tD E j else oT E (j-1)
theorem Gs:(nh n E k).length=n+1:=by simp[nh]
theorem Gt{j:Nat}(h:j<=n):fJ (nh n E k) j=if j<=k then tD E j else oT E (j-1):=iS (by rw[nh,oK,rF o_];rfl)
theorem adi:oG n E=nh n E 0:=by
 refine Ba (by rw[wY,Gs]) fun i hi=>?_
 rw[wY]at hi
 rw[Gt o_]
 cases i with
 | zero=>rw[if_pos o_,Y7];rfl
 | succ i=>rw[if_neg o_,Gq o_];rfl
theorem adh(h:k<n):fO (nh n E k) (k+1) (fun _=>fJ (nh n E k) (k+1)+fJ (nh n E k) k)=nh n E (k+1):=by
 grind [Ba,gB,Gs,jG,Gt,PU]
def Br(n:Nat)(es:List Ge):List Nat:=nh n (ja es) n
theorem adL{j:Nat}(h:j<=n):fJ (Br n es) j=tD (ja es) j:=by rw[Br,Gt h,if_pos h]
theorem adK:(Br n es).length=n+1:=Gs
def o5(n:Nat)(E:List Nat)(k:Nat):List Nat:=(List.range (n+1)).map fun v=>tD E v+oT (E.take k) v
theorem F3:(o5 n E k).length=n+1:=by simp[o5]
theorem Km{v:Nat}(h:v<=n):fJ (o5 n E k) v=tD E v+oT (E.take k) v:=iS (by rw[o5,oK,rF o_];rfl)
theorem aaQ:Br n es=o5 n (ja es) 0:=by
 grind [Ba,adK,F3,adL,Km,oT]
theorem Qq{v:Nat}(hv:v<n)(h:E[k]? = some v):fO (o5 n E k) v (fun _=>fJ (o5 n E k) v+1)=o5 n E (k+1):=by
 grind [Ba,gB,F3,jG,Km,VS]
theorem Qp{v:Nat}(hv:v<n)(h:E[k]? = some v):fJ (o5 n E k) v<E.length:=by
 rw[Km o_]
 have a:=VT h
 have b:=PU E v
 have c:=PT E (v+1)
 omega
def q7(n:Nat)(E:List Nat):Nat->List Nat
 | 0=>List.replicate E.length 0
 | k+1=>fO (q7 n E k) (fJ (o5 n E k) (fJ E k)) fun _=>k / 2
theorem JT{n:Nat}{E:List Nat}:∀ k,(q7 n E k).length=E.length
 | 0=>by simp[q7]
 | k+1=>by rw[q7,gB];exact JT k
def Y8(n:Nat)(es:List Ge):List Nat:=q7 n (ja es) (2*es.length)
def lQ(n:Nat)(es:List Ge):Prop:=∀ e∈es,e.u<n/\e.v<n/\e.u≠e.v
theorem lQ.at(h:lQ n es)(hi:i<es.length):(fJ es i).u<n/\(fJ es i).v<n/\(fJ es i).u≠(fJ es i).v:=h _ (ze (gz hi))
theorem Y9(h:i<es.length):q7 n (ja es) (2*i+1)=fO (q7 n (ja es) (2*i)) (fJ (o5 n (ja es) (2*i)) (fJ es i).u) fun _=>i:=by
 rw[q7,iS (AQ h).1,show 2*i / 2=i by omega]
theorem Zo(h:i<es.length):q7 n (ja es) (2*(i+1))=fO (q7 n (ja es) (2*i+1)) (fJ (o5 n (ja es) (2*i+1)) (fJ es i).v) fun _=>i:=by
 rw[show 2*(i+1)=2*i+1+1 by omega,q7,iS (AQ h).2,show (2*i+1) / 2=i by omega]
structure Gr where
 ev:Value
 sv:Value
 lv:Value
theorem RL{j:Nat}(h:j<=n):fJ (oG n E) j<=E.length:=by
 cases j with
 | zero=>exact mE _
 | succ j=>rw[Gq o_];exact Od _ _
theorem RM{j:Nat}(h:j<=n):fJ (nh n E k) j<=E.length:=by
 grind [Gt,PT,Od]
theorem St.reR{L:List fT}{R R':fT}{w:World}(j:Nat)(h:St bs L w)(hi:L[j]? = some R)(e:R=R'):St bs (L.set j R') w:=by
 subst e
 rwa [show L.set j R=L from by
  apply oc
  intro i
  rw[Ab]
  split
  . rename_i e
    subst e
    split
    . exact hi.symm
    . rename_i a
      rw[rH o_]at hi
      cases hi
  . rfl]
theorem Bb{α:Type}[Inhabited α]{l:List α}{k:Nat}(h:k<l.length):fJ l k∈l:=ze (gz h)
def qZ(es:List Ge)(i j:Nat):Prop:=(fJ es i).w<(fJ es j).w\/((fJ es i).w=(fJ es j).w/\i<j)
instance (es:List Ge) (i j:Nat):Decidable (qZ es i j):=by unfold qZ;infer_instance
theorem Yv(i:Nat):¬ qZ es i i:=by unfold qZ;omega
theorem Yu{j:Nat}(h:qZ es i j):¬ qZ es j i:=by unfold qZ at *;omega
structure oN (es:List Ge) (o:List Nat):Prop where
 perm:o.Perm (List.range es.length)
 Gx:o.Pairwise (qZ es)
theorem oN.uniq{o o':List Nat}(h:oN es o)(c:oN es o'):o=o' :=
 ES (r:=qZ es) Yv (fun a b h=>Yu h) h.Gx c.Gx fun x=>(h.perm.mem_iff).trans (c.perm.mem_iff).symm
theorem oN.len{o:List Nat}(h:oN es o):o.length=es.length:=by rw[h.perm.length_eq,mQ]
theorem oN.lt{o:List Nat}(h:oN es o)(hi:i∈o):i<es.length:=l8.1 (h.perm.mem_iff.1 hi)
def gR(es:List Ge)(n:Nat)(f:List Nat):List Nat:=f.foldl (fun lb i=>iW lb (fJ lb (fJ es i).u) (fJ lb (fJ es i).v)) (List.range n)
theorem CL{f:List Nat}:gR es n (f++[i])=iW (gR es n f) (fJ (gR es n f) (fJ es i).u) (fJ (gR es n f) (fJ es i).v):=by
 unfold gR
 rw[HD]
 rfl
theorem FA(f:List Nat):(gR es n f).length=n:=by
 unfold gR
 rw[<-List.foldr_reverse]
 induction f.reverse with
 | nil=>exact mQ
 | cons i f a=>rw[List.foldr_cons,FQ];exact a
def mG(es:List Ge)(n:Nat)(f:List Nat)(i:Nat):Prop:=fJ (gR es n f) (fJ es i).u≠fJ (gR es n f) (fJ es i).v
instance (es:List Ge) (n:Nat) (f:List Nat) (i:Nat):Decidable (mG es n f i):=by unfold mG;infer_instance
def jB(es:List Ge)(n:Nat)(o:List Nat):List Nat:=o.foldl (fun f i=>if mG es n f i then f++[i]else f) []
theorem CD{o:List Nat}:jB es n (o++[i])=if mG es n (jB es n o) i then jB es n o++[i]else jB es n o:=by
 unfold jB
 rw[HD]
 rfl
theorem Fk{o:List Nat}(h:k<o.length):jB es n (o.take (k+1))=if mG es n (jB es n (o.take k)) (fJ o k)then jB es n (o.take k)++[fJ o k]else jB es n (o.take k):=by
 rw[<-CD,qu,gz h]
 rfl
theorem CE:(jB es n o).Sublist o:=by
 have h:∀ r:List Nat,(jB es n r.reverse).Sublist r.reverse:=by
  intro r
  induction r with
  | nil=>exact List.Sublist.refl _
  | cons i r a =>
   rw[List.reverse_cons,CD]
   split
   . exact a.append (List.Sublist.refl _)
   . exact a.trans (uG _ _)
 simpa using h o.reverse
theorem JL{f:List Nat}:gR es n (if mG es n f i then f++[i]else f)=iW (gR es n f) (fJ (gR es n f) (fJ es i).u) (fJ (gR es n f) (fJ es i).v):=by
 split
 . exact CL
 . rename_i h
   have e:fJ (gR es n f) (fJ es i).u=fJ (gR es n f) (fJ es i).v:=Decidable.not_not.1 h
   rw[e,Ka]
structure oM (es:List Ge) (n:Nat) (f:List Nat):Prop where
 of:∃ o,oN es o/\f=jB es n o
theorem oM.uniq{f a:List Nat}(h:oM es n f)(b:oM es n a):f=a := by
 obtain⟨o,c,rfl⟩:=h
 obtain⟨e, d,rfl⟩:=b
 rw[c.uniq d]
theorem oM.lt{f:List Nat}(h:oM es n f)(hi:i∈f):i<es.length:=by
 obtain⟨o,a,rfl⟩:=h
 exact a.lt ((CE o).subset hi)
def sC(m k:Nat):List Nat:=List.range k++List.replicate (m-k) 0
theorem acu{m:Nat}:List.replicate m 0=sC m 0:=by simp[sC]
theorem acq{m:Nat}:sC m m=List.range m:=by simp[sC]
theorem acr{m:Nat}(h:k<=m):(sC m k).length=m:=by simp[sC];omega
theorem acs{m:Nat}(h:k<m):fO (sC m k) k (fun _=>k)=sC m (k+1):=by
 have:=Bx (a:=List.range k) (b:=List.replicate (m-(k+1)) 0) (x:=0) (y:=k) (f:=fun _=>k) rfl
 rw[mQ]at this
 rw[sC,Bl h,this,sC,sP]
 simp
section
variable {r:Option Nat} {P:Program} {ops:Array Oper} {Q:Exit->Act->World->Prop} {n:Nat} {ds:List Deferred} {s:List (Nat×Value)} {rest:List Oper} {w w0:World} {d:Nat} {dd:Option Nat} {T e:TypeId} {ty:TypeId} {pos:String} {af:Array Edge} {g:Option (Nat×Bool)} {x y:Operand} {α:Type} {cf:α->List Value} {ok:Nat->Prop} {ys:List α} {c:α} {sz k off off' se by_ m i:Nat} {z v:Value} {kk:IntKind}
theorem X9(j:ev n s x=lg sz v k off)(l:ev n s y = .int kk (i:Nat))(d:P.underlying T=some (.array m e))(ht:TI P e se by_ z)(q:i<m)(h:off+i*se=off')(a:gY sz cf ok w0 v ys)(f:ys[k]? = some c) :
 (execOp (ev n s) ⟨dd,.indexAddr T x y,ty,pos,af,g⟩).run P w = .ok (.value (lg sz v k off')) w:=by
 obtain⟨b,o,r, p,rfl,_⟩:=a.place f
 subst h
 exact O8 j l d ht ⟨o_,o_⟩ (by simp only[nG,lJ])
theorem vh(j:gI ops n s g=true)(o:ev n s x=lg sz v k off)(p:ev n s y = .int kk (i:Nat))(f:P.underlying T=some (.array m e))(ht:TI P e se by_ z)(a:i<m)(l:off+i*se=off')(b:gY sz cf ok w0 v ys)(h:ys[k]? = some c)(K:WL r P ops Q rest (Fr n ((d,lg sz v k off') :: s) ds) w):WL r P ops Q (⟨some d,.indexAddr T x y,ty,pos,af,g⟩ :: rest) (Fr n s ds) w:=pw j (fun _=>X9 o p f ht a l b h) K
end
structure i7 where
 a:Nat
 b:Nat
instance:Inhabited i7:=⟨⟨0,0⟩⟩
abbrev i7.cells(x:i7):List Value:=[.int .i64 (x.a:Int),.int .i64 (x.b:Int)]
structure Un (n:Nat) (lb:List Nat) (us:List i7):Prop where
 len:us.length=n
 bl:lb.length=n
 le:∀ i,i<n->(fJ us i).a<=i
 wK:∀ i,i<n->fJ lb (fJ us i).a=fJ lb i
 root:∀ i,i<n->(fJ us i).a=i->fJ lb i=i
 low:∀ i,i<n->fJ lb i<=i
 me:∀ i,i<n->fJ lb (fJ lb i)=fJ lb i
structure uQ (n:Nat) (lb:List Nat) (us0:List i7) (a0:Nat) (us:List i7) (i:Nat):Prop where
 un:Un n lb us
 nd:∀ j,(fJ us j).b=(fJ us0 j).b
 lt:i<n
 la:fJ lb i=fJ lb a0
variable{us:List i7}
theorem uQ.start{a:Nat}(h:Un n E us)(b:a<n):uQ n E us a us a:=⟨h,fun _=>rfl,b,rfl⟩
theorem uQ.half{l us2:List i7}(h:uQ n E l a0 us i)(r:(fJ us i).a≠i)(k:us2=fO us i fun x=>{ x with a:=(fJ us (fJ us i).a).a }) :
 uQ n E l a0 us2 (fJ us2 i).a/\(fJ us2 i).a<i:=by
 have hi:=h.lt
 have m:=h.un.len
 have o:=h.un.le i hi
 have hp:(fJ us i).a<n:=by omega
 have p:=h.un.le _ hp
 have f:=h.un.wK i hi
 have g:=h.un.wK _ hp
 have c:∀ j,fJ us2 j=if i=j then { fJ us i with a:=(fJ us (fJ us i).a).a } else fJ us j:=fun j=>by rw[k];exact jG o_
 have e1:(fJ us2 i).a=(fJ us (fJ us i).a).a:=by rw[c,if_pos rfl]
 rw[e1]
 refine⟨⟨⟨by rw[k,gB];exact m,h.un.bl,fun j b=>?_,fun j b=>?_,fun j b d=>?_,h.un.low,h.un.me⟩,fun j=>?_,o_,by rw[g,f];exact h.la⟩,o_⟩
 . rw[c]
   split
   . rename_i e;subst e;show (fJ us (fJ us i).a).a<=i;omega
   . exact h.un.le j b
 . rw[c]
   split
   . rename_i e;subst e;show fJ E (fJ us (fJ us i).a).a=_;rw[g,f]
   . exact h.un.wK j b
 . rw[c]at d
   split at d
   . rename_i e
     subst e
     have q:(fJ us (fJ us i).a).a=i:=d
     omega
   . exact h.un.root j b d
 . rw[c]
   split
   . rename_i e;subst e;exact h.nd i
   . exact h.nd j
theorem uQ.fin{c:List i7}(h:uQ n E c a0 us i)(b:(fJ us i).a=i):i=fJ E a0:=by rw[<-h.la,h.un.root i h.lt b]
theorem Un.join{x y a b c:Nat}{us2:List i7}(h:Un n E us)(A:x<n)(B:y<n)(ex:fJ E x=x)(r:fJ E y=y)(w:x≠y)(l:a=min x y)(hb:b=max x y)
 (m:us2=fO (fO us b fun z=>{ z with a:=a }) a fun z=>{ z with b:=c }):Un n (iW E x y) us2/\∀ j,(fJ us2 j).b=if j=a then c else(fJ us j).b:=by
 have o:=h.len
 have t:a<b:=by omega
 have u:b<n:=by omega
 have v:∀ j,fJ us2 j=if a=j then { fJ us a with b:=c } else if b=j then { fJ us b with a:=a } else fJ us j:=by
  grind [jG,gB]
 have i:∀ j,(fJ us2 j).a=if b=j then a else(fJ us j).a:=by
  grind
 have hm:∀ j,j<n->fJ (iW E x y) j=if fJ E j=b then a else fJ E j:=fun j d=>by rw[nT (by rw[h.bl];exact d),<-l,<-hb]
 have q:fJ E b=b:=by rcases(show b=x\/b=y by omega)with e|e<;>rw[e]<;>assumption
 have p:fJ E a=a:=by rcases(show a=x\/a=y by omega)with e|e<;>rw[e]<;>assumption
 refine⟨⟨by rw[m,gB,gB];exact o,by rw[FQ];exact h.bl,fun j d=>?_,fun j d=>?_,fun j d g=>?_,fun j d=>?_,fun j d=>?_⟩,fun j=>?_⟩
 . rw[i]
   split
   . omega
   . exact h.le j d
 . rw[i,hm j d]
   split
   . grind
   . have f:=h.le j d
     rw[hm _ o_,h.wK j d]
 . rw[i]at g
   split at g
   . omega
   . rename_i e
     rw[hm j d]
     have f:=h.root j d g
     rw[f,if_neg (fun k=>e k.symm)]
 . rw[hm j d]
   have f:=h.low j d
   split<;>omega
 . have f:=h.low j d
   have s:=h.me j d
   rw[hm j d]
   split
   . grind
   . grind
 . grind
structure nK where
 l:List Int
 r:List Int
 p:List Int
 h:List Int
 s:List Nat
 d:List Nat
def nK.init(n m:Nat):nK:=⟨List.replicate m (-1),List.replicate m (-1),List.replicate m (-1),List.replicate m 0,List.replicate n 1++List.replicate (m-n) 0,List.range n⟩
def nK.step(lb:List Nat)(e:Ge)(x:Nat)(t:nK):nK :=
 ⟨fO t.l x (fun _=>((fJ t.d (min (fJ lb e.u) (fJ lb e.v)):Nat):Int)),fO t.r x (fun _=>((fJ t.d (max (fJ lb e.u) (fJ lb e.v)):Nat):Int)),
  fO (fO t.p (fJ t.d (min (fJ lb e.u) (fJ lb e.v))) (fun _=>(x:Int))) (fJ t.d (max (fJ lb e.u) (fJ lb e.v))) (fun _=>(x:Int)),fO t.h x (fun _=>e.w),
  fO t.s x (fun _=>fJ t.s (fJ t.d (min (fJ lb e.u) (fJ lb e.v)))+fJ t.s (fJ t.d (max (fJ lb e.u) (fJ lb e.v)))),fO t.d (min (fJ lb e.u) (fJ lb e.v)) (fun _=>x)⟩
def gL(es:List Ge)(n:Nat)(f:List Nat):Nat->nK
 | 0=>nK.init n (n+f.length)
 | i+1=>nK.step (gR es n (f.take i)) (fJ es (fJ f i)) (n+i) (gL es n f i)
def gd(es:List Ge)(n:Nat)(f:List Nat):nK:=gL es n f f.length
theorem V0{l:List Nat}{a b:Nat}(h:a≠b):l.count a+l.count b<=l.length:=by
 induction l with
 | nil=>simp
 | cons x l c =>
  grind
theorem aaq{x y j:Nat}(h:x≠y):(iW E x y).count j=if j=max x y then 0 else if j=min x y then E.count x+E.count y else E.count j:=by
 unfold iW
 induction E with
 | nil=>simp
 | cons z E a =>
  grind
structure qR (es:List Ge) (n:Nat) (f:List Nat) (i:Nat) (us:List i7):Prop where
 un:Un n (gR es n (f.take i)) us
 dd:∀ j,j<n->(fJ us j).b=fJ (gL es n f i).d j
 nd:∀ j,j<n->fJ (gL es n f i).d j<n+i
 sz:∀ j,j<n->fJ (gR es n (f.take i)) j=j->fJ (gL es n f i).s (fJ (gL es n f i).d j)=(gR es n (f.take i)).count j
theorem Bw{es:List Ge}{n:Nat}{f:List Nat}:∀ i,(gL es n f i).l.length=n+f.length/\(gL es n f i).r.length=n+f.length/\(gL es n f i).p.length=n+f.length/\(gL es n f i).h.length=n+f.length/\(gL es n f i).s.length=n+f.length/\(gL es n f i).d.length=n
 | 0=>by simp[gL,nK.init]
 | i+1=>by
  have h:=Bw (es:=es) (n:=n) (f:=f) i
  simp only[gL,nK.step,gB]
  exact h
theorem VY{j:Nat}(h:j<n):(List.range n).count j=1:=by
 grind
theorem Un.init:Un n (List.range n) ((List.range n).map fun i=>⟨i,i⟩):=by
 have h:∀ i,i<n->fJ ((List.range n).map fun i=>(⟨i,i⟩:i7)) i=⟨i,i⟩:=fun i hi=>iS (by rw[oK,rF hi];rfl)
 exact⟨s_,s_,fun i hi=>by rw[h i hi];exact zm _,fun i hi=>by rw[h i hi],fun i hi _=>lU hi,fun i hi=>by rw[lU hi];exact zm _,fun i hi=>by rw[lU hi,lU hi]⟩
theorem qR.start{f:List Nat}:qR es n f 0 ((List.range n).map fun i=>⟨i,i⟩):=by
 have h:∀ i,i<n->fJ ((List.range n).map fun i=>(⟨i,i⟩:i7)) i=⟨i,i⟩:=fun i hi=>iS (by rw[oK,rF hi];rfl)
 refine⟨Un.init,fun j a=>?_,fun j a=>?_,fun j a _=>?_⟩
 . rw[h j a];exact(lU a).symm
 . show fJ (List.range n) j<n+0
   rw[lU a];omega
 . show fJ (List.replicate n 1++List.replicate (n+f.length-n) 0) (fJ (List.range n) j)=(List.range n).count j
   rw[lU a,VY a]
   exact iS (by rw[DK (by simpa using a),uH,if_pos a])
theorem qR.at{f:List Nat}(h:qR es n f i us)(d:lQ n es)(hi:i<f.length)(c:∀ k∈f,k<es.length)(b:mG es n (f.take i) (fJ f i)) :
 (fJ es (fJ f i)).u<n/\(fJ es (fJ f i)).v<n/\fJ (gR es n (f.take i)) (fJ es (fJ f i)).u<n/\fJ (gR es n (f.take i)) (fJ es (fJ f i)).v<n/\fJ (gR es n (f.take i)) (fJ es (fJ f i)).u≠fJ (gR es n (f.take i)) (fJ es (fJ f i)).v:=by
 have a:=d.at (c _ (ze (gz hi)))
 have e:=h.un.low _ a.1
 have g:=h.un.low _ a.2.1
 exact⟨a.1,a.2.1,o_,o_,b⟩
theorem qR.next{f:List Nat}{us2 p:List i7}(h:qR es n f i us)(G:lQ n es)(hi:i<f.length)(F:∀ k∈f,k<es.length)(D:mG es n (f.take i) (fJ f i))(C:Un n (gR es n (f.take i)) us2)(hb:∀ j,j<n->(fJ us2 j).b=fJ (gL es n f i).d j)
 (E:p=fO (fO us2 (max (fJ (gR es n (f.take i)) (fJ es (fJ f i)).u) (fJ (gR es n (f.take i)) (fJ es (fJ f i)).v)) fun z=>{ z with a:=min (fJ (gR es n (f.take i)) (fJ es (fJ f i)).u) (fJ (gR es n (f.take i)) (fJ es (fJ f i)).v) }) (min (fJ (gR es n (f.take i)) (fJ es (fJ f i)).u) (fJ (gR es n (f.take i)) (fJ es (fJ f i)).v)) fun z=>{ z with b:=n+i }) :
 qR es n f (i+1) p:=by
 obtain⟨t,w,A,B,m⟩:=h.at G hi F D
 have e1:=h.un.me _ t
 have r:=h.un.me _ w
 have o:gR es n (f.take (i+1))=iW (gR es n (f.take i)) (fJ (gR es n (f.take i)) (fJ es (fJ f i)).u) (fJ (gR es n (f.take i)) (fJ es (fJ f i)).v):=by
  rw[qu,gz hi]
  exact CL
 generalize O:fJ (gR es n (f.take i)) (fJ es (fJ f i)).u=x at *
 generalize P:fJ (gR es n (f.take i)) (fJ es (fJ f i)).v=y at *
 obtain⟨L,Q⟩:=Un.join (c:=n+i) C A B e1 r m rfl rfl E
 have N:=Bw (es:=es) (n:=n) (f:=f) i
 have hd:∀ j,fJ (gL es n f (i+1)).d j=if min x y=j then n+i else fJ (gL es n f i).d j:=by
  grind [gL,nK.step,jG]
 have hs:∀ j,fJ (gL es n f (i+1)).s j=if n+i=j then fJ (gL es n f i).s (fJ (gL es n f i).d (min x y))+fJ (gL es n f i).s (fJ (gL es n f i).d (max x y))else fJ (gL es n f i).s j:=by
  grind [gL,nK.step,jG]
 have I:fJ (gR es n (f.take i)) (min x y)=min x y:=by rcases DY x y with q|q<;>simp only[vM,HH,q]<;>assumption
 have H:fJ (gR es n (f.take i)) (max x y)=max x y:=by rcases DY x y with q|q<;>simp only[HA,DN,q]<;>assumption
 refine⟨o▸L,fun j g=>?_,fun j g=>?_,fun j g l=>?_⟩
 . grind
 . rw[hd]
   have:=h.nd j g
   split<;>omega
 . rw[o]at l ⊢
   rw[aaq m,hd]
   rw[nT (by rw[h.un.bl];exact g)]at l
   by_cases e:min x y=j
   . rw[if_pos e,if_neg o_,if_pos e.symm,hs,if_pos rfl,h.sz _ o_ I,h.sz _ o_ H]
     grind
   . rw[if_neg e]
     have J:j≠max x y:=by
      grind
     have K:fJ (gR es n (f.take i)) j=j:=by
      split at l
      . rename_i M;omega
      . exact l
     rw[if_neg J,if_neg (fun q=>e q.symm),hs,if_neg (by have:=h.nd j g;omega)]
     exact h.sz j g K
theorem Xn:∀ i,i<(jB es n o).length->mG es n ((jB es n o).take i) (fJ (jB es n o) i):=by
 have h:∀ r:List Nat,∀ i,i<(jB es n r.reverse).length->mG es n ((jB es n r.reverse).take i) (fJ (jB es n r.reverse) i):=by
  intro r
  induction r with
  | nil=>intro i hi;simp[jB]at hi
  | cons k r a =>
   grind [CD,jB,fJ,iS]
 simpa using h o.reverse
theorem oM.mG{f:List Nat}(h:oM es n f)(hi:i<f.length):mG es n (f.take i) (fJ f i):=by
 obtain⟨o,_,rfl⟩:=h
 exact Xn o i hi
theorem qR.two{f:List Nat}(h:qR es n f i us)(r:lQ n es)(hi:i<f.length)(p:∀ k∈f,k<es.length)(o:mG es n (f.take i) (fJ f i)){x y:Nat}(t:fJ (gR es n (f.take i)) (fJ es (fJ f i)).u=x)(w:fJ (gR es n (f.take i)) (fJ es (fJ f i)).v=y) :
 fJ (gL es n f i).d (min x y)<n+i/\fJ (gL es n f i).d (max x y)<n+i/\fJ (gL es n f i).s (fJ (gL es n f i).d (min x y))+fJ (gL es n f i).s (fJ (gL es n f i).d (max x y))<=n:=by
 obtain⟨j,m,a,b,g⟩:=h.at r hi p o
 have e1:=h.un.me _ j
 have e:=h.un.me _ m
 rw[t]at a g e1
 rw[w]at b g e
 have c:=V0 (l:=gR es n (f.take i)) g
 rw[FA]at c
 rcases DY x y with q|q
 . rw[vM q,DN q,h.sz x a e1,h.sz y b e]
   exact⟨h.nd x a,h.nd y b,c⟩
 . rw[HH q,HA q,h.sz x a e1,h.sz y b e]
   exact⟨h.nd y b,h.nd x a,o_⟩
def nW{α:Type}(x y:α)(m k:Nat):List α:=List.replicate k x++List.replicate (m-k) y
theorem Gh{α:Type}{x y:α}{m:Nat}:List.replicate m y=nW x y m 0:=by simp[nW]
theorem KN{α:Type}{x y:α}{m:Nat}:nW x y m m=List.replicate m x:=by simp[nW]
theorem Rx{α:Type}{x y:α}{m:Nat}(h:k<=m):(nW x y m k).length=m:=by simp[nW];omega
theorem Gg{α:Type}[Inhabited α]{x y:α}{m k:Nat}(h:k<m):fO (nW x y m k) k (fun _=>x)=nW x y m (k+1):=by
 have:=Bx (a:=List.replicate k x) (b:=List.replicate (m-(k+1)) y) (x:=y) (y:=x) (f:=fun _=>x) rfl
 rw[qL]at this
 rw[nW,Bl h,this,nW,List.replicate_succ']
 simp
def sH(n k:Nat):List i7:=((List.range k).map fun i=>⟨i,i⟩)++List.replicate (n-k) ⟨0,0⟩
theorem afi:List.replicate n (⟨0,0⟩:i7)=sH n 0:=by simp[sH]
theorem aff:sH n n=(List.range n).map fun i=>⟨i,i⟩:=by simp[sH]
theorem afg(h:k<=n):(sH n k).length=n:=by simp[sH];omega
theorem afh(h:k<n):fO (sH n k) k (fun _=>⟨k,k⟩)=sH n (k+1):=by
 have:=Bx (a:=(List.range k).map fun i=>(⟨i,i⟩:i7)) (b:=List.replicate (n-(k+1)) ⟨0,0⟩) (x:=⟨0,0⟩) (y:=⟨k,k⟩) (f:=fun _=>⟨k,k⟩) rfl
 rw[zu,mQ]at this
 rw[sH,Bl h,this,sH,sP]
 simp
theorem oM.len{f:List Nat}(h:oM es n f):f.length<=es.length:=by
 obtain⟨o,a,rfl⟩:=h
 have:=(CE (es:=es) (n:=n) o).length_le
 rw[a.len]at this
 exact this
section
variable (es:List Ge) (n:Nat) (f:List Nat)
def nA(i:Nat):Nat:=min (fJ (gR es n (f.take i)) (fJ es (fJ f i)).u) (fJ (gR es n (f.take i)) (fJ es (fJ f i)).v)
def nB(i:Nat):Nat:=max (fJ (gR es n (f.take i)) (fJ es (fJ f i)).u) (fJ (gR es n (f.take i)) (fJ es (fJ f i)).v)
def nL(i:Nat):Nat:=fJ (gL es n f i).d (nA es n f i)
def nR(i:Nat):Nat:=fJ (gL es n f i).d (nB es n f i)
def gW(y:Nat):Nat:=if y<n then y else nA es n f (y-n)
end
structure iE (es:List Ge) (n:Nat) (f:List Nat):Prop where
 g:lQ n es
 f:oM es n f
theorem iE.LI{es:List Ge}{n:Nat}{f:List Nat}(h:iE es n f):∀ i,i<=f.length->∃ us,qR es n f i us
 | 0,_=>⟨_,qR.start⟩
 | i+1,hi=>by
  obtain⟨us,a⟩:=h.LI i o_
  exact⟨_,a.next h.g o_ (fun k b=>h.f.lt b) (h.f.mG o_) a.un a.dd rfl⟩
theorem iE.st{f:List Nat}(h:iE es n f)(hi:i<f.length) :
 nA es n f i<nB es n f i/\nB es n f i<n/\fJ (gR es n (f.take i)) (nA es n f i)=nA es n f i/\fJ (gR es n (f.take i)) (nB es n f i)=nB es n f i/\nL es n f i<n+i/\nR es n f i<n+i/\gR es n (f.take (i+1))=iW (gR es n (f.take i)) (nA es n f i) (nB es n f i):=by
 obtain⟨us,a⟩:=h.LI i o_
 have c:=h.f.mG hi
 obtain⟨b1,b2,b3,j,l⟩:=a.at h.g hi (fun k b=>h.f.lt b) c
 obtain⟨d,e,_⟩:=a.two h.g hi (fun k b=>h.f.lt b) c rfl rfl
 have e1:=a.un.me _ b1
 have m:=a.un.me _ b2
 have o:gR es n (f.take (i+1))=iW (gR es n (f.take i)) (fJ (gR es n (f.take i)) (fJ es (fJ f i)).u) (fJ (gR es n (f.take i)) (fJ es (fJ f i)).v):=by
  rw[qu,gz hi]
  exact CL
 unfold nL nR nA nB
 refine⟨o_,o_,?_,?_,d,e,?_⟩
 . grind
 . grind
 . grind [fJ,gR,J9]
structure vP (es:List Ge) (n:Nat) (f:List Nat) (i:Nat):Prop where
 a:∀ x,x<n->fJ (gL es n f i).l x = -1/\fJ (gL es n f i).r x = -1/\fJ (gL es n f i).h x=0/\fJ (gL es n f i).s x=1
 b:∀ j,j<i->fJ (gL es n f i).l (n+j)=(nL es n f j:Int)/\fJ (gL es n f i).r (n+j)=(nR es n f j:Int)/\fJ (gL es n f i).h (n+j)=(fJ es (fJ f j)).w /\
  fJ (gL es n f i).s (n+j)=fJ (gL es n f i).s (nL es n f j)+fJ (gL es n f i).s (nR es n f j)/\fJ (gL es n f i).p (nL es n f j)=((n+j:Nat):Int)/\fJ (gL es n f i).p (nR es n f j)=((n+j:Nat):Int)
 c:∀ y,y<n+f.length->fJ (gL es n f i).p y = -1\/∃ j,j<i/\fJ (gL es n f i).p y=((n+j:Nat):Int)/\(y=nL es n f j\/y=nR es n f j)
 e:∀ y,y<n+f.length->fJ (gL es n f i).s y<=n
 d:∀ l,l<n->fJ (gR es n (f.take i)) l=l->fJ (gL es n f i).p (fJ (gL es n f i).d l) = -1/\gW es n f (fJ (gL es n f i).d l)=l
theorem vP.start{f:List Nat}:vP es n f 0:=by
 refine⟨fun x d=>?_,fun j c=>by omega,fun y b=>.inl ?_,fun y b=>?_,fun l a _=>?_⟩
 . show fJ (List.replicate (n+f.length) (-1)) x = -1/\fJ (List.replicate (n+f.length) (-1)) x = -1/\fJ (List.replicate (n+f.length) 0) x=0/\fJ (List.replicate n 1++List.replicate (n+f.length-n) 0) x=1
   refine⟨Bc o_,Bc o_,Bc o_,iS ?_⟩
   grind
 . exact Bc b
 . show fJ (List.replicate n 1++List.replicate (n+f.length-n) 0) y<=n
   by_cases h1:y<n
   . rw[iS (x:=1) (by rw[DK (by simpa using h1),uH,if_pos h1])];omega
   . rw[iS (x:=0) (by rw[Hv (by simp;omega),uH,if_pos (by simp;omega)])];omega
 . show fJ (List.replicate (n+f.length) (-1)) (fJ (List.range n) l) = -1/\gW es n f (fJ (List.range n) l)=l
   rw[lU a]
   exact⟨Bc o_,if_pos a⟩
theorem vP.next{f:List Nat}(h:iE es n f)(hi:i<f.length)(v:vP es n f i):vP es n f (i+1):=by
 obtain⟨s1,s2,s3,J,s5,s6,s7⟩:=h.st hi
 obtain⟨l1,l2,l3,l4,l5,l6⟩:=Bw (es:=es) (n:=n) (f:=f) i
 obtain⟨N,E⟩:=v.d _ o_ s3
 obtain⟨O,F⟩:=v.d _ s2 J
 have W:nL es n f i≠nR es n f i:=fun e=>by
  have e1:gW es n f (nL es n f i)=nA es n f i:=E
  have m:gW es n f (nR es n f i)=nB es n f i:=F
  rw[e,m]at e1
  omega
 have C:∀ y,fJ (gL es n f (i+1)).l y=if n+i=y then(nL es n f i:Int)else fJ (gL es n f i).l y:=by
  intro y
  have e1:(gL es n f (i+1)).l=fO (gL es n f i).l (n+i) (fun _=>(nL es n f i:Int)):=rfl
  rw[e1,jG o_]
 have D:∀ y,fJ (gL es n f (i+1)).r y=if n+i=y then(nR es n f i:Int)else fJ (gL es n f i).r y:=by
  intro y
  have e1:(gL es n f (i+1)).r=fO (gL es n f i).r (n+i) (fun _=>(nR es n f i:Int)):=rfl
  rw[e1,jG o_]
 have th:∀ y,fJ (gL es n f (i+1)).h y=if n+i=y then(fJ es (fJ f i)).w else fJ (gL es n f i).h y:=by
  intro y
  have e1:(gL es n f (i+1)).h=fO (gL es n f i).h (n+i) (fun _=>(fJ es (fJ f i)).w):=rfl
  rw[e1,jG o_]
 have t:∀ y,fJ (gL es n f (i+1)).s y=if n+i=y then fJ (gL es n f i).s (nL es n f i)+fJ (gL es n f i).s (nR es n f i)else fJ (gL es n f i).s y:=by
  intro y
  have e1:(gL es n f (i+1)).s=fO (gL es n f i).s (n+i) (fun _=>fJ (gL es n f i).s (nL es n f i)+fJ (gL es n f i).s (nR es n f i)):=rfl
  rw[e1,jG o_]
 have td:∀ y,fJ (gL es n f (i+1)).d y=if nA es n f i=y then n+i else fJ (gL es n f i).d y:=by
  intro y
  have e1:(gL es n f (i+1)).d=fO (gL es n f i).d (nA es n f i) (fun _=>n+i):=rfl
  rw[e1,jG o_]
 have A:∀ y,fJ (gL es n f (i+1)).p y=if nR es n f i=y then((n+i:Nat):Int)else if nL es n f i=y then((n+i:Nat):Int)else fJ (gL es n f i).p y:=by
  intro y
  have e1:(gL es n f (i+1)).p=fO (fO (gL es n f i).p (nL es n f i) fun _=>((n+i:Nat):Int)) (nR es n f i) fun _=>((n+i:Nat):Int):=rfl
  rw[e1,jG (by rw[gB];omega),jG o_]
 refine⟨fun x X=>?_,fun j hj=>?_,fun y q=>?_,fun y q=>?_,fun l I z=>?_⟩
 . rw[C,D,th,t,if_neg o_,if_neg o_,if_neg o_,if_neg o_]
   exact v.a x X
 . by_cases e:j=i
   . subst e
     refine⟨by rw[C,if_pos rfl],by rw[D,if_pos rfl],by rw[th,if_pos rfl],?_,?_,by rw[A,if_pos rfl]⟩
     . rw[t,t,t,if_pos rfl,if_neg o_,if_neg o_]
     . rw[A,if_neg (fun e=>W e.symm),if_pos rfl]
   . have Q : j<i:=by omega
     obtain⟨b1,b2,b3,K,L,M⟩:=v.b j Q
     obtain⟨_,_,_,_,Y,Z,_⟩:=h.st (show j<f.length by omega)
     have k1:∀ y,fJ (gL es n f i).p y=((n+j:Nat):Int)->fJ (gL es n f (i+1)).p y=((n+j:Nat):Int):=by
      intro y q
      rw[A,if_neg,if_neg,q]
      . intro m;rw[<-m]at q;have o:fJ (gL es n f i).p (nL es n f i) = -1:=N;rw[o]at q;omega
      . intro m;rw[<-m]at q;have o:fJ (gL es n f i).p (nR es n f i) = -1:=O;rw[o]at q;omega
     rw[C,D,th,t,t,t,if_neg o_,if_neg o_,if_neg o_,if_neg o_,if_neg o_,if_neg o_]
     exact⟨b1,b2,b3,K,k1 _ L,k1 _ M⟩
 . rw[A]
   by_cases e1:nR es n f i=y
   . exact .inr ⟨i,o_,by rw[if_pos e1],.inr e1.symm⟩
   . rw[if_neg e1]
     by_cases m:nL es n f i=y
     . exact .inr ⟨i,o_,by rw[if_pos m],.inl m.symm⟩
     . rw[if_neg m]
       rcases v.c y q with u|⟨j,u,G,H⟩
       . exact .inl u
       . exact .inr ⟨j,o_,G,H⟩
 . rw[t]
   split
   . obtain⟨us,u⟩:=h.LI i o_
     exact(u.two h.g hi (fun k R=>h.f.lt R) (h.f.mG hi) rfl rfl).2.2
   . exact v.e y q
 . rw[s7,nT (by rw[FA];exact I)]at z
   have V:max (nA es n f i) (nB es n f i)=nB es n f i:=by omega
   have U:min (nA es n f i) (nB es n f i)=nA es n f i:=by omega
   rw[V,U]at z
   rw[td]
   by_cases e:nA es n f i=l
   . rw[if_pos e]
     refine⟨?_,?_⟩
     . rw[A,if_neg o_,if_neg o_]
       rcases v.c (n+i) o_ with u|⟨j,u,G,H⟩
       . exact u
       . obtain⟨_,_,_,_,Y,Z,_⟩:=h.st (show j<f.length by omega)
         omega
     . unfold gW
       rw[if_neg o_,show n+i-n=i by omega]
       exact e
   . rw[if_neg e]
     have S:fJ (gR es n (f.take i)) l=l:=by
      split at z
      . exact absurd z e
      . exact z
     have T:l≠nB es n f i:=by
      intro o
      rw[if_pos (by rw[o];exact J)]at z
      exact e z
     obtain⟨P,g2⟩:=v.d l I S
     refine⟨?_,g2⟩
     rw[A,if_neg,if_neg,P]
     . intro o
       rw[<-o]at g2
       have B:gW es n f (nL es n f i)=nA es n f i:=E
       exact e (B.symm.trans g2)
     . intro o
       rw[<-o]at g2
       have B:gW es n f (nR es n f i)=nB es n f i:=F
       exact T (g2.symm.trans B)
theorem iE.vK{es:List Ge}{n:Nat}{f:List Nat}(h:iE es n f):∀ i,i<=f.length->vP es n f i
 | 0,_=>vP.start
 | i+1,hi=>(h.vK i o_).next h o_
theorem iE.v{f:List Nat}(h:iE es n f):vP es n f f.length:=h.vK _ (zm _)
theorem iE.wB{f:List Nat}(h:iE es n f)(hi:i<f.length):gW es n f (nL es n f i)=nA es n f i/\gW es n f (nR es n f i)=nB es n f i/\gW es n f (n+i)=nA es n f i:=by
 obtain⟨s1,s2,s3,a,b,c,e⟩:=h.st hi
 have v:=h.vK i o_
 refine⟨(v.d _ o_ s3).2,(v.d _ s2 a).2,?_⟩
 grind [gW]
theorem oM.kF{f:List Nat}(h:oM es n f)(hi:i+1<f.length):(fJ es (fJ f i)).w<=(fJ es (fJ f (i+1))).w:=by
 obtain⟨o,a,rfl⟩:=h
 have b:=a.Gx.sublist (CE (es:=es) (n:=n) o)
 have c:=(vE.1 b) i (i+1) o_ hi o_
 rw[iS (z8 (show i<(jB es n o).length by omega)),iS (z8 hi)]
 unfold qZ at c
 omega
theorem YK{L:List Nat}{p q:Nat->Bool}(x:Nat)(a:x∈L)(hp:p x=true)(c:q x=false)(h:∀ l∈L,q l=true->p l=true):(L.filter q).length<(L.filter p).length:=by
 induction L with
 | nil=>cases a
 | cons y L d =>
  have b:∀ M:List Nat,(∀ l∈M,q l=true->p l=true)->(M.filter q).length<=(M.filter p).length:=by
   intro M
   induction M with
   | nil=>intro _;exact zm _
   | cons z M e =>
    grind
  grind
theorem oM.room{f:List Nat}(h:oM es n f)(b:lQ n es):f.length<=n:=by
 have a:iE es n f:=⟨b,h⟩
 -- each step makes one label less
 have key:∀ i,i<=f.length->i+((List.range n).filter fun l=>decide (fJ (gR es n (f.take i)) l=l)).length<=n:=by
  intro i
  induction i with
  | zero=>intro _;have:=zW (fun l=>decide (fJ (gR es n (f.take 0)) l=l)) (List.range n);rw[mQ]at this;omega
  | succ i c =>
   intro hi
   have e:=c o_
   obtain⟨s1,s2,s3,d,p,q,r⟩:=a.st (show i<f.length by omega)
   have o:max (nA es n f i) (nB es n f i)=nB es n f i:=by omega
   have m:min (nA es n f i) (nB es n f i)=nA es n f i:=by omega
   have g:((List.range n).filter fun l=>decide (fJ (gR es n (f.take (i+1))) l=l)).length<((List.range n).filter fun l=>decide (fJ (gR es n (f.take i)) l=l)).length:=by
    refine YK (nB es n f i) (l8.2 s2) (by simpa using d) ?_ fun l k j=>?_
    . grind [nT,FA]
    . grind [nT,FA]
   omega
 have:=key f.length (zm _)
 omega
theorem iE.inner{f:List Nat}(h:iE es n f)(hi:i<f.length) :
 (gd es n f).l[n+i]? = some (nL es n f i:Int)/\(gd es n f).r[n+i]? = some (nR es n f i:Int)/\(gd es n f).h[n+i]? = some (fJ es (fJ f i)).w/\(gd es n f).p[nL es n f i]? = some ((n+i:Nat):Int)/\(gd es n f).p[nR es n f i]? = some ((n+i:Nat):Int) /\
 fJ (gd es n f).s (n+i)=fJ (gd es n f).s (nL es n f i)+fJ (gd es n f).s (nR es n f i)/\fJ (gd es n f).s (n+i)<=n/\nL es n f i<n+i/\nR es n f i<n+i/\nL es n f i≠nR es n f i:=by
 obtain⟨l1,o,q,t,u,x⟩:=Bw (es:=es) (n:=n) (f:=f) f.length
 obtain⟨b1,b2,b3,a,c,d⟩:=h.v.b i hi
 obtain⟨s1,s2,s3,y,j,k,z⟩:=h.st hi
 obtain⟨k1,g,m⟩:=h.wB hi
 refine⟨?_,?_,?_,?_,?_,a,h.v.e _ o_,j,k,fun e=>?_⟩
 . rw[<-b1];exact gz (by show n+i<(gL es n f f.length).l.length;omega)
 . rw[<-b2];exact gz (by show n+i<(gL es n f f.length).r.length;omega)
 . rw[<-b3];exact gz (by show n+i<(gL es n f f.length).h.length;omega)
 . rw[<-c];exact gz (by show nL es n f i<(gL es n f f.length).p.length;omega)
 . rw[<-d];exact gz (by show nR es n f i<(gL es n f f.length).p.length;omega)
 . rw[e,g]at k1;omega
theorem nY{f:List Nat}:(gd es n f).l.length=n+f.length/\(gd es n f).r.length=n+f.length/\(gd es n f).p.length=n+f.length/\(gd es n f).h.length=n+f.length/\(gd es n f).s.length=n+f.length:=by
 obtain⟨l1,a,b,c,d,e⟩:=Bw (es:=es) (n:=n) (f:=f) f.length
 exact⟨l1,a,b,c,d⟩
theorem iE.par{f:List Nat}(h:iE es n f){y:Nat}(b:y<n+f.length):(gd es n f).p[y]? = some (-1)\/∃ j,j<f.length/\(gd es n f).p[y]? = some ((n+j:Nat):Int)/\(y=nL es n f j\/y=nR es n f j):=by
 have g:=(nY (es:=es) (n:=n) (f:=f)).2.2.1
 rcases h.v.c y b with a|⟨j,a,d,e⟩
 . grind [gz,gd]
 . grind [gz,gd]
def OG(v:Value):List Value:=[v]
def nS(es:List Ge)(n:Nat)(f:List Nat)(m k:Nat):List Nat:=(List.range k).map (gW es n f)++List.replicate (m-k) 0
theorem YH{m:Nat}{f:List Nat}:List.replicate m 0=nS es n f m 0:=by simp[nS]
theorem YE{m:Nat}{f:List Nat}:nS es n f m m=(List.range m).map (gW es n f):=by simp[nS]
theorem YF{m:Nat}{f:List Nat}(h:k<=m):(nS es n f m k).length=m:=by simp[nS];omega
theorem PD{m j c:Nat}{f:List Nat}(hk:k<=m)(h:j<k):(fO (nS es n f m k) k fun _=>c)[j]? = some (gW es n f j):=by
 grind [fO,nS]
theorem PE{m c:Nat}{f:List Nat}(h:k<m)(hc:c=gW es n f k):fO (nS es n f m k) k (fun _=>c)=nS es n f m (k+1):=by
 have:=Bx (a:=(List.range k).map (gW es n f)) (b:=List.replicate (m-(k+1)) 0) (x:=0) (y:=c) (f:=fun _=>c) rfl
 rw[zu,mQ]at this
 rw[nS,Bl h,this,nS,sP,hc]
 simp
theorem YG{m c d:Nat}{f:List Nat}(h:k<m)(hc:c=gW es n f k):fO (fO (nS es n f m k) k (fun _=>d)) k (fun _=>c)=nS es n f m (k+1):=by
 rw[<-PE h hc]
 unfold fO
 rw[List.set_set]
theorem St.x8{L:List fT}{w w0:World}{b:Nat}{T:TypeId}{cs:List Value}(h:St bs L w)(hb:(w0,[])∈bs)(a:(blk b T cs).holds w0):(blk b T cs).holds w :=
 (blk b T cs).loc w0 w (fun c d => h.keep hb (by
  have e:c = b:=by simpa[blk]using d
  subst e
  exact(rG.1 a).1) nr) a
structure Mg where
 a:Nat
 b:Nat
 h:Int
 s:Nat
instance:Inhabited Mg:=⟨⟨0,0,0,0⟩⟩
abbrev Mg.cells(x:Mg):List Value:=[.int .i64 (x.a:Int),.int .i64 (x.b:Int),.int .i64 x.h,.int .i64 1,.int .i64 (x.s:Int)]
def J6(es:List Ge)(n:Nat)(f:List Nat)(i:Nat):Mg:=⟨nA es n f i,nB es n f i,(fJ es (fJ f i)).w,fJ (gd es n f).s (n+i)⟩
def oB(es:List Ge)(n:Nat)(f:List Nat)(k:Nat):List Mg:=(List.range k).map (J6 es n f)
theorem aac{f:List Nat}:oB es n f (k+1)=oB es n f k++[J6 es n f k]:=by unfold oB;rw[sP,nt];rfl
theorem P8{f:List Nat}:(oB es n f k).length=k:=by simp[oB]
theorem PF{m j:Nat}{f:List Nat}(h:j<m):((List.range m).map (gW es n f))[j]? = some (gW es n f j):=by rw[oK,rF h];rfl
structure ko (ps:List Int):Prop where
 up:∀ i,i<ps.length->fJ ps i<0\/(i:Int)<fJ ps i/\fJ ps i<(ps.length:Int)
def gj(ps:List Int)(i:Nat):Nat:=if h:(i:Int)<fJ ps i/\i<ps.length then gj ps (fJ ps i).toNat+1 else 0
termination_by ps.length-i
decreasing_by omega
def jL(ps:List Int)(k i:Nat):List Nat:=(List.range k).filter fun j=>decide (fJ ps j=(i:Int))
def oF(ps:List Int)(k:Nat):List Nat:=(List.range k).filter fun j=>decide (fJ ps j<0)
section
variable {ps:List Int} {k i j:Nat}
theorem acD(h:fJ ps k<0):oF ps (k+1)=oF ps k++[k]:=by simp[oF,sP,zT,h]
theorem acC(h:¬ fJ ps k<0):oF ps (k+1)=oF ps k:=by simp[oF,sP,zT,h]
theorem Pn:jL ps (k+1) i=if fJ ps k=(i:Int)then jL ps k i++[k]else jL ps k i:=by
 unfold jL
 rw[sP,zT]
 split<;>rename_i h<;>simp[h]
theorem Yo(h:fJ ps k<0):jL ps (k+1) i=jL ps k i:=by rw[Pn,if_neg o_]
theorem P7:j∈jL ps k i↔j<k/\fJ ps j=(i:Int):=by simp[jL]
theorem FL:j∈oF ps k↔j<k/\fJ ps j<0:=by simp[oF]
theorem Yn:(jL ps k i).Nodup:=rI.sublist oI
theorem acA:(oF ps k).Nodup:=rI.sublist oI
theorem acz:(oF ps k).length<=k:=mF (zW _ _) s_
theorem Pk:(jL ps k i).length<=k:=mF (zW _ _) s_
theorem E7(h:fJ ps i<0):gj ps i=0:=by rw[gj,dif_neg o_]
theorem AN(hp:ko ps)(a:j<ps.length)(h:fJ ps j=(i:Int)):gj ps j=gj ps i+1:=by
 have b:=hp.up j a
 rw[gj,dif_pos o_,h]
 rfl
theorem I2:gj ps i<=ps.length-i:=by
 induction hm:ps.length-i using Nat.strongRecOn generalizing i with
 | _ m a =>
  grind [gj,fJ]
end
structure Bf (ps:List Int) (i j:Nat) (od:List Nat) (dp:List Nat):Prop where
 nd:od.Nodup
 lt:∀ x∈od,x<ps.length
 len:dp.length=ps.length
 mem:∀ x,x<ps.length->(x∈od↔fJ ps x<0\/(∃ p∈od.take i,fJ ps x=(p:Int))\/i<od.length/\x∈(jL ps ps.length (fJ od i)).take j)
 dep:∀ x∈od,fJ dp x=gj ps x
 Jt:i<=od.length
 zero:∀ x,x<ps.length->x∉od->fJ dp x=0
section
variable {ps:List Int} {i j:Nat} {od dp:List Nat}
theorem Bf.Kn(h:Bf ps i j od dp):od.length<=ps.length:=Be _ _ h.nd h.lt
theorem Bf.start:Bf ps 0 0 (oF ps ps.length) (List.replicate ps.length 0) where
 nd:=acA
 lt x hx:=(FL.1 hx).1
 len:=by simp
 mem x hx:=by simp[FL,hx]
 dep x hx:=by
  rw[E7 (FL.1 hx).2]
  exact iS (by simp[(FL.1 hx).1])
 Jt:=by simp
 zero x hx _:=iS (by simp[hx])
theorem Bf.new(h:Bf ps i j od dp)(hi:i<od.length){c:Nat}(hc:(jL ps ps.length (fJ od i))[j]? = some c):c<ps.length/\fJ ps c=((fJ od i:Nat):Int)/\c∉od:=by
 obtain⟨d,f⟩:=P7.1 (ze hc)
 refine⟨d,f,fun hm=>?_⟩
 rcases(h.mem c d).1 hm with b|⟨p,hp,b⟩|⟨_,b⟩
 . omega
 . have k:p=fJ od i:=by omega
   subst k
   have e:=h.nd
   rw[<-zY i od]at e
   have g:fJ od i∈od.drop i:=ze (i:=0) (by rw[HC,tM];exact gz hi)
   exact(zr.1 e).2.2 _ hp _ g rfl
 . obtain⟨q,a⟩:=List.mem_iff_getElem?.1 b
   rw[vJ]at a
   split at a
   . rename_i m
     obtain⟨l,n⟩:=zt.1 a
     have:=(List.getElem?_inj l Yn).1 (a.trans hc.symm)
     omega
   . cases a
theorem Bf.wB(hp:ko ps)(h:Bf ps i j od dp)(hi:i<od.length){c:Nat}(hc:(jL ps ps.length (fJ od i))[j]? = some c) :
 Bf ps i (j+1) (od++[c]) (fO dp c (fun _=>fJ dp (fJ od i)+1)):=by
 obtain⟨d,f,g⟩:=h.new hi hc
 have k:fJ (od++[c]) i=fJ od i:=iS (by rw[DK hi];exact gz hi)
 refine⟨?_,?_,by rw[gB];exact h.len,?_,?_,by rw[zo];have:=h.Jt;omega,?_⟩
 . refine zr.2 ⟨h.nd,s_,?_⟩
   grind
 . intro x b
   rcases zn.1 b with a|a
   . exact h.lt x a
   . grind
 . intro x b
   rw[k,L5 o_,qu,hc]
   simp only[zn,k7,Option.toList_some,zo,zX]
   rw[h.mem x b]
   constructor
   . grind
   . grind
 . intro x b
   rcases zn.1 b with a|a
   . have m:c≠x:=fun e=>g (e▸a)
     rw[kD m]
     exact h.dep x a
   . simp only[k7]at a
     subst a
     rw[jS (by rw[h.len];exact d),AN hp d f,h.dep _ (ze (gz hi))]
 . intro x b l
   have a:x∉od/\x≠c:=by simpa using l
   rw[kD (Ne.symm a.2)]
   exact h.zero x b a.1
theorem Bf.next(h:Bf ps i j od dp)(hi:i<od.length)(a:(jL ps ps.length (fJ od i)).length<=j):Bf ps (i+1) 0 od dp:=by
 refine⟨h.nd,h.lt,h.len,fun x b=>?_,h.dep,hi,h.zero⟩
 rw[h.mem x b,vF a,qu,gz hi]
 grind [P7]
theorem Bf.all(hp:ko ps)(h:Bf ps od.length 0 od dp):∀ x,x<ps.length->x∈od:=by
 intro x
 induction hm:ps.length-x using Nat.strongRecOn generalizing x with
 | _ m d =>
  intro b
  rw[h.mem x b]
  rcases hp.up x b with a|⟨a,c⟩
  . exact .inl a
  . refine .inr (.inl ⟨(fJ ps x).toNat,?_,o_⟩)
    grind
theorem Bf.fin(hp:ko ps)(h:Bf ps od.length 0 od dp):od.length=ps.length/\dp=(List.range ps.length).map (gj ps):=by
 refine⟨Nat.le_antisymm h.Kn ?_,?_⟩
 . have b:=C3 (List.range ps.length) od rI fun x a=>h.all hp x (l8.1 a)
   simpa using b
 . apply oc
   intro x
   by_cases a:x<ps.length
   . rw[gz (by rw[h.len];exact a),h.dep x (h.all hp x a)]
     simp[a]
   . rw[rH (by rw[h.len];omega),rH (by simp;omega)]
end
def oV(f:Nat->Int)(n k:Nat):List Int:=(List.range k).map f++List.replicate (n-k) 0
section
variable {f:Nat->Int} {n k j:Nat}
theorem Xc(h:k<=n):(oV f n k).length=n:=by simp[oV];omega
theorem Xe:oV f n 0=List.replicate n 0:=by simp[oV]
theorem Xb:oV f n n=(List.range n).map f:=by simp[oV]
theorem Xd(h:k<n):fO (oV f n k) k (fun _=>f k)=oV f n (k+1):=by
 unfold oV fO
 rw[List.set_append_right _ _ s_,sP,nt,z7]
 simp only[zu,mQ,Nat.sub_self,l9,BX]
 obtain⟨m,hm⟩:∃ m,n-k=m+1:=⟨n-k-1,o_⟩
 grind
theorem ZR{α:Type}[Inhabited α]{g:Nat->α}(h:j<n):fJ ((List.range n).map g) j=g j:=iS (by simp[h])
end
def kI(ps:List Int):Nat->Nat->Int
 | 0,v=>fJ ps v
 | k+1,v=>if 0<=kI ps k v then kI ps k (kI ps k v).toNat else kI ps k v
def jy(ps:List Int)(k:Nat):List Int:=(List.range ps.length).map (kI ps k)
section
variable {ps:List Int} {k v:Nat}
theorem JD(hp:ko ps)(hv:v<ps.length):kI ps k v<0\/(v:Int)<kI ps k v/\kI ps k v<(ps.length:Int):=by
 induction k generalizing v with
 | zero=>exact hp.up v hv
 | succ k a =>
  grind [kI]
theorem Fx(h:0<=kI ps k v):kI ps (k+1) v=kI ps k (kI ps k v).toNat:=by
 grind [kI]
theorem JE(h:¬ 0<=kI ps k v):kI ps (k+1) v=kI ps k v:=by
 grind [kI]
theorem AZ:(jy ps k).length=ps.length:=by simp[jy]
theorem vi(h:v<ps.length):fJ (jy ps k) v=kI ps k v:=ZR h
theorem Yg:jy ps 0=ps:=by
 apply oc
 intro j
 by_cases hj:j<ps.length
 . rw[gz hj,gz (by rw[AZ];exact hj),vi hj]
   rfl
 . grind [AZ]
theorem Yi(hp:ko ps)(hv:v<ps.length)(h:0<=fJ (jy ps k) v):fJ (jy ps k) (fJ (jy ps k) v).toNat=kI ps (k+1) v:=by
 rw[vi hv]at h ⊢
 rw[Fx h,vi]
 have:=JD hp hv (k:=k)
 omega
theorem Yh(hv:v<ps.length)(h:¬ 0<=fJ (jy ps k) v):fJ (jy ps k) v=kI ps (k+1) v:=by
 rw[vi hv]at h ⊢
 rw[JE h]
theorem Jc{f:Nat->Int}(h:v<n)(a:x=f v):fO (oV f n v) v (fun _=>x)=oV f n (v+1):=by
 rw[a];exact Xd h
end
section
variable {ps:List Int} {l:List (Value×List Int)} {k q n:Nat} {v:Value}
theorem WV{α:Type}[Inhabited α]{l:List α}(h:q<k):fJ (l.eraseIdx k) q=fJ l q:=by
 grind [fJ]
theorem Yf(a:l.length=n)(hk:k<n)(h:∀ q,q<k->(fJ l q).2=jy ps q):∀ q,q<k+1->(fJ (fO l k (fun _=>(v,jy ps k))) q).2=jy ps q:=by
 grind [jG]
end
def jP(ps hs:List Int)(T:Int)(x:Nat):Nat:=if h:((x:Int)<fJ ps x/\x<ps.length)/\fJ hs (fJ ps x).toNat<=T then jP ps hs T (fJ ps x).toNat else x
termination_by ps.length-x
decreasing_by omega
section
variable {ps hs:List Int} {T:Int} {x:Nat}
theorem IQ(hp:ko ps)(a:x<ps.length)(h:0<=fJ ps x)(b:fJ hs (fJ ps x).toNat<=T):jP ps hs T x=jP ps hs T (fJ ps x).toNat:=by
 have:=hp.up x a
 rw[jP,dif_pos ⟨⟨o_,a⟩,b⟩]
theorem IP(h:¬ (0<=fJ ps x/\fJ hs (fJ ps x).toNat<=T)):jP ps hs T x=x:=by
 grind [jP]
theorem N9(a:x<ps.length)(hp:ko ps):jP ps hs T x<ps.length:=by
 induction hm:ps.length-x using Nat.strongRecOn generalizing x with
 | _ m c =>
  by_cases h:0<=fJ ps x/\fJ hs (fJ ps x).toNat<=T
  . have b:=hp.up x a
    grind [IQ,fJ]
  . rw[IP h]
    exact a
end
theorem O9{l:List (Value×List Int)}(h:l.length=13):l.flatMap lB=[(fJ l 0).1,(fJ l 1).1,(fJ l 2).1,(fJ l 3).1,(fJ l 4).1,(fJ l 5).1,(fJ l 6).1,(fJ l 7).1,(fJ l 8).1,(fJ l 9).1,(fJ l 10).1,(fJ l 11).1,(fJ l 12).1]:=by
 match l,h with
 | [a0,a1,a2,a3,a4,a5,a6,a7,a8,a9,a10,a11,a12],_=>rfl
theorem iE.QF{f:List Nat}(h:iE es n f){y:Nat}(c:y<n+f.length):fJ (gd es n f).p y = -1\/(y:Int)<fJ (gd es n f).p y/\fJ (gd es n f).p y<((n+f.length:Nat):Int):=by
 rcases h.par c with a|⟨j,a,b,i⟩
 . exact .inl (iS a)
 . have e:=iS b
   obtain⟨_,_,_,_,_,_,_,d,g,_⟩:=h.inner a
   grind
theorem iE.vp{f:List Nat}(h:iE es n f):ko (gd es n f).p :=
 ⟨fun i hi=>by
  have c:=(nY (es:=es) (n:=n) (f:=f)).2.2.1
  rcases h.QF (y:=i) o_ with a|⟨a,b⟩
  . exact .inl o_
  . exact .inr ⟨a,o_⟩⟩
theorem iE.Kr{f:List Nat}(h:iE es n f):∀ i,i<(gd es n f).p.length -> -1<=fJ (gd es n f).p i:=fun i hi=>by
 have c:=(nY (es:=es) (n:=n) (f:=f)).2.2.1
 rcases h.QF (y:=i) o_ with a|⟨a,b⟩<;>omega
def kH(E:List Ge)(n:Nat):List Nat:=E.foldl (fun lb e=>iW lb (fJ lb e.u) (fJ lb e.v)) (List.range n)
theorem Fz{f:List Nat}:gR es n f=kH (f.map (fJ es)) n:=by
 unfold gR kH
 rw[List.foldl_map]
structure mS (n:Nat) (lb:List Nat):Prop where
 len:lb.length=n
 low:∀ i,i<n->fJ lb i<=i
 me:∀ i,i<n->fJ lb (fJ lb i)=fJ lb i
theorem mS.range:mS n (List.range n) :=
 ⟨s_,fun i h=>by rw[lU h];exact zm _,fun i h=>by rw[lU h,lU h]⟩
theorem mS.next{u v:Nat}(h:mS n E)(a:u<n)(hv:v<n):mS n (iW E (fJ E u) (fJ E v)):=by
 have b:=h.len
 have g:=h.low u a
 have lv:=h.low v hv
 have d:=h.me u a
 have iv:=h.me v hv
 refine⟨by rw[FQ];exact b,fun i hi=>?_,fun i hi=>?_⟩
 . rw[nT o_]
   have:=h.low i hi
   split<;>omega
 . have f:=h.low i hi
   have c:=h.me i hi
   rw[nT (i:=i) o_]
   split
   . rename_i e
     rw[nT o_]
     rcases DY (fJ E u) (fJ E v)with q|q
     . rw[vM q,DN q,d];split<;>omega
     . rw[HH q,HA q,iv];split<;>omega
   . rename_i e
     rw[nT o_,c,if_neg e]
structure og (E:List Ge) (n:Nat) (lb:List Nat):Prop where
 ok:mS n lb
 Gi:∀ e∈E,fJ lb e.u=fJ lb e.v
 sG:∀ lb2,mS n lb2->(∀ e∈E,fJ lb2 e.u=fJ lb2 e.v)->∀ i j,i<n->j<n->fJ lb i=fJ lb j->fJ lb2 i=fJ lb2 j
theorem og.start:og [] n (List.range n) :=
 ⟨mS.range,fun e h=>(nr h).elim,fun b _ _ i j hi a h=>by rw[lU hi,lU a]at h;rw[h]⟩
theorem og.next{E:List Ge}{lb:List Nat}(h:og E n lb)(e:Ge)(f:e.u<n)(hv:e.v<n)(p:∀ e∈E,e.u<n/\e.v<n):og (E++[e]) n (iW lb (fJ lb e.u) (fJ lb e.v)):=by
 have w:=h.ok.len
 refine⟨h.ok.next f hv,fun x b=>?_,fun t s r i j hi c a=>?_⟩
 . rcases zn.1 b with b|b
   . rw[nT (by have:=(p x b).1;omega),nT (by have:=(p x b).2;omega),h.Gi x b]
   . rw[k7]at b
     subst b
     rw[nT o_,nT o_]
     split<;>split<;>omega
 . have k:=h.sG t s fun x b=>r x (sN _ b)
   have d:=r e (vG _ (k7.2 rfl))
   rw[nT o_,nT o_]at a
   have g:=fun q:fJ lb i=fJ lb e.u=>k i e.u hi f q
   have m:=fun q:fJ lb i=fJ lb e.v=>k i e.v hi hv q
   have l:=fun q:fJ lb j=fJ lb e.u=>k j e.u c f q
   have o:=fun q:fJ lb j=fJ lb e.v=>k j e.v c hv q
   rcases DY (fJ lb e.u) (fJ lb e.v)with q|q
   . rw[vM q,DN q]at a
     by_cases h1:fJ lb i=fJ lb e.v
     . by_cases h3:fJ lb j=fJ lb e.v
       . rw[m h1,o h3]
       . rw[if_pos h1,if_neg h3]at a
         rw[m h1,l a.symm,d]
     . by_cases h3:fJ lb j=fJ lb e.v
       . rw[if_neg h1,if_pos h3]at a
         rw[g a,o h3,d]
       . rw[if_neg h1,if_neg h3]at a
         exact k i j hi c a
   . rw[HH q,HA q]at a
     by_cases h1:fJ lb i=fJ lb e.u
     . by_cases h3:fJ lb j=fJ lb e.u
       . rw[g h1,l h3]
       . rw[if_pos h1,if_neg h3]at a
         rw[g h1,o a.symm,d]
     . by_cases h3:fJ lb j=fJ lb e.u
       . rw[if_neg h1,if_pos h3]at a
         rw[m a,l h3,d]
       . rw[if_neg h1,if_neg h3]at a
         exact k i j hi c a
theorem og.fold{n:Nat}:∀ (L D:List Ge) (lb:List Nat),og D n lb->(∀ e∈D,e.u<n/\e.v<n)->(∀ e∈L,e.u<n/\e.v<n)->og (D++L) n (L.foldl (fun lb e=>iW lb (fJ lb e.u) (fJ lb e.v)) lb)
 | [],D,lb,h,_,_=>by rw[rJ];exact h
 | e :: L,D,lb,h,hD,hL=>by
  have a:=hL e (zd ..)
  have c:=og.fold L (D++[e]) _ (h.next e a.1 a.2 hD) (fun x b=>by
   rcases zn.1 b with q|q
   . exact hD x q
   . rw[k7]at q;subst q;exact a) (fun x b=>hL x (zw _ b))
  rw[z7]at c
  exact c
theorem wh{E:List Ge}(h:∀ e∈E,e.u<n/\e.v<n):og E n (kH E n) :=
 og.fold E [] _ og.start (fun e h=>(nr h).elim) h
theorem og.le{E E2:List Ge}{a b:List Nat}(h1:og E n a)(c:og E2 n b)(hm:∀ e,e∈E->e∈E2)(hi:i<n):fJ b i<=fJ a i:=by
 have h:=h1.ok.low i hi
 have f:=h1.sG b c.ok (fun e d=>c.Gi e (hm e d)) (fJ a i) i o_ hi (h1.ok.me i hi)
 have g:=c.ok.low (fJ a i) o_
 omega
theorem og.uniq{E E2:List Ge}{a b:List Nat}(h1:og E n a)(c:og E2 n b)(hm:∀ e,e∈E↔e∈E2):a=b:=by
 refine oc fun i=>?_
 by_cases hi:i<n
 . rw[gz (by rw[h1.ok.len];exact hi),gz (by rw[c.ok.len];exact hi)]
   exact congrArg some (Nat.le_antisymm (c.le h1 (fun e h=>(hm e).2 h) hi) (h1.le c (fun e h=>(hm e).1 h) hi))
 . rw[rH (by rw[h1.ok.len];omega),rH (by rw[c.ok.len];omega)]
theorem YC:gR es n (jB es n o)=gR es n o:=by
 have h:∀ r:List Nat,gR es n (jB es n r.reverse)=gR es n r.reverse:=by
  intro r
  induction r with
  | nil=>rfl
  | cons i r a=>rw[List.reverse_cons,CD,JL,CL,a]
 simpa using h o.reverse
theorem Xm(a b:List Nat):∃ g,jB es n (a++b)=jB es n a++g/\∀ x∈g,x∈b:=by
 have h:∀ r:List Nat,∃ g,jB es n (a++r.reverse)=jB es n a++g/\∀ x∈g,x∈r:=by
  intro r
  induction r with
  | nil=>exact⟨[],s_,fun x c=>c⟩
  | cons i r f =>
   obtain⟨g,d,e⟩:=f
   rw[List.reverse_cons,<-z7,CD,d]
   split
   . refine⟨g++[i],by rw[z7],fun x c=>?_⟩
     rcases zn.1 c with q|q
     . exact zw _ (e x q)
     . rw[k7]at q;subst q;exact zd ..
   . exact⟨g,rfl,fun x c=>zw _ (e x c)⟩
 obtain⟨g,d,e⟩:=h b.reverse
 rw[List.reverse_reverse]at d
 exact⟨g,d,fun x c=>List.mem_reverse.1 (e x c)⟩
theorem Pq{es:List Ge}{T:Int}:∀ {o:List Nat},o.Pairwise (qZ es)->o.filter (fun i=>decide ((fJ es i).w<=T))++o.filter (fun i => !decide ((fJ es i).w<=T))=o
 | [],_=>rfl
 | a :: o,h=>by
  rw[pn]at h
  by_cases ha:(fJ es a).w<=T
  . rw[BN (by simpa using ha),BM (by simpa using ha),nH,Pq h.2]
  . have hb:∀ x∈o,¬ (fJ es x).w<=T:=fun x b=>by have:=h.1 x b;unfold qZ at this;omega
    rw[BM (by simpa using ha),BN (by simpa using ha)]
    rw[DO.2 (fun x b=>by simpa using hb x b),pg]
    exact congrArg (a :: ·) (qN.2 fun x b=>by simpa using hb x b)
section
variable {es:List Ge} {n:Nat} {f:List Nat} {T:Int}
theorem iE.cut(h:iE es n f)(T:Int):∃ m,m<=f.length/\(∀ j,j<m->(fJ es (fJ f j)).w<=T)/\(∀ j,m<=j->j<f.length->T<(fJ es (fJ f j)).w)/\gR es n (f.take m)=kH (es.filter fun e=>decide (e.w<=T)) n:=by
 obtain⟨l,⟨o,d,rfl⟩⟩:=h
 have s:=Pq (T:=T) d.Gx
 obtain⟨g,b,r⟩:=Xm (es:=es) (n:=n) (o.filter fun i=>decide ((fJ es i).w<=T)) (o.filter fun i => !decide ((fJ es i).w<=T))
 rw[s]at b
 refine⟨(jB es n (o.filter fun i=>decide ((fJ es i).w<=T))).length,by rw[b,zo];omega,fun j c=>?_,fun j c p=>?_,?_⟩
 . rw[b,iS (show (_++g)[j]? = _ by rw[DK c];exact gz c)]
   have k:=(CE (es:=es) (n:=n) (o.filter fun i=>decide ((fJ es i).w<=T))).subset (ze (gz c))
   simpa using(zy.1 k).2
 . rw[b]at p ⊢
   have q:j-(jB es n (o.filter fun i=>decide ((fJ es i).w<=T))).length<g.length:=by rw[zo]at p;omega
   rw[iS (show (_++g)[j]? = _ by rw[Hv c];exact gz q)]
   have k:=(zy.1 (r _ (ze (gz q)))).2
   have y:¬ (fJ es (fJ g (j-(jB es n (o.filter fun i=>decide ((fJ es i).w<=T))).length))).w<=T:=by simpa using k
   omega
 . rw[b,List.take_left,YC,Fz]
   refine(wh fun e a=>?_).uniq (wh fun e a=>?_) fun e=>?_
   . obtain⟨i,hi,rfl⟩:=zq.1 a
     have:=l _ (ze (gz (d.lt (zy.1 hi).1)))
     exact⟨this.1,this.2.1⟩
   . have:=l _ (zy.1 a).1
     exact⟨this.1,this.2.1⟩
   . constructor
     . intro a
       obtain⟨i,hi,rfl⟩:=zq.1 a
       obtain⟨v,x⟩:=zy.1 hi
       exact zy.2 ⟨ze (gz (d.lt v)),x⟩
     . intro a
       obtain⟨t,u⟩:=zy.1 a
       obtain⟨i,hi⟩:=Hr t
       have e1:=iS hi
       refine zq.2 ⟨i,zy.2 ⟨d.perm.mem_iff.2 (l8.2 (zt.1 hi).1),?_⟩,e1⟩
       rw[e1];exact u
end
theorem XA{E:List Ge}(h:k<E.length):kH (E.take (k+1)) n=iW (kH (E.take k) n) (fJ (kH (E.take k) n) (fJ E k).u) (fJ (kH (E.take k) n) (fJ E k).v):=by
 unfold kH
 rw[qu,gz h,HD]
 rfl
theorem EU{ys:List Int}(hs:ys.Pairwise fun a b=>a<b){j:Nat}(hi:i<ys.length)(c:j<ys.length)(h:fJ ys i=fJ ys j):i=j:=by
 have hp:=vE.1 hs
 rw[iS (z8 hi),iS (z8 c)]at h
 rcases Nat.lt_trichotomy i j with q|q|q
 . have:=hp i j hi c q;omega
 . exact q
 . have:=hp j i c hi q;omega
theorem Ge.ext{a b:Ge}(c:a.u=b.u)(hv:a.v=b.v)(d:a.w=b.w):a=b:=by
 cases a;cases b;simp_all
theorem kA.uniq{ids:List Int}{c:List Ge}(hs:ids.Pairwise fun a b=>a<b)(h:kA ids L es L.length)(d:kA ids L c L.length):es=c:=by
 have l1:=h.len
 have e:=d.len
 refine oc fun i=>?_
 by_cases hi:i<L.length
 . rw[gz o_,gz o_]
   have a:=h.fst i hi
   have b:=d.fst i hi
   exact congrArg some (Ge.ext (EU hs a.ul b.ul (a.u.trans b.u.symm)) (EU hs a.vl b.vl (a.v.trans b.v.symm)) (a.w.trans b.w.symm))
 . grind
theorem fW.ok.copy(h:s.ok fN fM){d:AW}(e:∃ g,d.A={ s.A with ps:=g })(k:d.A.ok){t2:TW}(q:t2.ok)(o:∀ x,t2.mem x↔s.t.mem x)(p:t2.A.n=s.t.A.n){im2:IM}(hk:(im2.map Prod.fst).Nodup)
 (f:∀ a,(ig im2 a=none↔ig s.im a=none)/\(fS im2 a).2=(fS s.im a).2) (jg tb ab mb:Nat) (lv:Value) :
 fW.ok fN fM ⟨jg,tb,ab,mb,lv,s.last,d,t2,s.live,im2⟩/\∀ x,fW.has ⟨jg,tb,ab,mb,lv,s.last,d,t2,s.live,im2⟩ x↔s.has x:=by
 obtain⟨g,e⟩:=e
 have c:∀ j,d.A.ij j↔s.A.ij j:=fun j=>by rw[e];exact Iff.rfl
 have m:d.A.n=s.A.n:=by rw[e]
 have hb:d.A.begun=s.A.begun:=by rw[e]
 refine⟨⟨m.trans h.n,p.trans h.tn,h.en,h.vn,k,q,h.ll.trans hb.symm,fun i hi=>h.slot i ((c i).1 hi),h.FE,fun i hi=>h.ne i ((c i).1 hi),fun id=>?_,hk,fun id i=>?_,fun id=>?_,fun id=>?_,
  fun i hi=>h.seq i ((c i).1 hi),fun i j hi l=>h.Gu i j ((c i).1 hi) ((c j).1 l),h.tB⟩,fun x=>?_⟩
 . show t2.mem id↔∃ i,d.A.ij i/\_
   rw[o,h.mem]
   exact⟨fun⟨i,a,b⟩=>⟨i,(c i).2 a,b⟩,fun⟨i,a,b⟩=>⟨i,(c i).1 a,b⟩⟩
 . show i∈(fS im2 id).2↔d.A.ij i/\_
   rw[(f id).2,c]
   exact h.inc id i
 . show ((fS im2 id).2).Nodup
   rw[(f id).2]
   exact h.nd id
 . show ig im2 id=none↔(fS im2 id).2=[]
   rw[(f id).1,(f id).2]
   exact h.empty id
 . exact⟨fun⟨i,a,b⟩=>⟨i,(c i).1 a,b⟩,fun⟨i,a,b⟩=>⟨i,(c i).2 a,b⟩⟩
def Lb(p:List Nat)(i j:Nat):List Nat:=fO (fO p i fun _=>fJ p j) j fun _=>fJ p i
theorem adS{p:List Nat}{j:Nat}(hi:i<p.length)(a:j<p.length):(Lb p i j).Perm p:=by
 grind [fJ,iS,Lb,fO]
def AO(n:Nat)(ds:List Int)(k:Nat):Nat:=k+(fJ ds k).toNat%(n-k)
theorem On{ds:List Int}(h:k<n):AO n ds k<n:=by
 have:=Ae (fJ ds k).toNat (show 0<n-k by omega)
 unfold AO
 omega
def u7(n:Nat)(ds:List Int):Nat->List Nat
 | 0=>List.range n
 | k+1=>Lb (u7 n ds k) k (AO n ds k)
def mu(n:Nat)(ds:List Int):List Nat:=u7 n ds (n-1)
theorem I5{n:Nat}{ds:List Int}:∀ {k:Nat},k<=n->(u7 n ds k).Perm (List.range n)
 | 0,_=>List.Perm.refl _
 | k+1,h=>by
  have a:=I5 (ds:=ds) (show k<=n by omega)
  have b:(u7 n ds k).length=n:=a.length_eq.trans mQ
  exact(adS o_ (by rw[b];exact On o_)).trans a
theorem Wu{ds:List Int}(h:k<=n):(u7 n ds k).length=n:=(I5 h).length_eq.trans mQ
theorem E9{ds:List Int}:(mu n ds).Perm (List.range n):=I5 (Nat.sub_le _ _)
theorem ab6(a:0<=x)(hk:k<n):x.tmod ((n:Int)-(k:Int))=((x.toNat%(n-k):Nat):Int):=by
 obtain⟨y,rfl⟩:=Int.eq_ofNat_of_zero_le a
 rw[Hu a,show (n:Int)-(k:Int)=((n-k:Nat):Int) by omega,nG,<-Int.natCast_emod]
def vu(n k:Nat):List Nat:=List.range k++List.replicate (n-k) 0
theorem acp:vu n 0=List.replicate n 0:=rfl
theorem acm:vu n n=List.range n:=by simp[vu]
theorem acn(h:k<=n):(vu n k).length=n:=by simp[vu];omega
theorem aco(h:k<n):fO (vu n k) k (fun _=>k)=vu n (k+1):=by
 apply oc
 intro j
 unfold vu fO
 grind
def gM(ps:List Int):Nat->Nat->Nat
 | 0,v=>v
 | k+1,v=>gM ps k (fJ ps v).toNat
section
variable {ps:List Int} {k j v:Nat}
theorem uB(a b:Nat):gM ps (a+b) v=gM ps b (gM ps a v):=by
 induction a generalizing v with
 | zero=>rw[tO];rfl
 | succ a c=>rw[Nat.succ_add];exact c
theorem afb:gM ps 1 v=(fJ ps v).toNat:=rfl
theorem E8(hp:ko ps)(hv:v<ps.length):0<gj ps v↔0<=fJ ps v:=by
 constructor
 . grind [fJ,E7]
 . intro h
   rw[AN hp hv (i:=(fJ ps v).toNat) o_]
   omega
theorem Oi(hp:ko ps)(hv:v<ps.length)(h:0<=fJ ps v):gj ps v=gj ps (fJ ps v).toNat+1:=AN hp hv o_
theorem qI(hp:ko ps)(hv:v<ps.length)(hk:k<=gj ps v):gM ps k v<ps.length/\gj ps (gM ps k v)=gj ps v-k/\v<=gM ps k v:=by
 induction k generalizing v with
 | zero=>exact⟨hv,rfl,zm _⟩
 | succ k d =>
  have a:=(E8 hp hv).1 o_
  have b:=hp.up v hv
  have c:=Oi hp hv a
  grind [fJ,gj,gM]
theorem afc(hp:ko ps)(hv:v<ps.length)(hk:k<gj ps v):fJ ps (gM ps k v)=((gM ps (k+1) v:Nat):Int):=by
 obtain⟨a,b,_⟩:=qI hp hv (Nat.le_of_lt hk)
 grind [E8,uB,afb]
theorem Pd(hp:ko ps)(hv:v<ps.length):(2 ^ j<=gj ps v->kI ps j v=((gM ps (2 ^ j) v:Nat):Int))/\(gj ps v<2 ^ j->kI ps j v<0):=by
 induction j generalizing v with
 | zero =>
  have a:=E8 hp hv
  constructor
  . intro h
    show fJ ps v=(((fJ ps v).toNat:Nat):Int)
    grind
  . intro h
    show fJ ps v<0
    grind
 | succ j d =>
  have e:2 ^ (j+1)=2 ^ j+2 ^ j:=by rw[DZ];omega
  obtain⟨c,i⟩:=d hv
  rw[e]
  constructor
  . intro h
    have a:=c o_
    obtain⟨b,f,_⟩:=qI hp hv (k:=2 ^ j) o_
    rw[Fx o_,a,nG,(d b).1 o_,<-uB]
  . intro h
    rcases BY (gj ps v) (2 ^ j)with a|a
    . grind [JE]
    . have b:=c a
      obtain⟨f,g,_⟩:=qI hp hv (k:=2 ^ j) a
      grind [Fx]
theorem JF(hp:ko ps)(hv:v<ps.length)(h:2 ^ j<=gj ps v):fJ (jy ps j) v=((gM ps (2 ^ j) v:Nat):Int):=by
 rw[vi hv]
 exact(Pd hp hv).1 h
theorem Pc(hp:ko ps)(hv:v<ps.length)(h:gj ps v<2 ^ j):fJ (jy ps j) v<0:=by
 rw[vi hv]
 exact(Pd hp hv).2 h
theorem Pb(hp:ko ps)(hm:∀ i,i<ps.length -> -1<=fJ ps i)(hv:v<ps.length) : -1<=kI ps j v:=by
 induction j generalizing v with
 | zero=>exact hm v hv
 | succ j a =>
  grind [JD,kI,Fx,JE]
end
structure pW (ps:List Int) (a b D j s:Nat):Prop where
 le:s<=D
 ne:gM ps s a≠gM ps s b
 OE:D<s+2 ^ j\/gM ps (s+2 ^ j) a=gM ps (s+2 ^ j) b
section
variable {ps:List Int} {a b D j s:Nat}
theorem pW.start(h:a≠b)(c:D<8192):pW ps a b D 13 0:=⟨mE _,h,.inl (by rw[tO];exact c)⟩
theorem pW.next(hp:ko ps)(hm:∀ i,i<ps.length -> -1<=fJ ps i)(n:a<ps.length)(hb:b<ps.length)(p:gj ps a=D)(db:gj ps b=D)(h:pW ps a b D (j+1) s) :
 (fJ (jy ps j) (gM ps s a)=fJ (jy ps j) (gM ps s b)->pW ps a b D j s) /\
 (fJ (jy ps j) (gM ps s a)≠fJ (jy ps j) (gM ps s b)->pW ps a b D j (s+2 ^ j)/\fJ (jy ps j) (gM ps s a)=((gM ps (s+2 ^ j) a:Nat):Int)/\fJ (jy ps j) (gM ps s b)=((gM ps (s+2 ^ j) b:Nat):Int)):=by
 have g:=h.le
 obtain⟨a1,a2,_⟩:=qI hp n (k:=s) o_
 obtain⟨b1,b2,_⟩:=qI hp hb (k:=s) o_
 have e:2 ^ (j+1)=2 ^ j+2 ^ j:=by rw[DZ];omega
 rcases BY (D-s) (2 ^ j)with l|l
 . have q:=Pc hp a1 (j:=j) o_
   have nb:=Pc hp b1 (j:=j) o_
   have o:=Pb hp hm a1 (j:=j)
   have mb:=Pb hp hm b1 (j:=j)
   rw[<-vi a1]at o
   rw[<-vi b1]at mb
   exact⟨fun _=>⟨g,h.ne,.inl o_⟩,fun c=>absurd (show fJ (jy ps j) (gM ps s a)=fJ (jy ps j) (gM ps s b) by omega) c⟩
 . have ya:=JF hp a1 (j:=j) o_
   have d:=JF hp b1 (j:=j) o_
   rw[<-uB]at ya d
   refine⟨fun c=>⟨g,h.ne,.inr o_⟩,fun c=>⟨⟨o_,fun m=>c (by rw[ya,d,m]),?_⟩,ya,d⟩⟩
   have f:=h.OE
   rw[e,<-lJ]at f
   exact f
theorem pW.fin(hp:ko ps)(c:a<ps.length)(f:gj ps a=D)(h:pW ps a b D 0 s) :
 (fJ ps (gM ps s a)<0->s=D)/\(¬ fJ ps (gM ps s a)<0->s<D/\fJ ps (gM ps s a)=((gM ps (s+1) a:Nat):Int)/\gM ps (s+1) a=gM ps (s+1) b):=by
 have j:=h.le
 obtain⟨a1,a2,_⟩:=qI hp c (k:=s) o_
 have d:=E8 hp a1
 refine⟨fun e=>?_,fun e=>?_⟩
 . grind
 . have g:=d.2 o_
   refine⟨o_,afc hp c o_,?_⟩
   have i:=h.OE
   grind
end
theorem I3{ps:List Int}(hp:ko ps)(hi:i<ps.length):gj ps i+i<ps.length:=by
 induction hm:ps.length-i using Nat.strongRecOn generalizing i with
 | _ m a =>
  rcases hp.up i hi with h|⟨b,c⟩
  . rw[E7 h]
    omega
  . have:=a (ps.length-(fJ ps i).toNat) o_ (i:=(fJ ps i).toNat) o_ rfl
    rw[Oi hp hi o_]
    omega
def sQ(ps:List Int)(a b z:Nat)(B:Bool):Prop :=
 (B=true/\∃ s t,s<=gj ps a/\t<=gj ps b/\gM ps s a=z/\gM ps t b=z/\∀ c t', c <= gj ps a->t' <= gj ps b->gM ps c a=gM ps t' b->s<=c) \/
 (B=false/\z=0/\∀ s t,s<=gj ps a->t<=gj ps b->gM ps s a≠gM ps t b)
section
variable {ps:List Int} {a b A B D s:Nat}
theorem J2(hp:ko ps)(d:a<ps.length)(hb:b<ps.length){s t:Nat}(hs:s<=gj ps a)(ht:t<=gj ps b)(h:gM ps s a=gM ps t b) :
 ∃ m,m<=min (gj ps a) (gj ps b)/\s=gj ps a-min (gj ps a) (gj ps b)+m/\gM ps m (gM ps (gj ps a-min (gj ps a) (gj ps b)) a)=gM ps m (gM ps (gj ps b-min (gj ps a) (gj ps b)) b):=by
 have c:=(qI hp d hs).2.1
 have e:=(qI hp hb ht).2.1
 rw[h]at c
 refine⟨min (gj ps a) (gj ps b)-(gj ps a-s),o_,o_,?_⟩
 rw[<-uB,<-uB,show gj ps a-min (gj ps a) (gj ps b)+(min (gj ps a) (gj ps b)-(gj ps a-s))=s by omega,show gj ps b-min (gj ps a) (gj ps b)+(min (gj ps a) (gj ps b)-(gj ps a-s))=t by omega,h]
theorem VI(hp:ko ps)(c:a<ps.length)(hb:b<ps.length)(h:gM ps (gj ps a-min (gj ps a) (gj ps b)) a=gM ps (gj ps b-min (gj ps a) (gj ps b)) b) :
 sQ ps a b (gM ps (gj ps a-min (gj ps a) (gj ps b)) a) true :=
 .inl ⟨rfl,_,_,Nat.sub_le _ _,Nat.sub_le _ _,rfl,h.symm,fun f t' hs ht e=>by
  obtain⟨m,_,d,_⟩:=J2 hp c hb hs ht e
  omega⟩
theorem pW.apart{j:Nat}(h:pW ps A B D j s){m:Nat}(hm:gM ps m A=gM ps m B):s<m:=by
 apply Nat.lt_of_not_le
 intro a
 apply h.ne
 rw[show s=m+(s-m) by omega,uB,uB,hm]
theorem VK(hp:ko ps)(i:a<ps.length)(hb:b<ps.length)(d:A=gM ps (gj ps a-min (gj ps a) (gj ps b)) a)(f:B=gM ps (gj ps b-min (gj ps a) (gj ps b)) b)(h:pW ps A B (min (gj ps a) (gj ps b)) 0 s)(h1:s<min (gj ps a) (gj ps b))(g:gM ps (s+1) A=gM ps (s+1) B):sQ ps a b (gM ps (s+1) A) true:=by
 refine .inl ⟨rfl,gj ps a-min (gj ps a) (gj ps b)+(s+1),gj ps b-min (gj ps a) (gj ps b)+(s+1),o_,o_,by rw[uB,<-d],by rw[uB,<-f,g],fun k t' hs ht e=>?_⟩
 obtain⟨m,_,j,c⟩:=J2 hp i hb hs ht e
 rw[<-d,<-f]at c
 have:=h.apart c
 omega
theorem VJ(hp:ko ps)(g:a<ps.length)(hb:b<ps.length)(d:A=gM ps (gj ps a-min (gj ps a) (gj ps b)) a)(f:B=gM ps (gj ps b-min (gj ps a) (gj ps b)) b)(h:pW ps A B (min (gj ps a) (gj ps b)) 0 s)(h1:s=min (gj ps a) (gj ps b)):sQ ps a b 0 false:=by
 refine .inr ⟨rfl,rfl,fun k t' hs ht e=>?_⟩
 obtain⟨m,i,j,c⟩:=J2 hp g hb hs ht e
 rw[<-d,<-f]at c
 have:=h.apart c
 omega
end
theorem Tp:∀ es:List Ge,∃ T:Int,∀ e∈es,e.w<=T
 | []=>⟨0,fun e h=>(by cases h)⟩
 | a :: l=>by
  obtain⟨T,h⟩:=Tp l
  refine⟨max a.w T,fun e b=>?_⟩
  rcases zg.1 b with rfl|b
  . exact Int.le_max_left _ _
  . exact Int.le_trans (h e b) (Int.le_max_right _ _)
end Go.Sx
