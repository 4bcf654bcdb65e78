/- Plain lemmas: rules for walking through code, one for each operation, over any program; an evaluator of closed calls with its soundness; and plain mathematics. No conditions. -/
import Derived.Test.YtdopagghhibopaaGreatFc
import Derived.Test.YtdopagghhibopaaGreatFb
import Derived.Test.YtdopagghhibopaaGreatFa
import Derived.Sort.Row
import Derived.Shelf.GgSortFunc.InsertionK
import Derived.ProofKit
import Derived.Deep.Slices
set_option linter.unusedVariables false
set_option linter.unusedSectionVars false
set_option linter.unusedSimpArgs false
namespace Go.Sx
open Go
structure fZ where
 iO:Nat
 tb:Nat
 ab:Nat
 mb:Nat
 lv:Value
 last:Int
 aw:AW
 t:TW
 live:List Lv
 im:IM
abbrev fZ.A(s:fZ):As:=s.aw.A
abbrev Lv.at(x:Lv)(id:Int):Prop:=x.u=id\/x.v=id
def fZ.inc(s:fZ)(id:Int):List Nat:=(fU s.im id).2
structure fZ.ok (fO fN:Nat) (s:fZ):Prop where
 n:s.A.n=fN
 tn:s.t.A.n=fO
 en:fN<=16384
 vn:fO<=4096
 lX:s.A.ok
 tok:s.t.ok
 ll:s.live.length=s.A.begun
 slot:∀ i,s.A.ia i->(fM s.live i).slot=(i:Int)
 Gj:∀ i,(fM s.live i).ok
 ne:∀ i,s.A.ia i->(fM s.live i).u≠(fM s.live i).v
 mem:∀ id,s.t.mem id↔∃ i,s.A.ia i/\(fM s.live i).at id
 keys:(s.im.map Prod.fst).Nodup
 inc:∀ id i,i∈s.inc id↔s.A.ia i/\(fM s.live i).at id
 nd:∀ id,(s.inc id).Nodup
 empty:∀ id,ig s.im id=none↔s.inc id=[]
 seq:∀ i,s.A.ia i->(fM s.live i).seq<=s.last
 Fe:∀ i j,s.A.ia i->s.A.ia j->(fM s.live i).seq=(fM s.live j).seq->i=j
 uz:0<=s.last
def fZ.has(s:fZ)(x:Lv):Prop:=∃ i,s.A.ia i/\fM s.live i=x
noncomputable def TW.cnt(t:TW)(id:Int):Nat:=by
 classical
 exact if t.mem id then 0 else 1
theorem TW.Ab{t:TW}{id:Int}(h:t.mem id):t.cnt id=0:=by unfold TW.cnt;exact if_pos h
theorem TW.vL{t:TW}{id:Int}(h:¬ t.mem id):t.cnt id=1:=by unfold TW.cnt;exact if_neg h
theorem TW.wC.cnt{t:TW}{id:Int}{z:Nat}{b:Bool}(h:t.wC id z b):t.cnt id=if b then 0 else 1:=by
 rcases h with ⟨rfl,h1,h2⟩|⟨rfl,_,h⟩
 . exact TW.Ab ⟨z,h1,h2⟩
 . exact TW.vL h
noncomputable def fZ.gG(s:fZ)(fO fN:Nat)(u v:Int):Int:=by
 classical
 exact if u=v then 9 else if fN<=s.A.used then 12 else if fO<s.t.A.used+(s.t.cnt u+s.t.cnt v)then 11 else 0
theorem fZ.Ns{s:fZ}{fO fN:Nat}{u v:Int}(h:u=v):s.gG fO fN u v=9:=by unfold fZ.gG;rw[if_pos h]
theorem fZ.Mt{s:fZ}{fO fN:Nat}{u v:Int}(h:u≠v)(h1:fN<=s.A.used):s.gG fO fN u v=12:=by unfold fZ.gG;rw[if_neg h,if_pos h1]
theorem fZ.BG{s:fZ}{fO fN:Nat}{u v:Int}(h:u≠v)(h1:¬ fN<=s.A.used)(h2:fO<s.t.A.used+(s.t.cnt u+s.t.cnt v)):s.gG fO fN u v=11:=by unfold fZ.gG;rw[if_neg h,if_neg h1,if_pos h2]
theorem fZ.B5{s:fZ}{fO fN:Nat}{u v:Int}(h:u≠v)(h1:¬ fN<=s.A.used)(h2:¬ fO<s.t.A.used+(s.t.cnt u+s.t.cnt v)):s.gG fO fN u v=0:=by unfold fZ.gG;rw[if_neg h,if_neg h1,if_neg h2]
theorem fZ.MZ{s:fZ}{fO fN:Nat}{u v:Int}(h:s.gG fO fN u v=0):u≠v/\s.A.used<fN/\s.t.A.used+(s.t.cnt u+s.t.cnt v)<=fO:=by
 by_cases h1:u=v
 . rw[fZ.Ns h1]at h;cases h
 . by_cases h2:fN<=s.A.used
   . rw[fZ.Mt h1 h2]at h;cases h
   . by_cases h3:fO<s.t.A.used+(s.t.cnt u+s.t.cnt v)
     . rw[fZ.BG h1 h2 h3]at h;cases h
     . exact⟨h1,o_,o_⟩
def xV(ls:List Lv)(i:Nat)(x:Lv):List Lv:=fR (if i=ls.length then ls++[default]else ls) i (fun _=>x)
theorem XB{ls:List Lv}{i:Nat}{x:Lv}(h:i<=ls.length)(j:Nat):fM (xV ls i x) j=if i=j then x else fM ls j:=by
 unfold xV
 split
 . rename_i e
   rw[kN (by simp[e])]
   split
   . rfl
   . rename_i hne
     simp only[fM,yQ]
     split
     . rfl
     . have h1:(ls[j]? : Option Lv)=none:=nk o_
       rw[h1,nk (by simp;omega)]
 . rw[kN o_]
theorem U4{ls:List Lv}{i:Nat}{x:Lv}(h:i<=ls.length):(xV ls i x).length=if i=ls.length then ls.length+1 else ls.length:=by
 unfold xV
 rw[gJ]
 split<;>simp
section
variable {fO fN:Nat} {s:fZ}
theorem fZ.ok.ins(h:s.ok fO fN){e:Lv}{i:Nat}{aw2:AW}{t3:TW}(hp:AW.put s.A aw2.A i)(ha:aw2.A.ok)(hto:t3.ok)(hes:e.slot=(i:Int))(heq:e.seq=s.last+1)(heo:e.ok)(hne:e.u≠e.v)
 (ht:∀ x,t3.mem x↔(s.t.mem x\/x=e.u)\/x=e.v) (htn:t3.A.n=s.t.A.n) {lv2 v1 v2:Value} {ls:List Lv} (hls:ls=xV s.live i e) {im2:IM}
 (him:im2=gi (gi s.im e.u (v1,s.inc e.u++[i])) e.v (v2,s.inc e.v++[i])) :
 fZ.ok fO fN ⟨s.iO,s.tb,s.ab,s.mb,lv2,s.last+1,aw2,t3,ls,im2⟩/\∀ x,fZ.has ⟨s.iO,s.tb,s.ab,s.mb,lv2,s.last+1,aw2,t3,ls,im2⟩ x↔s.has x\/x=e:=by
 have hll:=h.ll
 have hle:i<=s.live.length:=by
  rcases hp.o5 with h1|h1<;>omega
 have hat:∀ j,fM ls j=if i=j then e else fM s.live j:=by rw[hls];exact XB hle
 have hln:ls.length=if i=s.live.length then s.live.length+1 else s.live.length:=by rw[hls];exact U4 hle
 have hin:=hp.ia
 have hni:=hp.new
 have hnj:∀ j,s.A.ia j->i≠j:=fun j hj e=>hni (e▸hj)
 have hold:∀ j,s.A.ia j->fM ls j=fM s.live j:=fun j hj=>by rw[hat,if_neg (hnj j hj)]
 have hnew:fM ls i=e:=by rw[hat,if_pos rfl]
 have hget:∀ id,ig im2 id=if e.v=id then some (v2,s.inc e.v++[i])else if e.u=id then some (v1,s.inc e.u++[i])else ig s.im id:=by
  intro id
  rw[him,zJ,zJ]
 have hinc:∀ id,(fU im2 id).2=if e.v=id then s.inc e.v++[i]else if e.u=id then s.inc e.u++[i]else s.inc id:=by
  intro id
  unfold fU
  rw[hget]
  split
  . rfl
  . split
    . rfl
    . rfl
 have hnot:∀ id,i∉s.inc id:=fun id hi=>hni ((h.inc id i).1 hi).1
 refine⟨⟨?_,?_,h.en,h.vn,ha,hto,?_,?_,?_,?_,?_,?_,?_,?_,?_,?_,?_,?_⟩,fun x=>⟨?_,?_⟩⟩
 . exact hp.n.trans h.n
 . exact htn.trans h.tn
 . show ls.length=aw2.A.begun
   rw[hln]
   rcases hp.o5 with h1|h1
   . rw[if_neg o_];omega
   . rw[if_pos o_];omega
 . intro j hj
   show (fM ls j).slot=(j:Int)
   rcases(hin j).1 hj with h1|rfl
   . rw[hold j h1];exact h.slot j h1
   . rw[hnew];exact hes
 . intro j
   show (fM ls j).ok
   rw[hat]
   split
   . exact heo
   . exact h.Gj j
 . intro j hj
   show (fM ls j).u≠(fM ls j).v
   rcases(hin j).1 hj with h1|rfl
   . rw[hold j h1];exact h.ne j h1
   . rw[hnew];exact hne
 . intro id
   show t3.mem id↔∃ j,aw2.A.ia j/\(fM ls j).at id
   rw[ht,h.mem]
   constructor
   . rintro((⟨j,hj,hx⟩|rfl)|rfl)
     . exact⟨j,(hin j).2 (.inl hj),by rw[hold j hj];exact hx⟩
     . exact⟨i,(hin i).2 (.inr rfl),by rw[hnew];exact .inl rfl⟩
     . exact⟨i,(hin i).2 (.inr rfl),by rw[hnew];exact .inr rfl⟩
   . rintro⟨j,hj,hx⟩
     rcases(hin j).1 hj with h1|rfl
     . rw[hold j h1]at hx
       exact .inl (.inl ⟨j,h1,hx⟩)
     . rw[hnew]at hx
       rcases hx with hx|hx
       . exact .inl (.inr hx.symm)
       . exact .inr hx.symm
 . show (im2.map Prod.fst).Nodup
   rw[him]
   exact Dl (Dl h.keys _ _) _ _
 . intro id j
   show j∈(fU im2 id).2↔aw2.A.ia j/\(fM ls j).at id
   rw[hinc,hin]
   have hi0:=h.inc id j
   have haux:j∈s.inc id↔(s.A.ia j\/j=i)/\j≠i/\(fM ls j).at id:=by
    rw[hi0]
    constructor
    . rintro⟨h1,h2⟩
      exact⟨.inl h1,fun e=>hnj j h1 e.symm,by rw[hold j h1];exact h2⟩
    . rintro⟨h1|h1,h2,h3⟩
      . rw[hold j h1]at h3;exact⟨h1,h3⟩
      . exact absurd h1 h2
   have hii:j=i->((fM ls j).at id↔e.u=id\/e.v=id):=by rintro rfl;rw[hnew]
   by_cases hv:e.v=id
   . rw[if_pos hv,zr,mj,hv,haux]
     constructor
     . rintro(⟨h1,_,h3⟩|h1)
       . exact⟨h1,h3⟩
       . exact⟨.inr h1,(hii h1).2 (.inr hv)⟩
     . rintro⟨h1,h2⟩
       by_cases hj:j=i
       . exact .inr hj
       . exact .inl ⟨h1,hj,h2⟩
   . rw[if_neg hv]
     by_cases hu:e.u=id
     . rw[if_pos hu,zr,mj,hu,haux]
       constructor
       . rintro(⟨h1,_,h3⟩|h1)
         . exact⟨h1,h3⟩
         . exact⟨.inr h1,(hii h1).2 (.inl hu)⟩
       . rintro⟨h1,h2⟩
         by_cases hj:j=i
         . exact .inr hj
         . exact .inl ⟨h1,hj,h2⟩
     . rw[if_neg hu,haux]
       constructor
       . rintro⟨h1,_,h3⟩
         exact⟨h1,h3⟩
       . rintro⟨h1,h2⟩
         refine⟨h1,fun hj=>?_,h2⟩
         rcases(hii hj).1 h2 with h3|h3
         . exact hu h3
         . exact hv h3
 . intro id
   show (fU im2 id).2.Nodup
   rw[hinc]
   have hap:∀ id,(s.inc id++[i]).Nodup:=fun id=>zw.2 ⟨h.nd id,s_,fun a ha b hb=>by
    rw[mj]at hb
    subst hb
    rintro rfl
    exact hnot id ha⟩
   split
   . exact hap _
   . split
     . exact hap _
     . exact h.nd id
 . intro id
   show ig im2 id=none↔(fU im2 id).2=[]
   rw[hinc,hget]
   split
   . simp
   . split
     . simp
     . exact h.empty id
 . intro j hj
   show (fM ls j).seq<=s.last+1
   rcases(hin j).1 hj with h1|rfl
   . rw[hold j h1];have:=h.seq j h1;omega
   . rw[hnew,heq];omega
 . intro a b hja hjb
   show (fM ls a).seq=(fM ls b).seq->a=b
   rcases(hin a).1 hja with h1|h1<;>rcases(hin b).1 hjb with h2|h2
   . rw[hold a h1,hold b h2];exact h.Fe a b h1 h2
   . rw[hold a h1,h2,hnew,heq];intro e9;have:=h.seq a h1;omega
   . rw[hold b h2,h1,hnew,heq];intro e9;have:=h.seq b h2;omega
   . intro _;omega
 . show 0<=s.last+1
   have:=h.uz
   omega
 . rintro⟨j,hj,hx⟩
   change fM ls j=x at hx
   rcases(hin j).1 hj with h1|h1
   . rw[hold j h1]at hx;exact .inl ⟨j,h1,hx⟩
   . rw[h1,hnew]at hx;exact .inr hx.symm
 . rintro(⟨j,hj,hx⟩|rfl)
   . exact⟨j,(hin j).2 (.inl hj),by show fM ls j=x;rw[hold j hj];exact hx⟩
   . exact⟨i,(hin i).2 (.inr rfl),hnew⟩
end
structure TW.Kp (t t2:TW) (id:Int):Prop where
 mem:∀ x,t2.mem x↔t.mem x\/x=id
 n:t2.A.n=t.A.n
 used:t2.A.used=t.A.used+t.cnt id
theorem TW.O8{t:TW}{u:Int}(h:t.A.used+t.cnt u<=t.A.n):t.mem u\/t.A.used<t.A.n:=by
 by_cases hm:t.mem u
 . exact .inl hm
 . rw[TW.vL hm]at h
   exact .inr o_
theorem TW.Kp.room{t t2:TW}{u v:Int}(p:TW.Kp t t2 u)(h:t.A.used+(t.cnt u+t.cnt v)<=t.A.n):t2.mem v\/t2.A.used<t2.A.n:=by
 by_cases hm:t2.mem v
 . exact .inl hm
 . have hn:¬ t.mem v:=fun h9=>hm ((p.mem v).2 (.inl h9))
   rw[TW.vL hn]at h
   rw[p.used,p.n]
   exact .inr o_
theorem sR{γ:Type}[Inhabited γ]{m:List (Int×γ)}{a c:Int}{x:γ}(h:a≠c):fU (gi m a x) c=fU m c:=by
 unfold fU
 rw[zJ,if_neg h]
theorem lV{a:Int}(h : -9223372036854775808<=a/\a<=9223372036854775807):ij .i64 a:=h
theorem qE{a:Int}(h:0<=a/\a<=18446744073709551615):ij .u64 a:=h
theorem fZ.ok.J2{fO fN:Nat}{s:fZ}(h:s.ok fO fN)(id:Int):(s.inc id).length<=65536:=by
 refine z1 (BN s.A.begun _ (h.nd id) fun j hj=>((h.inc id j).1 hj).1.1) ?_
 have:=h.lX.le
 have:=h.n
 have:=h.en
 omega
structure nG (im:IM) (t:TW) (im2:IM) (t2:TW) (id:Int) (i:Nat):Prop where
 get:∀ c j,j∈(fU im2 c).2↔j∈(fU im c).2/\(c=id->j≠i)
 nd:(∀ c,(fU im c).2.Nodup)->∀ c,(fU im2 c).2.Nodup
 none:(∀ c,ig im c=none↔(fU im c).2=[])->∀ c,ig im2 c=none↔(fU im2 c).2=[]
 keys:(im.map Prod.fst).Nodup->(im2.map Prod.fst).Nodup
 mem:∀ x,t2.mem x↔t.mem x/\(x=id->(fU im2 id).2≠[])
 n:t2.A.n=t.A.n
theorem We{γ:Type}[Inhabited γ]{m:List (Int×γ)}{a c:Int}{x:γ}:fU (gi m a x) c=if a=c then x else fU m c:=by
 unfold fU
 rw[zJ]
 split<;>rfl
theorem VK{m:IM}(hn:(m.map Prod.fst).Nodup){a c:Int}:fU (gH m a) c=if a=c then default else fU m c:=by
 unfold fU
 rw[Hw hn]
 split<;>rfl
theorem IY{xs:List Nat}(hn:xs.Nodup){a b:Nat}(ha:a<xs.length)(hb:b<xs.length)(e:xs[a]=xs[b]):a=b:=by
 rcases vg a b with h|h|h
 . exact absurd e (yP.1 hn a b ha hb h)
 . exact h
 . exact absurd e.symm (yP.1 hn b a hb ha h)
theorem LY{xs:List Nat}{i k:Nat}(hn:xs.Nodup)(hk:xs[k]? = some i)(j:Nat):j∈xs.eraseIdx k↔j∈xs/\j≠i:=by
 obtain⟨hkl,hke⟩:=zb.1 hk
 rw[List.mem_eraseIdx_iff_getElem]
 constructor
 . rintro⟨a,ha,hne,rfl⟩
   refine⟨FH ha,fun e=>hne ?_⟩
   exact IY hn ha hkl (e.trans hke.symm)
 . rintro⟨hj,hne⟩
   obtain⟨a,ha,rfl⟩:=List.getElem_of_mem hj
   exact⟨a,ha,fun e=>hne (by subst e;exact hke),rfl⟩
theorem nG.keep{im:IM}{t:TW}{id:Int}{i k:Nat}{v:Value}(hn:(fU im id).2.Nodup)(hk:(fU im id).2[k]? = some i)(hne:(fU im id).2.eraseIdx k≠[]):nG im t (gi im id (v,(fU im id).2.eraseIdx k)) t id i:=by
 have hg:∀ c,(fU (gi im id (v,(fU im id).2.eraseIdx k)) c).2=if id=c then(fU im id).2.eraseIdx k else(fU im c).2:=fun c=>by rw[We];split<;>rfl
 refine⟨fun c j=>?_,fun h c=>?_,fun h c=>?_,fun h=>Dl h _ _,fun x=>⟨fun h=>⟨h,fun _=>?_⟩,fun h=>h.1⟩,rfl⟩
 . rw[hg]
   split
   . rename_i e
     subst e
     rw[LY hn hk]
     exact⟨fun h=>⟨h.1,fun _=>h.2⟩,fun h=>⟨h.1,h.2 rfl⟩⟩
   . rename_i e
     exact⟨fun h=>⟨h,fun e2=>absurd e2.symm e⟩,fun h=>h.1⟩
 . rw[hg]
   split
   . exact hn.sublist (KI _ _)
   . exact h c
 . rw[hg,zJ]
   split
   . exact⟨fun h=>(by cases h),fun h=>absurd h hne⟩
   . exact h c
 . rw[hg,if_pos rfl];exact hne
theorem nG.drop{im:IM}{t t2:TW}{id:Int}{i k:Nat}(hky:(im.map Prod.fst).Nodup)(hn:(fU im id).2.Nodup)(hk:(fU im id).2[k]? = some i)(he:(fU im id).2.eraseIdx k=[])(ht:∀ x,t2.mem x↔t.mem x/\x≠id)(htn:t2.A.n=t.A.n):nG im t (gH im id) t2 id i:=by
 have hg:∀ c,(fU (gH im id) c).2=if id=c then[]else(fU im c).2:=fun c=>by rw[VK hky];split<;>rfl
 have hem:=LY hn hk
 rw[he]at hem
 refine⟨fun c j=>?_,fun h c=>?_,fun h c=>?_,fun h=>LQ h _,fun x=>?_,htn⟩
 . rw[hg]
   split
   . rename_i e
     subst e
     rw[hem]
     exact⟨fun h=>⟨h.1,fun _=>h.2⟩,fun h=>⟨h.1,h.2 rfl⟩⟩
   . rename_i e
     exact⟨fun h=>⟨h,fun e2=>absurd e2.symm e⟩,fun h=>h.1⟩
 . rw[hg]
   split
   . exact wO
   . exact h c
 . rw[hg,Hw hky]
   split
   . exact⟨fun _=>rfl,fun _=>rfl⟩
   . exact h c
 . rw[ht,hg,if_pos rfl]
   exact and_congr_right fun _=>⟨fun h e=>absurd e h,fun h e=>h e rfl⟩
section
variable {fO fN:Nat} {s:fZ}
theorem fZ.ok.rem(h:s.ok fO fN){i:Nat}(hi:s.A.ia i){aw2:AW}(hd:AW.del s.A aw2.A i)(ha:aw2.A.ok){im1 im2:IM}{t1 t2:TW}(hto:t2.ok)
 (o1:nG s.im s.t im1 t1 (fM s.live i).u i) (o2:nG im1 t1 im2 t2 (fM s.live i).v i) {lv2:Value} {ls:List Lv} (hls:ls=fR s.live i (fun _=>default)) :
 fZ.ok fO fN ⟨s.iO,s.tb,s.ab,s.mb,lv2,s.last,aw2,t2,ls,im2⟩/\∀ x,fZ.has ⟨s.iO,s.tb,s.ab,s.mb,lv2,s.last,aw2,t2,ls,im2⟩ x↔s.has x/\x.slot≠(i:Int):=by
 have hll:=h.ll
 have hil:i<s.live.length:=by have:=hi.1;omega
 have hat:∀ j,fM ls j=if i=j then default else fM s.live j:=by rw[hls];exact fun j=>kN hil
 have hin:=hd.ia
 have hne:=h.ne i hi
 have hinc:∀ c j,j∈(fU im2 c).2↔j∈s.inc c/\(c=(fM s.live i).u->j≠i)/\(c=(fM s.live i).v->j≠i):=by
  intro c j
  rw[o2.get,o1.get,and_assoc]
  rfl
 have hinc2:∀ c j,j∈(fU im2 c).2↔aw2.A.ia j/\(fM ls j).at c:=by
  intro c j
  rw[hinc,hin,h.inc]
  constructor
  . rintro⟨⟨h1,h2⟩,h3,h4⟩
    have hji:j≠i:=by
     rintro rfl
     rcases h2 with h2|h2
     . exact h3 h2.symm rfl
     . exact h4 h2.symm rfl
    exact⟨⟨h1,hji⟩,by rw[hat,if_neg (fun e=>hji e.symm)];exact h2⟩
  . rintro⟨⟨h1,hji⟩,h2⟩
    rw[hat,if_neg (fun e=>hji e.symm)]at h2
    exact⟨⟨h1,h2⟩,fun _=>hji,fun _=>hji⟩
 have hold:∀ j,aw2.A.ia j->fM ls j=fM s.live j:=fun j hj=>by rw[hat,if_neg (fun e=>((hin j).1 hj).2 e.symm)]
 refine⟨⟨hd.n.trans h.n,(o2.n.trans o1.n).trans h.tn,h.en,h.vn,ha,hto,?_,?_,?_,?_,?_,o2.keys (o1.keys h.keys),hinc2,o2.nd (o1.nd h.nd),o2.none (o1.none h.empty),?_,?_,h.uz⟩,fun x=>⟨?_,?_⟩⟩
 . show ls.length=aw2.A.begun
   rw[hls,gJ,hd.o5]
   exact hll
 . intro j hj
   show (fM ls j).slot=(j:Int)
   rw[hold j hj]
   exact h.slot j ((hin j).1 hj).1
 . intro j
   show (fM ls j).ok
   rw[hat]
   split
   . exact⟨lV (by show _/\_;decide),qE (by show _/\_;decide),qE (by show _/\_;decide),qE (by show _/\_;decide),lV (by show _/\_;decide),lV (by show _/\_;decide),lV (by show _/\_;decide)⟩
   . exact h.Gj j
 . intro j hj
   show (fM ls j).u≠(fM ls j).v
   rw[hold j hj]
   exact h.ne j ((hin j).1 hj).1
 . intro x
   show t2.mem x↔∃ j,aw2.A.ia j/\(fM ls j).at x
   rw[o2.mem,o1.mem]
   have hex:(∃ j,aw2.A.ia j/\(fM ls j).at x)↔(fU im2 x).2≠[]:=by
    constructor
    . rintro⟨j,hj⟩ e
      have:=(hinc2 x j).2 hj
      rw[e]at this
      simp at this
    . intro hne9
      obtain⟨j,hj⟩:=KB _ hne9
      exact⟨j,(hinc2 x j).1 hj⟩
   rw[hex]
   constructor
   . rintro⟨⟨h1,h2⟩,h3⟩
     by_cases hv:x=(fM s.live i).v
     . rw[hv];exact h3 hv
     . by_cases hu:x=(fM s.live i).u
       . have h4:=h2 hu
         intro e
         obtain⟨j,hj⟩:=KB _ h4
         have:j∈(fU im2 x).2:=(o2.get x j).2 ⟨by rw[hu];exact hj,fun e2=>absurd e2 hv⟩
         rw[e]at this
         simp at this
       . obtain⟨j,hj,hjx⟩:=(h.mem x).1 h1
         intro e
         have:j∈(fU im2 x).2:=(hinc x j).2 ⟨(h.inc x j).2 ⟨hj,hjx⟩,fun e2=>absurd e2 hu,fun e2=>absurd e2 hv⟩
         rw[e]at this
         simp at this
   . intro h1
     obtain⟨j,hj⟩:=KB _ h1
     have h2:=(hinc x j).1 hj
     have h3:=(h.inc x j).1 h2.1
     refine⟨⟨(h.mem x).2 ⟨j,h3.1,h3.2⟩,fun e=>?_⟩,fun e=>by rw[<-e];exact h1⟩
     intro e2
     have:j∈(fU im1 x).2:=((o2.get x j).1 hj).1
     rw[e,e2]at this
     simp at this
 . intro j hj
   show (fM ls j).seq<=s.last
   rw[hold j hj]
   exact h.seq j ((hin j).1 hj).1
 . intro a b hja hjb
   show (fM ls a).seq=(fM ls b).seq->a=b
   rw[hold a hja,hold b hjb]
   exact h.Fe a b ((hin a).1 hja).1 ((hin b).1 hjb).1
 . rintro⟨j,hj,hx⟩
   change fM ls j=x at hx
   rw[hold j hj]at hx
   have h1:=(hin j).1 hj
   refine⟨⟨j,h1.1,hx⟩,?_⟩
   rw[<-hx,h.slot j h1.1]
   intro e
   exact h1.2 o_
 . rintro⟨⟨j,hj,hx⟩,hs⟩
   have hji:j≠i:=by
    rintro rfl
    rw[<-hx,h.slot j hj]at hs
    exact hs rfl
   have h1:=(hin j).2 ⟨hj,hji⟩
   exact⟨j,h1,by show fM ls j=x;rw[hold j h1];exact hx⟩
end
theorem Ho{xs:List Nat}{i:Nat}(h:i∈xs)(hn:xs.Nodup):∃ k,xs[k]? = some i/\(gx xs)[k]? = some (i:Int)/\∀ (j:Nat) (y:Int),j<k->(gx xs)[j]? = some y->y≠(i:Int):=by
 obtain⟨k,hk,e⟩:=List.getElem_of_mem h
 refine⟨k,by rw[zo hk,e],by simp[gx,kX,zo hk,e],fun j y hj hy hyi=>?_⟩
 simp only[gx,kX,Option.map_eq_some_iff]at hy
 obtain⟨a,ha,rfl⟩:=hy
 obtain⟨hjl,hja⟩:=zb.1 ha
 have:j=k:=IY hn hjl hk (by rw[hja,e];omega)
 omega
theorem G1{xs:List Nat}(h:∀ j∈xs,j<65536):∀ y∈gx xs,ij .i64 y:=by
 intro y hy
 obtain⟨j,hj,rfl⟩:=jW.1 hy
 have:=h j hj
 exact lV o_
theorem Jb{fO fN:Nat}{s:fZ}(h:s.ok fO fN){id:Int}{P:Nat->Prop}(hs:∀ j,P j->j∈s.inc id){j:Nat}(hj:P j):j<65536:=by
 have h1:=((h.inc id j).1 (hs j hj)).1.1
 have:=h.lX.le
 have:=h.n
 have:=h.en
 omega
theorem inc_le{fO fN:Nat}{s:fZ}(h:s.ok fO fN){im1:IM}{t1:TW}{id:Int}{i:Nat}(o:nG s.im s.t im1 t1 id i)(c:Int):(fU im1 c).2.length<=65536:=by
 refine z1 (BN s.A.begun _ (o.nd h.nd c) fun j hj=>((h.inc c j).1 ((o.get c j).1 hj).1).1.1) ?_
 have:=h.lX.le
 have:=h.n
 have:=h.en
 omega
theorem fZ.vN{fO fN:Nat}{aw:AW}{t:TW}(ha:aw.A=As.new fN)(hto:t.ok)(htm:∀ x,¬ t.mem x)(htn:t.A.n=fO)(he:fN<=16384)(hv:fO<=4096)(iO tb ab mb:Nat) :
 fZ.ok fO fN ⟨iO,tb,ab,mb,.slice none 0 0,0,aw,t,[],[]⟩/\∀ x,¬ fZ.has ⟨iO,tb,ab,mb,.slice none 0 0,0,aw,t,[],[]⟩ x:=by
 have hin:∀ j,¬ aw.A.ia j:=fun j hj=>by rw[ha]at hj;exact absurd hj.1 (by simp[As.new])
 have hd:∀ j,fM ([]:List Lv) j=⟨0,0,0,0,0,0,0⟩:=fun j=>rfl
 refine⟨⟨?_,htn,he,hv,?_,hto,?_,?_,?_,?_,?_,?_,?_,?_,?_,?_,?_,?_⟩,fun x ⟨j,hj,_⟩=>hin j hj⟩
 . show aw.A.n=fN;rw[ha];rfl
 . show aw.A.ok;rw[ha];exact As.vN o_
 . show ([]:List Lv).length=aw.A.begun;rw[ha];rfl
 . exact fun j hj=>absurd hj (hin j)
 . intro j
   show Lv.ok (⟨0,0,0,0,0,0,0⟩:Lv)
   exact⟨lV (by show _/\_;decide),qE (by show _/\_;decide),qE (by show _/\_;decide),qE (by show _/\_;decide),lV (by show _/\_;decide),lV (by show _/\_;decide),lV (by show _/\_;decide)⟩
 . exact fun j hj=>absurd hj (hin j)
 . exact fun id=>⟨fun h=>absurd h (htm id),fun⟨j,hj,_⟩=>absurd hj (hin j)⟩
 . exact wO
 . exact fun id j=>⟨fun h=>(by cases h),fun h=>absurd h.1 (hin j)⟩
 . exact fun id=>wO
 . exact fun id=>⟨fun _=>rfl,fun _=>rfl⟩
 . exact fun j hj=>absurd hj (hin j)
 . exact fun j _ hj=>absurd hj (hin j)
 . exact yX 0
end Go.Sx
namespace Go.Sx
open Go
theorem BA:∀ (L M:List Int),L.Nodup->(∀ j∈L,j∈M)->L.length<=M.length
 | [],_,_,_=>by simp
 | x :: L,M,hn,h=>by
  have hx:=h x s_
  have h1:=BA L (M.erase x) (zx.1 hn).2 (fun j hj=>(List.mem_erase_of_ne (fun e=>(zx.1 hn).1 (by rw[<-e];exact hj))).2 (h j (by simp[hj])))
  rw[KN hx]at h1
  have:=Kx hx
  simp only[zk]
  omega
def TW.tL(t:TW):List Int:=(t.A.list t.A.begun).map (fM t.ids)
theorem TW.NY{t:TW}(hA:t.A.ok)(x:Int):x∈t.tL↔t.mem x:=by
 unfold TW.tL TW.mem
 rw[jW]
 exact⟨fun⟨i,h1,h2⟩=>⟨i,(hA.pK i).1 h1,h2⟩,fun⟨i,h1,h2⟩=>⟨i,(hA.pK i).2 h1,h2⟩⟩
theorem TW.NG{t:TW}(hA:t.A.ok):t.tL.length=t.A.used:=by rw[TW.tL,zu,hA.DK]
theorem GH{α β:Type}{f:α->β}:∀ {l:List α},l.Nodup->(∀ x∈l,∀ y∈l,f x=f y->x=y)->(l.map f).Nodup
 | [],_,_=>wO
 | a :: l,h,hf=>by
  rw[zy,zx]
  refine⟨fun hm=>?_,GH (zx.1 h).2 fun x hx y hy=>hf x (by simp[hx]) y (by simp[hy])⟩
  obtain⟨b,hb,e⟩:=jW.1 hm
  have:=hf b (by simp[hb]) a s_ e
  subst this
  exact(zx.1 h).1 hb
theorem TW.TK{t:TW}(h:t.ok)(hA:t.A.ok):t.tL.Nodup :=
 GH ((t.A.Dh _).imp fun h=>C7 h) fun x hx y hy e=>h.uniq x y ((hA.pK x).1 hx) ((hA.pK y).1 hy) e
theorem TW.Pm{t:TW}(h:t.ok)(hA:t.A.ok){u v:Int}(huv:u≠v):∃ K:List Int,K.Nodup/\K.length=t.A.used+(t.cnt u+t.cnt v)/\∀ x,x∈K↔t.mem x\/x=u\/x=v:=by
 have hn:=TW.TK h hA
 have hl:=TW.NG hA
 have hm:=TW.NY hA
 by_cases hu:t.mem u<;>by_cases hv:t.mem v
 . rw[TW.Ab hu,TW.Ab hv]
   refine⟨t.tL,hn,o_,fun x=>(hm x).trans ⟨.inl,?_⟩⟩
   rintro(h1|rfl|rfl)
   . exact h1
   . exact hu
   . exact hv
 . rw[TW.Ab hu,TW.vL hv]
   refine⟨v :: t.tL,zx.2 ⟨fun h1=>hv ((hm v).1 h1),hn⟩,by simp;omega,fun x=>?_⟩
   rw[zg,hm]
   constructor
   . rintro(h1|h1)
     . exact .inr (.inr h1)
     . exact .inl h1
   . rintro(h1|rfl|h1)
     . exact .inr h1
     . exact .inr hu
     . exact .inl h1
 . rw[TW.vL hu,TW.Ab hv]
   refine⟨u :: t.tL,zx.2 ⟨fun h1=>hu ((hm u).1 h1),hn⟩,by simp;omega,fun x=>?_⟩
   rw[zg,hm]
   constructor
   . rintro(h1|h1)
     . exact .inr (.inl h1)
     . exact .inl h1
   . rintro(h1|h1|rfl)
     . exact .inr h1
     . exact .inl h1
     . exact .inr hv
 . rw[TW.vL hu,TW.vL hv]
   refine⟨u :: v :: t.tL,zx.2 ⟨fun h1=>?_,zx.2 ⟨fun h1=>hv ((hm v).1 h1),hn⟩⟩,by simp;omega,fun x=>?_⟩
   . rcases zg.1 h1 with h2|h2
     . exact huv h2
     . exact hu ((hm u).1 h2)
   . rw[zg,zg,hm]
     constructor
     . rintro(h1|h1|h1)
       . exact .inr (.inl h1)
       . exact .inr (.inr h1)
       . exact .inl h1
     . rintro(h1|h1|h1)
       . exact .inr (.inr h1)
       . exact .inl h1
       . exact .inr (.inl h1)
section
variable {fO fN:Nat} {s s1 s2:fZ}
theorem fZ.ok.xl(h:s.ok fO fN){x:Lv}(hx:s.has x):∃ i:Nat,x.slot=(i:Int)/\s.A.ia i/\fM s.live i=x/\i<fN:=by
 obtain⟨i,hi,rfl⟩:=hx
 refine⟨i,h.slot i hi,hi,rfl,?_⟩
 have:=hi.1
 have:=h.lX.le
 have:=h.n
 omega
theorem fZ.ok.HX(h:s.ok fO fN){x y:Lv}(hx:s.has x)(hy:s.has y)(e:x.slot=y.slot):x=y:=by
 obtain⟨i,h1,_,h3,_⟩:=h.xl hx
 obtain⟨j,g1,_,g3,_⟩:=h.xl hy
 have:i=j:=by omega
 subst this
 rw[<-h3,<-g3]
theorem fZ.ok.OV(h:s.ok fO fN){x:Lv}(hx:s.has x):x.seq<=s.last:=by
 obtain⟨i,hi,rfl⟩:=hx
 exact h.seq i hi
theorem fZ.ok.zU(h:s.ok fO fN){x:Lv}(hx:s.has x):x.ok/\x.u≠x.v:=by
 obtain⟨i,hi,rfl⟩:=hx
 exact⟨h.Gj i,h.ne i hi⟩
theorem fZ.Wp(h1:s1.ok fO fN)(h2:s2.ok fO fN)(hs:∀ x,s1.has x->s2.has x):s1.A.used<=s2.A.used:=by
 rw[<-h1.lX.DK,<-h2.lX.DK]
 refine DB _ _ ((s1.A.Dh _).imp fun h=>C7 h) fun i hi=>?_
 have hi1:=(h1.lX.pK i).1 hi
 obtain⟨j,hj,e⟩:=hs _ ⟨i,hi1,rfl⟩
 have h3:=h2.slot j hj
 rw[e,h1.slot i hi1]at h3
 have:i=j:=by omega
 subst this
 exact(h2.lX.pK i).2 hj
theorem fZ.UO(h1:s1.ok fO fN)(hA1:s1.t.A.ok)(h2:s2.ok fO fN)(hA2:s2.t.A.ok)(hs:∀ x,s1.has x->s2.has x){u v:Int}(hc:s2.gG fO fN u v=0):s1.gG fO fN u v=0:=by
 obtain⟨c1,c2,c3⟩:=fZ.MZ hc
 have hu:=fZ.Wp h1 h2 hs
 obtain⟨K1,k1,k2,k3⟩:=TW.Pm h1.tok hA1 c1
 obtain⟨K2,g1,g2,g3⟩:=TW.Pm h2.tok hA2 c1
 have hK:K1.length<=K2.length:=BA K1 K2 k1 fun x hx=>(g3 x).2 ((k3 x).1 hx |>.imp_left fun hm=>by
  obtain⟨i,hi,ha⟩:=(h1.mem x).1 hm
  obtain⟨j,hj,e⟩:=hs _ ⟨i,hi,rfl⟩
  exact(h2.mem x).2 ⟨j,hj,by rw[e];exact ha⟩)
 exact fZ.B5 c1 o_ o_
structure fZ.nD (s:fZ) (L:List Lv):Prop where
 mem:∀ x,x∈L↔s.has x
 AJ:L.Pairwise fun a b=>a.seq<b.seq
theorem fZ.nD.nodup{L:List Lv}(h:s.nD L):L.Nodup:=h.AJ.imp fun {a b} hlt e=>by rw[e]at hlt;omega
theorem fZ.nD.slots{L:List Lv}(hl:s.nD L)(h:s.ok fO fN):(L.map Lv.slot).Nodup :=
 GH hl.nodup fun x hx y hy e=>h.HX ((hl.mem x).1 hx) ((hl.mem y).1 hy) e
theorem fZ.nD.len{L:List Lv}(hl:s.nD L)(h:s.ok fO fN):L.length<=fN:=by
 have h1:(L.map Lv.slot).length<=((List.range fN).map fun i:Nat=>(i:Int)).length:=BA _ _ (hl.slots h) fun j hj=>by
  obtain⟨x,hx,rfl⟩:=jW.1 hj
  obtain⟨i,e,_,_,hi⟩:=h.xl ((hl.mem x).1 hx)
  rw[e]
  exact jW.2 ⟨i,ni.2 hi,rfl⟩
 simpa using h1
theorem fZ.X0{ys:List Lv}(h:s.ok fO fN)(hp:ys.Perm ((s.A.list s.A.begun).map (fM s.live)))(hs:ys.Pairwise fun a b=>a.seq<=b.seq):s.nD ys:=by
 refine⟨fun x=>?_,?_⟩
 . rw[hp.mem_iff,jW]
   exact⟨fun⟨i,h1,h2⟩=>⟨i,(h.lX.pK i).1 h1,h2⟩,fun⟨i,h1,h2⟩=>⟨i,(h.lX.pK i).2 h1,h2⟩⟩
 . have h1:((s.A.list s.A.begun).map (fM s.live)).Pairwise fun a b=>a.seq≠b.seq:=by
    rw[List.pairwise_map]
    refine(s.A.Dh _).imp_of_mem fun {a b} ha hb hlt e=>?_
    have:=h.Fe a b ((h.lX.pK a).1 ha) ((h.lX.pK b).1 hb) e
    omega
   have h2:ys.Pairwise fun a b=>a.seq≠b.seq:=hp.symm.pairwise h1 fun {a b} hne e=>hne e.symm
   exact(hs.and h2).imp fun {a b} h=>by have:=h.1;have:=h.2;omega
theorem SG{α β:Type}[Inhabited α]{l:List α}(f:α->β){k:Nat}(hk:k<l.length):(l.take (k+1)).map f=(l.take k).map f++[f (fM l k)]:=by
 have h1:l[k]? = some (fM l k):=gA hk
 rw[yO,h1]
 simp
theorem fZ.nD.VC{L:List Lv}(hl:s.nD L)(h:s.ok fO fN)(hA:s.t.A.ok){K:List Int}(hn:K.Nodup)(hK:∀ y∈K,∃ x∈L,x.u=y\/x.v=y):K.length<=fO:=by
 have h1:K.length<=s.t.tL.length:=BA _ _ hn fun y hy=>by
  obtain⟨x,hx,e⟩:=hK y hy
  obtain⟨i,hi,rfl⟩:=(hl.mem x).1 hx
  exact(TW.NY hA y).2 ((h.mem y).2 ⟨i,hi,e⟩)
 rw[TW.NG hA]at h1
 have:=h.tok.ul
 have:=h.tn
 omega
end
end Go.Sx
namespace Go.Sx
open Go
structure QS where
 iv:Value
 pv:Value
 ps:List (Option Nat)
 fP:List gj
 pl:List Nat
structure QS.ok (n:Nat) (s:QS):Prop where
 hp:Hp n s.fP s.pl
 kG:js n s.ps s.pl
 ord:Ord s.fP
theorem QS.ok.free{n:Nat}{s:QS}(h:s.ok n){i:Nat}(hi:i<n)(hf:∀ e∈s.fP,e.ix≠i):fM s.pl i=0:=by
 rcases wK (fM s.pl i)with h0|h0
 . exact h0
 . obtain⟨h1,h2⟩:=h.hp.of i (fM s.pl i-1) hi o_
   exact absurd h2 (hf _ (q6.2 ⟨_,h1,rfl⟩))
theorem QS.ok.lt{n:Nat}{s:QS}(h:s.ok n){e:gj}(he:e∈s.fP):e.ix<n:=by
 obtain⟨p,hp,rfl⟩:=q6.1 he
 exact h.hp.ix p hp
theorem QS.ok.inj{n:Nat}{s:QS}(h:s.ok n){e f:gj}(he:e∈s.fP)(hf:f∈s.fP)(hx:e.ix=f.ix):e=f:=by
 obtain⟨p,hp,rfl⟩:=q6.1 he
 obtain⟨q,hq,rfl⟩:=q6.1 hf
 rw[h.hp.inj hp hq hx]
structure uN (s0 s:List gj) (ds:List Nat) (now:Int):Prop where
 rest:∀ e,e∈s↔e∈s0/\e.ix∉ds
 KD:∀ i∈ds,∃ e∈s0,e.ix=i/\e.key<=now
 nd:ds.Nodup
 len:s.length+ds.length=s0.length
theorem uN.start(s:List gj)(now:Int):uN s s [] now:=⟨fun e=>by simp,fun i hi=>by simp at hi,wO,s_⟩
theorem uN.step{s0 s s1:List gj}{ds:List Nat}{now:Int}(h:uN s0 s ds now)(h0:0<s.length)(hk:(fM s 0).key<=now)(hm:∀ e,e∈s1↔e∈s/\e.ix≠(fM s 0).ix)(hl:s1.length+1=s.length):uN s0 s1 (ds++[(fM s 0).ix]) now:=by
 have hin:fM s 0∈s:=q6.2 ⟨0,h0,rfl⟩
 have hin0:=(h.rest _).1 hin
 refine⟨fun e=>?_,fun i hi=>?_,?_,?_⟩
 . rw[hm,h.rest,zr,mj,not_or,and_assoc]
 . rcases zr.1 hi with h1|h1
   . exact h.KD i h1
   . rw[mj]at h1
     subst h1
     exact⟨_,hin0.1,rfl,hk⟩
 . refine zw.2 ⟨h.nd,s_,?_⟩
   intro a ha b hb
   rw[mj]at hb
   subst hb
   rintro rfl
   exact hin0.2 ha
 . have:=h.len
   rw[zn]
   simp
   omega
structure qG (n:Nat) (s0 s:QS) (ds:List Nat) (now:Int):Prop where
 ok:s.ok n
 rest:∀ e,e∈s.fP↔e∈s0.fP/\now<e.key
 out:∀ i,i∈ds↔∃ e∈s0.fP,e.ix=i/\e.key<=now
 nd:ds.Nodup
 len:ds.length<=n
theorem uN.fin{n:Nat}{s0 s:QS}{ds:List Nat}{now:Int}(h:uN s0.fP s.fP ds now)(h0:s0.ok n)(h1:s.ok n)(hd:s.fP.length=0\/now<(fM s.fP 0).key):qG n s0 s ds now:=by
 have hall:∀ e∈s.fP,now<e.key:=by
  intro e he
  rcases hd with h2|h2
  . rw[KY]at h2;rw[h2]at he;simp at he
  . have:=h1.ord.min he
    unfold iI at this
    omega
 have hr:∀ e,e∈s.fP↔e∈s0.fP/\now<e.key:=by
  intro e
  constructor
  . intro he;exact⟨((h.rest e).1 he).1,hall e he⟩
  . rintro⟨he,hk⟩
    refine(h.rest e).2 ⟨he,fun hx=>?_⟩
    obtain⟨f,hf,hfx,hfk⟩:=h.KD _ hx
    have:=h0.inj he hf hfx.symm
    subst this
    omega
 refine⟨h1,hr,fun i=>⟨h.KD i,?_⟩,h.nd,?_⟩
 . rintro⟨e,he,rfl,hk⟩
   by_cases hx:e.ix∈ds
   . exact hx
   . have:=hall e ((h.rest e).2 ⟨he,hx⟩)
     omega
 . have:=h.len
   have:=h0.hp.len
   omega
end Go.Sx
namespace Go.Sx
open Go
structure Ed where
 a:Nat
 b:Nat
 exp:Int
 tree:Bool
 deriving Inhabited
def Ed.enc(e:Ed):Value:=.agg #[.int .i64 (e.a:Int),.int .i64 (e.b:Int),.int .i64 e.exp,.bool e.tree]
structure GW where
 fb:Nat
 nb:Nat
 hb:Nat
 mb:Nat
 trees:Int
 q:QS
 m:List (Int×Ed)
structure Ed.In (fO:Nat) (e:Ed):Prop where
 a:e.a<fO
 b:e.b<fO
 exp:ij .i64 e.exp
structure GW.ok (fO fN:Nat) (g:GW):Prop where
 v2:2<=fO
 vn:fO<=4096
 en:fN<=16384
 ed:∀ p∈g.m,p.2.In fO
theorem GW.ok.get{fO fN:Nat}{g:GW}(h:g.ok fO fN)(k:Int):(fU g.m k).In fO:=by
 unfold fU
 cases hm:ig g.m k with
 | none=>exact⟨z6 d_ h.v2,z6 d_ h.v2,⟨d_,d_⟩⟩
 | some x=>exact h.ed _ (Nv hm)
theorem GW.ok.put{fO fN:Nat}{g:GW}(h:g.ok fO fN){k:Int}{e:Ed}(he:e.In fO){fb nb hb mb:Nat}{tr:Int}{q:QS}:GW.ok fO fN ⟨fb,nb,hb,mb,tr,q,gi g.m k e⟩ :=
 ⟨h.v2,h.vn,h.en,fun p hp=>by
  rcases zg.1 ((L7 g.m k e).mem_iff.1 hp)with rfl|h1
  . exact he
  . exact h.ed p ((HM g.m k).subset h1)⟩
theorem GW.ok.del{fO fN:Nat}{g:GW}(h:g.ok fO fN){k:Int}{fb nb hb mb:Nat}{tr:Int}{q:QS}:GW.ok fO fN ⟨fb,nb,hb,mb,tr,q,gH g.m k⟩ :=
 ⟨h.v2,h.vn,h.en,fun p hp=>h.ed p ((HM g.m k).subset hp)⟩
theorem GW.ok.same{fO fN:Nat}{g:GW}(h:g.ok fO fN){fb nb hb mb:Nat}{tr:Int}{q:QS}:GW.ok fO fN ⟨fb,nb,hb,mb,tr,q,g.m⟩:=⟨h.v2,h.vn,h.en,h.ed⟩
end Go.Sx
namespace Go.Sx
open Go
def pZ(a b:Int):Int×Int:=if -9223372036854775808<=a+b/\a+b<=9223372036854775807 then(a+b,0)else(0,7)
theorem zS{a b:Int}(h : -9223372036854775808<=a+b/\a+b<=9223372036854775807):pZ a b=(a+b,0):=if_pos h
theorem NA{a b:Int}(h:¬ (-9223372036854775808<=a+b/\a+b<=9223372036854775807)):pZ a b=(0,7):=if_neg h
def rE(win now to:Int):Int:=if to<now then 10 else(pZ to win).2
end Go.Sx
namespace Go.Sx
open Go
structure WC where
 win:Int
 fN:Nat
 fO:Nat
 ic:Int
structure WW where
 cb:Nat
 ub:Nat
 sb:Nat
 hb:Nat
 ob:Nat
 now:Int
 q:QS
 u:fZ
 g:GW
 added:Int
 xA:Int
def ES(u:fZ)(q:QS):Prop:=∀ e:gj,e∈q.fP↔∃ x,u.has x/\x.slot=(e.ix:Int)/\x.exp=e.key
structure WW.ok (c:WC) (s:WW):Prop where
 w1:1<=c.win
 wi:c.win<=1000000
 e1:1<=c.fN
 en:c.fN<=16384
 v2:2<=c.fO
 vn:c.fO<=4096
 n0:0<=s.now
 n1:s.now<=1000000
 a0:0<=s.added
 a1:s.added<=1000000
 ex:ij .u64 s.xA
 la:s.u.last<=s.added
 AY:ES s.u s.q
 live:∀ x,s.u.has x->x.t<=s.now/\s.now<x.exp/\x.exp=x.t+c.win/\0<=x.t
 ord:∀ x y,s.u.has x->s.u.has y->x.seq<y.seq->x.t<=y.t
structure o6 (u u2:fZ) (ds:List Nat):Prop where
 has:∀ x,u2.has x↔u.has x/\∀ i∈ds,x.slot≠(i:Int)
 last:u2.last=u.last
theorem o6.start(u:fZ):o6 u u []:=⟨fun x=>by simp,rfl⟩
theorem o6.next{u u2 u3:fZ}{ds:List Nat}{i:Nat}(h:o6 u u2 ds)(h2:∀ x,u3.has x↔u2.has x/\x.slot≠(i:Int))(hl:u3.last=u2.last):o6 u u3 (ds++[i]) :=
 ⟨fun x=>by
  rw[h2,h.has,and_assoc]
  refine and_congr_right fun _=>⟨fun⟨a,b⟩ j hj=>?_,fun h=>⟨fun j hj=>h j (by simp[hj]),h i s_⟩⟩
  rcases zr.1 hj with hj|hj
  . exact a j hj
  . rw[mj]at hj;subst hj;exact b,hl.trans h.last⟩
theorem o6.fin{fO fN n:Nat}{u u2:fZ}{q q2:QS}{ds:List Nat}{t:Int}(h:o6 u u2 ds)(hs:ES u q)(hu:u.ok fO fN)(hd:qG n q q2 ds t):∀ x,u2.has x↔u.has x/\t<x.exp:=by
 intro x
 rw[h.has]
 refine and_congr_right fun hx=>?_
 obtain⟨i,hi,_,_,_⟩:=hu.xl hx
 have he:(⟨i,x.exp⟩:gj)∈q.fP:=(hs _).2 ⟨x,hx,hi,rfl⟩
 constructor
 . intro h1
   by_cases h2:t<x.exp
   . exact h2
   . exact absurd hi (h1 i ((hd.out i).2 ⟨_,he,rfl,Int.not_lt.1 h2⟩))
 . intro h1 j hj e
   obtain⟨f,hf,hfx,hfk⟩:=(hd.out j).1 hj
   obtain⟨y,hy,hys,hye⟩:=(hs f).1 hf
   have:x=y:=hu.HX hx hy (by rw[e,hys,hfx])
   subst this
   omega
theorem o6.can{fO fN n:Nat}{u u2:fZ}{q q2:QS}{ds:List Nat}{t:Int}{k i:Nat}(h:o6 u u2 (ds.take k))(hs:ES u q)(hu2:u2.ok fO fN)(hd:qG n q q2 ds t)(hk:ds[k]? = some i):u2.A.ia i:=by
 obtain⟨hkl,hke⟩:=zb.1 hk
 obtain⟨f,hf,hfx,hfk⟩:=(hd.out i).1 (ze hk)
 obtain⟨x,hx,hxs,hxe⟩:=(hs f).1 hf
 rw[hfx]at hxs
 have hx2:u2.has x:=(h.has x).2 ⟨hx,fun j hj e=>by
  obtain⟨a,ha,haj⟩:=List.getElem_of_mem hj
  have hak:a<k/\a<ds.length:=by
   rw[l5]at ha
   omega
  rw[List.getElem_take]at haj
  have hji:j=i:=by omega
  have:=IY hd.nd hak.2 hkl (by rw[haj,hke,hji])
  omega⟩
 obtain⟨j,hj,hju,_,_⟩:=hu2.xl hx2
 have:j=i:=by omega
 subst this
 exact hju
section
variable {c:WC} {s:WW}
theorem WW.ok.tick(h:s.ok c){T:Int}(hT:s.now<=T)(hT2:T<=1000000){u2:fZ}{q2:QS}{g2:GW}{ds:List Nat}{n:Nat}{ex:Int}(hex:ij .u64 ex)(hd:qG n s.q q2 ds T)(hu:∀ x,u2.has x↔s.u.has x/\T<x.exp)(hl:u2.last=s.u.last) :
 WW.ok c ⟨s.cb,s.ub,s.sb,s.hb,s.ob,T,q2,u2,g2,s.added,ex⟩:=by
 have hn0:=h.n0
 refine⟨h.w1,h.wi,h.e1,h.en,h.v2,h.vn,by show 0<=T;omega,hT2,h.a0,h.a1,hex,by show u2.last<=_;rw[hl];exact h.la,fun e=>?_,fun x hx=>?_,fun x y hx hy=>h.ord x y ((hu x).1 hx).1 ((hu y).1 hy).1⟩
 . show e∈q2.fP↔∃ x,u2.has x/\_
   rw[hd.rest,h.AY]
   constructor
   . rintro⟨⟨x,h1,h2,h3⟩,h4⟩
     exact⟨x,(hu x).2 ⟨h1,o_⟩,h2,h3⟩
   . rintro⟨x,h1,h2,h3⟩
     have h4:=(hu x).1 h1
     exact⟨⟨x,h4.1,h2,h3⟩,o_⟩
 . have h1:=(hu x).1 hx
   have h2:=h.live x h1.1
   show x.t<=T/\T<x.exp/\_
   exact⟨o_,h1.2,h2.2.2⟩
theorem WW.ok.free(h:s.ok c)(hu:s.u.ok c.fO c.fN){u2:fZ}(hu2:u2.ok c.fO c.fN){i:Nat}{e:Lv}(hes:e.slot=(i:Int))(heq:e.seq=s.u.last+1)(hh:∀ y,u2.has y↔s.u.has y\/y=e):∀ f∈s.q.fP,f.ix≠i:=by
 intro f hf e1
 obtain⟨x,hx,hxs,_⟩:=(h.AY f).1 hf
 have:x=e:=hu2.HX ((hh x).2 (.inl hx)) ((hh e).2 (.inr rfl)) (by rw[hxs,hes,e1])
 subst this
 have:=hu.OV hx
 omega
theorem WW.ok.ins(h:s.ok c)(hu:s.u.ok c.fO c.fN){u2:fZ}{q2:QS}{g2:GW}{i:Nat}{e:Lv}(hes:e.slot=(i:Int))(heq:e.seq=s.u.last+1)(het:e.t=s.now)(hee:e.exp=s.now+c.win)(hh:∀ y,u2.has y↔s.u.has y\/y=e)(hl:u2.last=s.u.last+1)
 (hq:∀ f,f∈q2.fP↔f∈s.q.fP\/f=⟨i,e.exp⟩) (ha:s.added<1000000):WW.ok c ⟨s.cb,s.ub,s.sb,s.hb,s.ob,s.now,q2,u2,g2,s.added+1,s.xA⟩:=by
 have ha0:=h.a0
 have hla:=h.la
 have hn0:=h.n0
 have hw1:=h.w1
 refine⟨h.w1,h.wi,h.e1,h.en,h.v2,h.vn,h.n0,h.n1,by show 0<=s.added+1;omega,by show s.added+1<=_;omega,h.ex,by show u2.last<=s.added+1;omega,fun f=>?_,fun x hx=>?_,fun x y hx hy=>?_⟩
 . show f∈q2.fP↔∃ x,u2.has x/\_
   rw[hq,h.AY]
   constructor
   . rintro(⟨x,h1,h2⟩|rfl)
     . exact⟨x,(hh x).2 (.inl h1),h2⟩
     . exact⟨e,(hh e).2 (.inr rfl),hes,rfl⟩
   . rintro⟨x,h1,h2,h3⟩
     rcases(hh x).1 h1 with h4|rfl
     . exact .inl ⟨x,h4,h2,h3⟩
     . right
       obtain⟨a,b⟩:=f
       simp only at h2 h3
       have:a=i:=by omega
       subst this
       rw[h3]
 . show x.t<=s.now/\s.now<x.exp/\_
   rcases(hh x).1 hx with h4|rfl
   . exact h.live x h4
   . exact⟨o_,o_,o_,o_⟩
 . change u2.has x at hx
   change u2.has y at hy
   rcases(hh x).1 hx with h4|rfl<;>rcases(hh y).1 hy with h5|rfl
   . exact h.ord x y h4 h5
   . intro _
     have:=(h.live x h4).1
     omega
   . have:=hu.OV h5
     intro h6
     omega
   . intro _;omega
end
theorem WW.vN{c:WC}(w1:1<=c.win)(wi:c.win<=1000000)(e1:1<=c.fN)(en:c.fN<=16384)(v2:2<=c.fO)(vn:c.fO<=4096){u:fZ}{q:QS}{g:GW}(hu:∀ y,¬ u.has y)(hl:u.last=0)(hq:q.fP=[])(cb ub sb hb ob:Nat):WW.ok c ⟨cb,ub,sb,hb,ob,0,q,u,g,0,0⟩ :=
 ⟨w1,wi,e1,en,v2,vn,yX 0,by show (0:Int)<=1000000;decide,yX 0,by show (0:Int)<=1000000;decide,qE ⟨yX 0,by show (0:Int)<=18446744073709551615;decide⟩,by show u.last<=0;omega,fun e=>⟨fun h=>by change e∈q.fP at h;rw[hq]at h;simp at h,fun⟨x,h,_⟩=>absurd h (hu x)⟩,fun x h=>absurd h (hu x),fun x y h=>absurd h (hu x)⟩
structure WW.Step (s s2:WW) (r:Lv):Prop where
 now:s2.now=s.now\/s2.now=r.t
 added:s2.added<=s.added+1
 has:∀ x,s2.u.has x->s.u.has x\/(x.u=r.u/\x.v=r.v)
theorem WW.Step.same(s:WW)(r:Lv):WW.Step s s r:=⟨.inl rfl,o_,fun x h=>.inl h⟩
theorem U1(x:Int):ij .u64 (IntKind.u64.wrap x):=by
 rw[IntKind.wrap_u64]
 exact qE o_
theorem NT{win now t:Int}(h1:now<=t)(h2 : -9223372036854775808<=t+win/\t+win<=9223372036854775807):rE win now t=0:=by
 unfold rE
 rw[if_neg o_,zS h2]
theorem qG.OJ{n:Nat}{q q2 t:QS}{ds:List Nat}{now:Int}(h:qG n q2 t ds now)(e:q2.fP=q.fP):qG n q t ds now :=
 ⟨h.ok,by rw[<-e];exact h.rest,by rw[<-e];exact h.out,h.nd,h.len⟩
theorem TW.wC.lt{t:TW}{id:Int}{z:Nat}{b:Bool}(h:t.wC id z b)(hok:t.ok)(hp:0<t.A.n):z<t.A.n:=by
 rcases h with ⟨_,h,_⟩|⟨_,rfl,_⟩
 . exact z6 h.1 hok.o5
 . exact hp
def Room(c:WC)(s:WW)(x:Lv):Prop:=∀ u2:fZ,u2.ok c.fO c.fN->u2.t.A.ok->(∀ y,u2.has y↔s.u.has y/\x.t<y.exp)->u2.gG c.fO c.fN x.u x.v=0
theorem Room.of{c:WC}{s:WW}{x:Lv}{u3:fZ}(h3:u3.ok c.fO c.fN)(hA:u3.t.A.ok)(hc:u3.gG c.fO c.fN x.u x.v=0)(hs:∀ y,s.u.has y/\x.t<y.exp->u3.has y):Room c s x :=
 fun u2 h2 hA2 hh=>fZ.UO h2 hA2 h3 hA (fun y hy=>hs y ((hh y).1 hy)) hc
end Go.Sx
namespace Go.Sx
open Go
theorem Ip{l:List Lv}{y:Int}:y∈jb l↔∃ x∈l,x.u=y\/x.v=y:=by
 have key:∀ (l:List Lv) (a:List Int),y∈l.foldl (fun a x=>gR (gR a x.u) x.v) a↔y∈a\/∃ x∈l,x.u=y\/x.v=y:=by
  intro l
  induction l with
  | nil=>intro a;simp
  | cons x l ih =>
   intro a
   simp only[CC]
   rw[ih,IS,IS]
   simp only[zg,exists_eq_or_imp]
   constructor
   . rintro(((h|h)|h)|h)
     . exact .inl h
     . exact .inr (.inl (.inl h.symm))
     . exact .inr (.inl (.inr h.symm))
     . exact .inr (.inr h)
   . rintro(h|(h|h)|h)
     . exact .inl (.inl (.inl h))
     . exact .inl (.inl (.inr h.symm))
     . exact .inl (.inr h.symm)
     . exact .inr h
 simpa[jb]using key l []
theorem LU(l:List Lv):(jb l).Nodup:=by
 have key:∀ (l:List Lv) (a:List Int),a.Nodup->(l.foldl (fun a x=>gR (gR a x.u) x.v) a).Nodup:=by
  intro l
  induction l with
  | nil=>intro a h;exact h
  | cons x l ih=>intro a h;exact ih _ (Mn (Mn h))
 exact key l [] wO
theorem MP(l:List Lv)(i:Nat):(jb (l.take i)).length<=(jb l).length :=
 BA _ _ (LU _) fun y hy=>by
  obtain⟨x,hx,e⟩:=Ip.1 hy
  exact Ip.2 ⟨x,Gq hx,e⟩
structure nM (c:Cf) (now:Int) (L:List Lv):Prop where
 n0:0<=now
 n1:now<=1000000
 w0:0<=c.win
 w1:c.win<=1000000
 len:(L.length:Int)<=c.fN
 AJ:L.Pairwise fun a b=>a.seq<b.seq
 aaA:L.Pairwise fun a b=>a.t<=b.t
 slots:(L.map Lv.slot).Nodup
 QI:((jb L).length:Int)<=c.fO
 el:∀ x∈L,0<=x.slot/\x.slot<c.fN/\x.u≠x.v/\x.t<=now/\now<x.exp/\x.exp=x.t+c.win/\0<=x.t
 ids:∀ x∈L,(0<=x.u/\x.u<12)/\0<=x.v/\x.v<12
 ok:∀ x∈L,x.ok
theorem I4{L:List Lv}{i:Nat}{x:Lv}{R:Lv->Lv->Prop}(hp:L.Pairwise R)(hi:L[i]? = some x)(h0:0<i):R (lY L i) x:=by
 obtain⟨h1,h2⟩:=zb.1 hi
 have h3:L[i-1]? = some (L[i-1]'o_):=zo o_
 rw[BW h3,<-h2]
 exact yP.1 hp (i-1) i o_ h1 o_
section
variable {c:Cf} {now t:Int} {L:List Lv} {i:Nat} {x:Lv}
theorem nM.new(h:nM c now L)(hi:L[i]? = some x):yG (kJ (L.take i)) x.slot=0:=by
 obtain⟨h1,h2⟩:=zb.1 hi
 refine UW fun k y hk hy e=>?_
 obtain⟨h3,h4⟩:=zb.1 hy
 have h5:=yP.1 h.slots k i (by simpa using h3) (by simpa using h1) hk
 simp only[List.getElem_map]at h5
 exact h5 (by rw[h4,h2,e])
theorem nM.uv(h:nM c now L)(hi:L[i]? = some x):((gR (gR (jb (L.take i)) x.u) x.v).length:Int)<=c.fO:=by
 rw[<-rY hi]
 have h1:=MP L (i+1)
 have h2:=h.QI
 omega
theorem nM.aaS(h:nM c now L)(hi:L[i]? = some x)(k:Int):mB { c with fN:=k } x i (lY L i).seq (kJ (L.take i)) (jb (L.take i))↔k<=(i:Int)\/k<=x.slot:=by
 have he:=h.el x (ze hi)
 have hn:=h.new hi
 have hu:=h.uv hi
 unfold mB
 constructor
 . rintro(h1|h1|h1|h1|⟨h1,h2⟩|h1|h1)
   . exact absurd h1 he.2.2.1
   . omega
   . omega
   . exact .inr h1
   . have:=I4 h.AJ hi h1;omega
   . exact .inl h1
   . exfalso;have h3:c.fO<_:=h1.2;omega
 . rintro(h1|h1)
   . exact .inr (.inr (.inr (.inr (.inr (.inl h1)))))
   . exact .inr (.inr (.inr (.inl h1)))
theorem nM.aaJ(h:nM c now L)(hi:L[i]? = some x)(k:Int):mB { c with fO:=k } x i (lY L i).seq (kJ (L.take i)) (jb (L.take i))↔((jb (L.take i)).length:Int)<=k/\k<((jb (L.take (i+1))).length:Int):=by
 have he:=h.el x (ze hi)
 have hn:=h.new hi
 have hl:=(zb.1 hi).1
 have hle:=h.len
 rw[rY hi]
 unfold mB
 constructor
 . rintro(h1|h1|h1|h1|⟨h1,h2⟩|h1|h1)
   . exact absurd h1 he.2.2.1
   . omega
   . omega
   . exfalso;have h3:c.fN<=x.slot:=h1;omega
   . have:=I4 h.AJ hi h1;omega
   . exfalso;have h3:c.fN<=(i:Int):=h1;omega
   . exact h1
 . intro h1;exact .inr (.inr (.inr (.inr (.inr (.inr h1)))))
theorem nM.iQ(h:nM c now L)(hi:L[i]? = some x)(ht:now<=t){e v:Int}:¬ mO { c with fN:=e,fO:=v } t x i (lY L i).t:=by
 have he:=h.el x (ze hi)
 have h1:=h.w1
 have h2:=h.n1
 have h3:=h.w0
 unfold mO
 show ¬ (t<x.t\/(0<i/\x.t<(lY L i).t)\/x.t+c.win < -9223372036854775808\/9223372036854775807<x.t+c.win\/x.t+c.win≠x.exp)
 rintro(h4|⟨h4,h5⟩|h4|h4|h4)
 . omega
 . have:=I4 h.aaA hi h4;omega
 . omega
 . omega
 . omega
end
def jG(kind:Int)(p:Nat->Bool):Nat->List (Int×Int)
 | 0=>[]
 | i+1=>jG kind p i++if p i then[(kind,(i:Int))]else[]
theorem um(kind:Int)(p:Nat->Bool):∀ n,(jG kind p n).length<=n
 | 0=>zp _
 | n+1=>by
  have:=um kind p n
  simp only[jG,zn]
  split<;>simp<;>omega
theorem IJ{c:Cf}{t:Int}{L:List Lv}{kind:Int}{p:Nat->Bool}(h:∀ i x,L[i]? = some x->pg c t L i x=if p i then[(kind,(i:Int))]else[]):∀ n,n<=L.length->jc c t L n=jG kind p n
 | 0,_=>rfl
 | n+1,hn=>by
  have hx:L[n]? = some (L[n]'o_):=zo o_
  rw[uj hx,IJ h n o_,h n _ hx]
  rfl
def Ka(L:List Lv)(t:Int)(i:Nat):Bool:=decide ((ndL L i).exp<=t)
where ndL (L:List Lv) (i:Nat):Lv:=(L[i]?).getD ⟨0,0,0,0,0,0,0⟩
theorem Yt{L:List Lv}{i:Nat}{x:Lv}(h:L[i]? = some x):Ka.ndL L i=x:=by simp[Ka.ndL,h]
def lE(L:List Lv)(k:Int)(i:Nat):Bool:=decide (k<=(i:Int)\/k<=(Ka.ndL L i).slot)
def mC(L:List Lv)(k:Int)(i:Nat):Bool:=decide (((jb (L.take i)).length:Int)<=k/\k<((jb (L.take (i+1))).length:Int))
section
variable {c:Cf} {now t:Int} {L:List Lv}
theorem nM.few(h:nM c now L)(k:Int):vO { c with fN:=k } now L=jG 1 (lE L k) L.length:=by
 refine IJ (fun i x hi=>?_) _ (zp _)
 have he:=(h.el x (ze hi)).2.2.2.2.1
 have h1:wj { c with fN:=k } x i (lY L i).seq (kJ (L.take i)) (jb (L.take i))=lE L k i:=by
  unfold wj lE
  rw[Yt hi]
  exact decide_eq_decide.2 (h.aaS hi k)
 have h2:tB { c with fN:=k } now x i (lY L i).t=false:=decide_eq_false (h.iQ (e:=k) (v:=c.fO) hi (yX _))
 have h3:decide (x.exp<=now)=false:=decide_eq_false o_
 simp only[pg,h1,h2,h3,rN,if_false,mD]
theorem nM.aaC(h:nM c now L)(k:Int):vO { c with fO:=k } now L=jG 1 (mC L k) L.length:=by
 refine IJ (fun i x hi=>?_) _ (zp _)
 have he:=(h.el x (ze hi)).2.2.2.2.1
 have h1:wj { c with fO:=k } x i (lY L i).seq (kJ (L.take i)) (jb (L.take i))=mC L k i:=decide_eq_decide.2 (h.aaJ hi k)
 have h2:tB { c with fO:=k } now x i (lY L i).t=false:=decide_eq_false (h.iQ (e:=c.fN) (v:=k) hi (yX _))
 have h3:decide (x.exp<=now)=false:=decide_eq_false o_
 simp only[pg,h1,h2,h3,rN,if_false,mD]
end
structure uL (c:WC) (s:WW) (k:Nat):Prop where
 now:s.now<=3*(k:Int)
 added:s.added<=(k:Int)
 ids:∀ x,s.u.has x->(0<=x.u/\x.u<12)/\0<=x.v/\x.v<12
theorem uL.next{c:WC}{s s2:WW}{k:Nat}{r:Lv}(h:uL c s k)(hs:WW.Step s s2 r)(ht:r.t<=s.now+3)(hu:0<=r.u/\r.u<12)(hv:0<=r.v/\r.v<12):uL c s2 (k+1):=by
 have h1:=h.now
 have h2:=h.added
 have h3:=hs.added
 refine⟨?_,o_,fun x hx=>?_⟩
 . rcases hs.now with e|e<;>omega
 . rcases hs.has x hx with h4|⟨h4,h5⟩
   . exact h.ids x h4
   . rw[h4,h5];exact⟨hu,hv⟩
theorem uL.list{c:WC}{s:WW}{k:Nat}{L:List Lv}(h:uL c s k)(ho:s.ok c)(hu:s.u.ok c.fO c.fN)(hA:s.u.t.A.ok)(hl:s.u.nD L):nM ⟨c.win,c.fN,c.fO,c.ic⟩ s.now L:=by
 have hm:=hl.mem
 refine⟨ho.n0,ho.n1,by have:=ho.w1;show 0<=c.win;omega,ho.wi,?_,hl.AJ,?_,hl.slots hu,?_,fun x hx=>?_,fun x hx=>h.ids x ((hm x).1 hx),fun x hx=>(hu.zU ((hm x).1 hx)).1⟩
 . have:=hl.len hu
   show (L.length:Int)<=(c.fN:Int)
   omega
 . refine hl.AJ.imp_of_mem fun {a b} ha hb hlt=>ho.ord a b ((hm a).1 ha) ((hm b).1 hb) hlt
 . have:=hl.VC hu hA (LU L) fun y hy=>Ip.1 hy
   show ((jb L).length:Int)<=(c.fO:Int)
   omega
 . have h1:=(hm x).1 hx
   obtain⟨i,e,_,_,hi⟩:=hu.xl h1
   have h2:=ho.live x h1
   refine⟨o_,?_,(hu.zU h1).2,h2⟩
   show x.slot<(c.fN:Int)
   omega
end Go.Sx
namespace Go.Sx
open Go
structure Mv where
 u:Int
 v:Int
 wt:Int
 af:Int
instance:Inhabited Mv:=⟨⟨0,0,0,0⟩⟩
def Mv.cells(x:Mv):List Value:=[.int .u8 x.u,.int .u8 x.v,.int .i8 x.wt,.int .u8 x.af]
structure Mv.ok (x:Mv):Prop where
 u:0<=x.u/\x.u<=255
 v:0<=x.v/\x.v<=255
 wt : -128<=x.wt/\x.wt<=127
 af:0<=x.af/\x.af<=255
abbrev cM:WC:=⟨20,30,10,0⟩
abbrev rQ:Cf:=⟨20,30,10,0⟩
theorem uL.start{c:WC}{s:WW}(h1:s.now=0)(h2:s.added=0)(h3:∀ y,¬ s.u.has y):uL c s 0 :=
 ⟨by rw[h1];decide,by rw[h2];decide,fun x hx=>absurd hx (h3 x)⟩
def Mv.Av(now:Int)(x:Mv):Lv:=⟨0,0,x.u%12,x.v%12,x.wt,now+x.af%4,0⟩
theorem Mv.ok.Av{x:Mv}(h:x.ok){now:Int}(h0:0<=now)(h1:now<=1000):(x.Av now).ok:=by
 have h2:=h.wt
 unfold Mv.Av
 exact⟨lV (by show _/\_;dsimp only;omega),qE (by show _/\_;dsimp only;omega),qE (by show _/\_;dsimp only;omega),qE (by show _/\_;dsimp only;omega),lV (by show _/\_;dsimp only;omega),lV (by show _/\_;dsimp only;omega),lV (by show _/\_;dsimp only;omega)⟩
end Go.Sx
namespace Go.Sx
open Go
theorem Fo.top{xs:List Nd}{F:FT}(h:Fo xs F){j:Nat}(h0:j≠0)(hj:j<xs.length):∃ r,PR (gX (gV xs F)) j r:=by
 obtain⟨m,hd⟩:=h.dep hj
 clear hj
 induction hd with
 | zero=>exact absurd rfl h0
 | @step T q j m he hjT hj0 k ih =>
  have hs:∀ v u,nw (gz xs false T) q v u->gX (gV xs F) v u:=fun v u hp=>⟨(gz xs false T,q),jW.2 ⟨(T,q),he,rfl⟩,hp⟩
  have hne:=h.xE he
  have hm:j∈gz xs false T:=(nY xs false T).mem_iff.2 hjT
  obtain⟨hd', hh⟩:∃ z,(gz xs false T).head? = some z:=by
   cases e:gz xs false T with
   | nil=>rw[e]at hm;simp at hm
   | cons z l=>exact⟨z,rfl⟩
  obtain⟨a,b⟩:=PR.EX hh hne hs hm
  by_cases hq:q=0
  . exact⟨hd', a hq⟩
  . obtain⟨r,hr⟩:=ih hq
    exact⟨r,b r hq hr⟩
theorem Fo.SA{xs:List Nd}{F:FT}(h:Fo xs F){j:Nat}(h0:j≠0)(hj:j<xs.length):tc xs F j j:=by
 obtain⟨r,hr⟩:=h.top h0 hj
 exact⟨r,hr,hr⟩
section
variable {xs ys zs:List Nd} {F R R2:FT} {i j:Nat} {a b:Tr}
theorem Ve(hF:Fo xs F)(hJ:tc xs F i j)(h:kZ xs F ys i a R)(k:kZ (kE ys i) ((.nd a i .nil,0) :: R) zs j b R2)(hs:(fM zs j).size=2):gz zs false (.nd b j .nil)=[i,j]:=by
 obtain⟨r,hi,hj⟩:=hJ
 have hh:=Uo h.C8 k (h.X9 hj hi fun v u u' h1 h2=>hF.rU h1 h2)
 have hv:=(k.fo.rep (.nd b j .nil,0) s_).2.2.1.size
 have hl:=(nY zs false (.nd b j .nil)).length_eq
 have hq:=k.seq
 rw[hq]at hl hh ⊢
 have e1:((b.mem++j :: Tr.nil.mem).length:Int)=2:=by rw[<-hv];exact hs
 have e2:(gz zs false b++[j]).length=2:=by
  rw[hl]
  show (b.mem++j :: Tr.nil.mem).length=2
  omega
 cases hb:gz zs false b with
 | nil=>rw[hb]at e2;simp at e2
 | cons x l =>
  rw[hb]at e2 hh
  cases l with
  | cons y l=>simp at e2
  | nil =>
   simp at hh
   subst hh
   rfl
theorem Wc(hF:Fo xs F)(h:kZ xs F ys i a R)(k:kZ (kE ys i) ((.nd a i .nil,0) :: R) zs j b R2)(hn:¬ tc xs F i j)(hj0:j≠0)(hjl:j<xs.length)(hi0:i≠0)(hil:i<xs.length):∃ R3,R2.Perm ((.nd a i .nil,0) :: R3):=by
 rcases k.Ct (.nd a i .nil) s_ with ⟨h1,_⟩|h1
 . exact Lw h1
 . exfalso
   rw[h.C8.head]at h1
   obtain⟨r,hr⟩:=hF.top hj0 hjl
   obtain⟨r', hr'⟩:=hF.top hi0 hil
   have hne:r≠r' := fun e=>hn ⟨r', hr', e▸hr⟩
   obtain⟨p1,p2⟩:=h.Xr hr hr' hne fun v u u' h1 h2=>hF.rU h1 h2
   have p3:=k.top h1 (v:=j) (by simp[Tr.mem])
   have e:r=i:=PR.unique (P:=gX (gV (kE ys i) ((.nd a i .nil,0) :: R))) (fun v u u' h1 h2=>h.C8.fo.rU h1 h2) p1 p3
   exact p2 (by rw[e];simp[Tr.mem])
end
theorem ga.lead{xs:List Nd}(h:ga xs){i:Nat}(hi:i<xs.length):ga (kE xs i):=h.iF hi fun x a b c d e=>⟨a,b,c,d,e⟩
theorem ug(xs:List Nd)(i:Nat):(kE xs i).length=xs.length:=gJ
end Go.Sx
namespace Go.Sx
open Go
theorem NO{n k:Nat}(hn:n<=1000000):ga (mN n k):=by
 have key:∀ i,i<n+1->fM (mN n k) i=wN i\/fM (mN n k) i=vu:=fun i hi=>by
  rw[xy hi]
  split
  . exact .inl rfl
  . exact .inr rfl
 refine⟨fun i hi=>?_,fun i hi=>?_,fun i hi=>?_,fun i hi=>?_,fun i hi=>?_⟩<;>rw[pJ]at * <;> rcases key i hi with e|e<;>rw[e]
 all_goals first
  | exact(by decide:ij .i64 0)
  | (simp only[wN,vu];omega)
  | (show (-9223372036854775808:Int)<=0/\(0:Int)<=9223372036854775807;omega)
end Go.Sx
namespace Go.Sx
open Go
section
variable {L:List Lv} {i j:Nat} {sn:List Bool} {now:Int}
theorem vS{x:Int}(h:0<=x/\x<=100):ij .i64 x:=by unfold ij;rw[show IntKind.i64.min = -9223372036854775808 from by decide,show IntKind.i64.max=9223372036854775807 from by decide];omega
theorem XI{x:Int}(h:0<=x/\x<=100):({ rQ with fN:=x }:Cf).ok:=⟨vS (x:=20) o_,vS h,vS (x:=10) o_,vS (x:=0) o_⟩
theorem XW{x:Int}(h:0<=x/\x<=100):({ rQ with fO:=x }:Cf).ok:=⟨vS (x:=20) o_,vS (x:=30) o_,vS h,vS (x:=0) o_⟩
def tU(b:Bool):List Value:=[.bool b]
structure Seen (sn:List Bool) (A:List Int):Prop where
 len:sn.length=12
 mem:∀ k:Nat,k<12->(fM sn k=true↔(k:Int)∈A)
theorem Seen.nil:Seen (List.replicate 12 false) []:=by
 refine⟨rfl,fun k hk=>?_⟩
 have:fM (List.replicate 12 false) k=false:=by unfold fM;rw[AT,if_pos hk];rfl
 rw[this]
 exact⟨fun h=>(by cases h),fun h=>(by cases h)⟩
def nQ(L:List Lv)(i j:Nat):List Int:=([(fM L i).u,(fM L i).v].take j).foldl gR (jb (L.take i))
abbrev qI(L:List Lv)(i j:Nat):Int:=fM [(fM L i).u,(fM L i).v] j
theorem WO(h:i<L.length):nQ L i 2=jb (L.take (i+1)):=by
 rw[rY (gA h)]
 rfl
theorem MV(h:j<2):nQ L i (j+1)=gR (nQ L i j) (qI L i j):=by
 match j,h with
 | 0,_=>rfl
 | 1,_=>rfl
theorem Xx(hw:nM rQ now L)(hi:i<L.length)(h:j<2):0<=qI L i j/\qI L i j<12:=by
 have h1:=hw.ids _ (ze (gA hi))
 match j,h with
 | 0,_=>exact h1.1
 | 1,_=>exact h1.2
theorem Xk(hw:nM rQ now L)(h:j<=2):(nQ L i j).length<=10+j:=by
 have h1:((jb L).length:Int)<=10:=hw.QI
 have h2:=MP L i
 match j,h with
 | 0,_=>show (jb (L.take i)).length<=_;omega
 | 1,_ =>
  have h3:=HJ (jb (L.take i)) (fM L i).u
  show (gR _ _).length<=_
  omega
 | 2,_ =>
  have h3:=HJ (jb (L.take i)) (fM L i).u
  have h4:=HJ (gR (jb (L.take i)) (fM L i).u) (fM L i).v
  show (gR (gR _ _) _).length<=_
  omega
theorem Seen.yes(h:Seen sn (nQ L i j))(hj:j<2)(hr:0<=qI L i j/\qI L i j<12)(ht:fM sn (qI L i j).toNat=true):nQ L i (j+1)=nQ L i j:=by
 have h1:=(h.mem _ o_).1 ht
 rw[Int.toNat_of_nonneg hr.1]at h1
 rw[MV hj]
 unfold gR
 rw[if_pos (by simpa using h1)]
theorem Seen.no(h:Seen sn (nQ L i j))(hj:j<2)(hr:0<=qI L i j/\qI L i j<12)(hf:fM sn (qI L i j).toNat=false) :
 Seen (fR sn (qI L i j).toNat fun _=>true) (nQ L i (j+1))/\(nQ L i (j+1)).length=(nQ L i j).length+1:=by
 have h1:qI L i j∉nQ L i j:=fun hm=>by
  have h2:=(h.mem (qI L i j).toNat o_).2 (by rw[Int.toNat_of_nonneg hr.1];exact hm)
  rw[hf]at h2
  cases h2
 have h3:nQ L i (j+1)=nQ L i j++[qI L i j]:=by
  rw[MV hj]
  unfold gR
  rw[if_neg (by simpa using h1)]
 refine⟨⟨by rw[gJ];exact h.len,fun k hk=>?_⟩,by rw[h3];simp⟩
 rw[kN (by rw[h.len];omega),h3,zr,mj]
 split
 . rename_i e
   exact⟨fun _=>.inr o_,fun _=>rfl⟩
 . rename_i e
   rw[h.mem k hk]
   exact⟨.inl,fun hq=>hq.resolve_right o_⟩
end
end Go.Sx
namespace Go.Ex
open Go Go.Sx
noncomputable section
def gb(t:Tr Nat)(k:Nat):Nat:=match t.get k with
 | some m=>m
 | none=>0
def EZ(t:Tr Nat)(k j:Nat):Tr Nat:=t.put k (some (gb t k ||| 2 ^ j))
def sub(a b:Nat):Bool:=Nat.beq (a &&& b) a
def B9(ms:Tr Nat)(j:Nat):List Edge->Nat->Option Nat
 | [],acc=>some acc
 | e :: es,acc=>bif Region.binds .any e then(bif Nat.blt e.on j then B9 ms j es (acc ||| (2 ^ e.on ||| gb ms e.on))else none)else B9 ms j es acc
def Ar(wr:Tr Nat):List Nat->Nat->Nat
 | [],a=>a
 | t :: ts,a=>Ar wr ts (a ||| gb wr t)
def zV(j:Nat):List Nat->Tr Nat->Tr Nat
 | [],rd=>rd
 | t :: ts,rd=>zV j ts (EZ rd t j)
def Fa(wr rd:Tr Nat):Option Nat->Nat
 | some d=>gb wr d ||| gb rd d
 | none=>0
def Cm(wr:Tr Nat)(j:Nat):Option Nat->Tr Nat
 | some d=>EZ wr d j
 | none=>wr
def scan(ops:List Oper):List Oper->Nat->Tr Nat->Tr Nat->Tr Nat->Option (List Nat)
 | [],_,_,_,_=>some []
 | o :: l,j,ms,wr,rd=>match B9 ms j o.after.toList 0 with
  | some m=>bif !s4 o.op&&sub (Ar wr (o.looksAt ops.toArray) 0 ||| Fa wr rd o.dst) m then
   (match scan ops l (j+1) (ms.put j (some m)) (Cm wr j o.dst) (zV j (o.looksAt ops.toArray) rd)with
   | some r=>some (m :: r)
   | none=>none)else none
  | none=>none
def ny(masks:List Nat)(j i:Nat):Bool:=Nat.testBit ((masks[j]?).getD 0) i
theorem Io{a b:Nat}(h:sub a b=true){i:Nat}(hi:Nat.testBit a i=true):Nat.testBit b i=true:=by
 have:=z7 h
 rw[<-this,CJ]at hi
 simp at hi
 exact hi.2
theorem OH(t:Tr Nat)(k k' m:Nat):gb (t.put k (some m)) k' = if k' = k then m else gb t k' := by
 unfold gb
 rw[Tr.ur]
 by_cases h:k' = k
 . rw[if_pos h,if_pos h]
 . rw[if_neg h,if_neg h]
theorem oT{a b i:Nat}:Nat.testBit (a ||| b) i=true↔Nat.testBit a i=true\/Nat.testBit b i=true:=by rw[Nat.testBit_or];simp
theorem uw{j i:Nat}:Nat.testBit (2 ^ j) i=true↔j=i:=by rw[Nat.testBit_two_pow];simp
theorem IT(t:Tr Nat)(k j k' i:Nat):Nat.testBit (gb (EZ t k j) k') i=true↔Nat.testBit (gb t k') i=true\/(k' = k/\i=j):=by
 unfold EZ
 rw[OH]
 split
 . rename_i h;subst h
   rw[oT,uw]
   constructor
   . rintro(h|h)
     . exact .inl h
     . exact .inr ⟨rfl,h.symm⟩
   . rintro(h|⟨_,h⟩)
     . exact .inl h
     . exact .inr h.symm
 . rename_i h
   constructor
   . exact .inl
   . rintro(h1|⟨h1,_⟩)
     . exact h1
     . exact absurd h1 h
theorem SB{ms:Tr Nat}{j:Nat}:∀ (es:List Edge) (acc m:Nat),B9 ms j es acc=some m ->
 (∀ i,Nat.testBit m i=true->Nat.testBit acc i=true\/∃ e∈es,Region.binds .any e=true/\e.on<j/\(e.on=i\/Nat.testBit (gb ms e.on) i=true))/\(∀ e∈es,Region.binds .any e=true->e.on<j):=by
 intro es
 induction es with
 | nil=>intro acc m h;cases h;exact⟨fun i hi=>.inl hi,fun e he=>by cases he⟩
 | cons e es ih =>
  intro acc m h
  simp only[B9]at h
  cases hb:Region.binds .any e with
  | false =>
   rw[hb]at h
   obtain⟨h1,h2⟩:=ih acc m h
   refine⟨fun i hi=>?_,fun e' he' hb' => ?_⟩
   . rcases h1 i hi with h3|⟨e', he', h3⟩
     . exact .inl h3
     . exact .inr ⟨e', mQ _ he', h3⟩
   . rcases zg.1 he' with rfl|he'
     . rw[hb]at hb'; cases hb'
     . exact h2 e' he' hb'
  | true =>
   rw[hb]at h
   simp only[cond_true]at h
   cases hl:Nat.blt e.on j with
   | false=>rw[hl]at h;cases h
   | true =>
    rw[hl]at h
    simp only[cond_true]at h
    have hlt:e.on<j:=by simpa[Nat.blt,uV]using hl
    obtain⟨h1,h2⟩:=ih _ m h
    refine⟨fun i hi=>?_,fun e' he' hb' => ?_⟩
    . rcases h1 i hi with h3|⟨e', he', h3⟩
      . rw[oT,oT,uw]at h3
        rcases h3 with h3|h3|h3
        . exact .inl h3
        . exact .inr ⟨e,zh ..,hb,hlt,.inl h3⟩
        . exact .inr ⟨e,zh ..,hb,hlt,.inr h3⟩
      . exact .inr ⟨e', mQ _ he', h3⟩
    . rcases zg.1 he' with rfl|he'
      . exact hlt
      . exact h2 e' he' hb'
theorem Ur{wr:Tr Nat}{i:Nat}:∀ (ts:List Nat) (a:Nat),Nat.testBit (Ar wr ts a) i=true↔Nat.testBit a i=true\/∃ t∈ts,Nat.testBit (gb wr t) i=true:=by
 intro ts
 induction ts with
 | nil=>intro a;simp[Ar]
 | cons t ts ih =>
  intro a
  rw[Ar,ih,oT]
  constructor
  . rintro((h|h)|⟨u,hu,h⟩)
    . exact .inl h
    . exact .inr ⟨t,zh ..,h⟩
    . exact .inr ⟨u,mQ _ hu,h⟩
  . rintro(h|⟨u,hu,h⟩)
    . exact .inl (.inl h)
    . rcases zg.1 hu with rfl|hu
      . exact .inl (.inr h)
      . exact .inr ⟨u,hu,h⟩
theorem S8{j t i:Nat}:∀ (ts:List Nat) (rd:Tr Nat),Nat.testBit (gb (zV j ts rd) t) i=true↔Nat.testBit (gb rd t) i=true\/(t∈ts/\i=j):=by
 intro ts
 induction ts with
 | nil=>intro rd;simp[zV]
 | cons u ts ih =>
  intro rd
  rw[zV,ih,IT]
  constructor
  . rintro((h|⟨rfl,h⟩)|⟨h1,h2⟩)
    . exact .inl h
    . exact .inr ⟨zh ..,h⟩
    . exact .inr ⟨mQ _ h1,h2⟩
  . rintro(h|⟨h1,h2⟩)
    . exact .inl (.inl h)
    . rcases zg.1 h1 with rfl|h1
      . exact .inl (.inr ⟨rfl,h2⟩)
      . exact .inr ⟨h1,h2⟩
theorem T4(ops:List Oper):∀ (l:List Oper) (j:Nat) (Mp:List Nat) (ms wr rd:Tr Nat) (r:List Nat),scan ops l j ms wr rd=some r->ops.drop j=l->Mp.length=j->(∀ i,i<j->gb ms i=(Mp[i]?).getD 0) ->
 (∀ i x t,i<j->ops[i]? = some x->x.dst=some t->Nat.testBit (gb wr t) i=true)->(∀ i x t,i<j->ops[i]? = some x->t∈x.looksAt ops.toArray->Nat.testBit (gb rd t) i=true) ->
 r.length=l.length/\∀ k o,l[k]? = some o ->
  (∀ i,ny (Mp++r) (j+k) i=true->∃ e∈o.after,Region.binds .any e=true/\e.on<j+k/\(e.on=i\/ny (Mp++r) e.on i=true))/\s4 o.op=false/\(∀ e∈o.after,Region.binds .any e=true->e.on<j+k) /\
  (∀ i x,i<j+k->ops[i]? = some x->(kH ops.toArray x o=true\/kH ops.toArray o x=true)->ny (Mp++r) (j+k) i=true):=by
 intro l
 induction l with
 | nil=>intro j Mp ms wr rd r h _ _ _ _ _;cases h;exact⟨rfl,fun k o hk=>by simp at hk⟩
 | cons o l ih =>
  intro j Mp ms wr rd r h hdrop hMp hms hwr hrd
  simp only[scan]at h
  have hoj:ops[j]? = some o:=by
   have:=congrArg List.head? hdrop
   simpa using this
  have hdrop' : ops.drop (j+1)=l:=by
   have:=congrArg List.tail hdrop
   simpa[List.tail_drop]using this
  split at h
  . rename_i m hm
    cases hb:(!s4 o.op&&sub (Ar wr (o.looksAt ops.toArray) 0 ||| Fa wr rd o.dst) m)with
    | false=>rw[hb]at h;cases h
    | true =>
     rw[hb]at h
     simp only[cond_true]at h
     split at h
     . rename_i r' hr'
       cases h
       rw[zt]at hb
       obtain⟨hsel,hsub⟩:=hb
       have hsel:s4 o.op=false:=by simpa using hsel
       obtain⟨hm1,hm2⟩:=SB _ _ _ hm
       have IH:=ih (j+1) (Mp++[m]) (ms.put j (some m)) (Cm wr j o.dst) (zV j (o.looksAt ops.toArray) rd) r' hr' hdrop' (by simp[hMp]) (fun i hi=>by
        rw[OH]
        by_cases e:i=j
        . subst e;rw[if_pos rfl,wE o_];simp[hMp]
        . rw[if_neg e,hms i o_,tS o_])
        (fun i x t hi hx ht=>by
         by_cases e:i=j
         . subst e
           have:x=o:=Option.some.inj (hx.symm.trans hoj)
           subst this
           rw[ht,Cm,IT];exact .inr ⟨rfl,rfl⟩
         . have:=hwr i x t o_ hx ht
           cases hd:o.dst with
           | none=>rw[Cm];exact this
           | some d=>rw[Cm,IT];exact .inl this)
        (fun i x t hi hx ht=>by
         rw[S8]
         by_cases e:i=j
         . subst e
           have:x=o:=Option.some.inj (hx.symm.trans hoj)
           subst this
           exact .inr ⟨ht,rfl⟩
         . exact .inl (hrd i x t o_ hx ht))
       have hcat:Mp++[m]++r' = Mp++(m :: r'):=by simp
       rw[hcat]at IH
       have hpj:∀ i,ny (Mp++(m :: r')) j i=Nat.testBit m i:=by
        intro i
        unfold ny
        rw[wE o_,hMp]
        simp
       have hplt:∀ k i,k<j->ny (Mp++(m :: r')) k i=Nat.testBit (gb ms k) i:=by
        intro k i hk
        unfold ny
        rw[tS o_,hms k hk]
       refine⟨by simp[IH.1],fun k o' hk=>?_⟩
       cases k with
       | succ k =>
        have:=IH.2 k o' (by simpa using hk)
        rw[show j+1+k=j+(k+1) by omega]at this
        exact this
       | zero =>
        simp at hk
        subst hk
        rw[nF]
        refine⟨fun i hi=>?_,hsel,fun e he hb=>hm2 e (by simpa using he) hb,fun i x hi hx ht=>?_⟩
        . rw[hpj]at hi
          rcases hm1 i hi with h0|⟨e,he,hb,hlt,h3⟩
          . simp at h0
          . refine⟨e,by simpa using he,hb,hlt,?_⟩
            rcases h3 with h3|h3
            . exact .inl h3
            . exact .inr (by rw[hplt e.on i hlt];exact h3)
        . rw[hpj]
          refine Io hsub ?_
          rw[oT,Ur]
          rcases ht with ht|ht
          . unfold kH at ht
            cases hxd:x.dst with
            | none=>rw[hxd]at ht;cases ht
            | some d =>
             rw[hxd]at ht
             have hw:=hwr i x d hi hx hxd
             rcases rO.1 ht with h1|h1
             . exact .inl (.inr ⟨d,by simpa using h1,hw⟩)
             . have:o.dst=some d:=by simpa using h1
               rw[this,Fa,oT]
               exact .inr (.inl hw)
          . unfold kH at ht
            cases hod:o.dst with
            | none=>rw[hod]at ht;cases ht
            | some d =>
             rw[hod]at ht
             rw[Fa,oT]
             rcases rO.1 ht with h1|h1
             . exact .inr (.inr (hrd i x d hi hx (by simpa using h1)))
             . have:x.dst=some d:=by simpa using h1
               exact .inr (.inl (hwr i x d hi hx this))
     . cases h
  . cases h
theorem Tx{ops:List Oper}{masks:List Nat}(h:scan ops ops 0 .e .e .e=some masks):Cj ops (ny masks)/\masks.length=ops.length:=by
 have:=T4 ops ops 0 [] .e .e .e masks h rfl rfl (fun i hi=>by omega) (fun i x t hi=>by omega) (fun i x t hi=>by omega)
 simp only[nC,jF]at this
 obtain⟨h1,h2⟩:=this
 refine⟨⟨fun j o hj i hi=>(h2 j o hj).1 i hi,fun o ho=>?_,fun j o hj e he hb=>(h2 j o hj).2.2.1 e he hb,fun i j x y hx hy hij ht=>(h2 j y hy).2.2.2 i x hij hx ht⟩,h1⟩
 obtain⟨j,hj⟩:=yA.1 ho
 exact(h2 j o hj).2.1
end
end Go.Ex
namespace Go.Ex
open Go Go.Sx
noncomputable section
inductive Q5 where
 | pure
 | read
 | fl
 | ch
def jR:Op->Q5
 | .move _=>.pure
 | .assign _=>.pure
 | .pick .. => .pure
 | .build .. => .pure
 | .nilCheck _=>.pure
 | .binOp .. => .pure
 | .unOp .. => .pure
 | .makeInterface .. => .pure
 | .makeFunc .. => .pure
 | .slice .. => .pure
 | .fieldAddr .. => .pure
 | .field .. => .pure
 | .indexAddr .. => .pure
 | .index .. => .pure
 | .extract .. => .pure
 | .load .. => .read
 | .lookup .. => .read
 | .convert .. => .read
 | .call ⟨.builtin .len,_,_⟩=>.read
 | .call ⟨.builtin .cap,_,_⟩=>.pure
 | .call ⟨.builtin .min,_,_⟩=>.pure
 | .call ⟨.builtin .max,_,_⟩=>.pure
 | .alloc _=>.fl
 | .makeSlice .. => .fl
 | .makeMap .. => .fl
 | _=>.ch
def qP:Nat:=4611686018427387904
mutual
def kY(k:Nat)(fs:List Nat):Value->Bool
 | .pointer (some a)=>Nat.blt a.block k||fs.any (Nat.beq a.block)
 | .slice (some a) _ _=>Nat.blt a.block k||fs.any (Nat.beq a.block)
 | .map (some r)=>Nat.blt r k||fs.any (Nat.beq r)
 | .chan (some r)=>Nat.blt r k||fs.any (Nat.beq r)
 | .func fn fi ca=>(match fn with | .yield l=>Nat.blt l k||fs.any (Nat.beq l)|_=>true)&&wg k fs fi&&wg k fs ca
 | .iface _ v=>kY k fs v
 | .agg cs=>wg k fs cs
 | .tuple cs=>wg k fs cs
 | .pointer none=>true
 | .slice none _ _=>true
 | .map none=>true
 | .chan none=>true
 | .bool _=>true
 | .int _ _=>true
 | .float _ _=>true
 | .complex _ _ _=>true
 | .string _=>true
 | .nilFunc=>true
 | .nilIface=>true
termination_by structural x=>x
def wg(k:Nat)(fs:List Nat):Array Value->Bool
 | ⟨l⟩=>AA k fs l
termination_by structural x=>x
def AA(k:Nat)(fs:List Nat):List Value->Bool
 | []=>true
 | v :: l=>kY k fs v&&AA k fs l
termination_by structural x=>x
end
mutual
def jr:Value->Value->Bool
 | .pointer (some ⟨b,o,none⟩),.pointer (some ⟨b', o', none⟩)=>Nat.beq b b' && Nat.beq o o'
 | .slice (some ⟨b,o,none⟩) m c,.slice (some ⟨b', o', none⟩) m' c' => Nat.beq b b' && Nat.beq o o' && Nat.beq m m' && Nat.beq c c'
 | .map (some r),.map (some r')=>Nat.beq r r'
 | .agg cs,.agg cs' => AI cs cs'
 | .func (.func f) fi ca,.func (.func f') fi' ca' => Nat.beq f f' && AI fi fi' && AI ca ca'
 | .iface t v,.iface t' v' => Nat.beq t t' && jr v v'
 | .tuple cs,.tuple cs' => AI cs cs'
 | .pointer none,.pointer none=>true
 | .slice none m c,.slice none m' c' => Nat.beq m m' && Nat.beq c c'
 | .map none,.map none=>true
 | .bool b,.bool b' => b==b'
 | .int k x,.int k' x' => decide (k=k')&&decide (x=x')
 | .string s,.string s' => decide (s.data.toList=s'.data.toList)
 | .nilFunc,.nilFunc=>true
 | .nilIface,.nilIface=>true
 | _,_=>false
termination_by structural x=>x
def AI:Array Value->Array Value->Bool
 | ⟨l⟩,⟨l'⟩=>AB l l'
termination_by structural x=>x
def AB:List Value->List Value->Bool
 | [],[]=>true
 | v :: l,v' :: l' => jr v v' && AB l l'
 | _,_=>false
termination_by structural x=>x
end
structure Pl where
 i:Nat
 o:Oper
 m:Nat
def pick(want:Nat):List Oper->List Nat->Nat->List Pl
 | o :: l,m :: ms,j=>bif Nat.testBit want j then⟨j,o,m⟩ :: pick want l ms (j+1)else pick want l ms (j+1)
 | _,_,_=>[]
def r6:List Oper->List Nat->Nat->List Pl
 | o :: l,m :: ms,j=>match jR o.op with
  | .ch=>⟨j,o,m⟩ :: r6 l ms (j+1)
  | _=>r6 l ms (j+1)
 | _,_,_=>[]
def plan(ops:List Oper)(masks:List Nat):List Pl->Nat->List Pl
 | c :: cs,placed=>pick (c.m ^^^ (c.m &&& placed)) ops masks 0++c :: plan ops masks cs (placed ||| (c.m ||| 2 ^ c.i))
 | [],placed=>pick ((2 ^ ops.length-1) ^^^ ((2 ^ ops.length-1) &&& placed)) ops masks 0
def B4(f:Nat):List Pl->Bool
 | []=>true
 | p :: l=>match jR p.o.op with
  | .ch=>Nat.testBit p.m f
  | _=>B4 f l
def xL(all:Nat):List Pl->Nat->Nat->Bool
 | [],pl,_=>Nat.beq pl all
 | p :: l,pl,cb => !Nat.testBit pl p.i&&sub p.m pl&&(match jR p.o.op with
  | .ch=>sub cb p.m&&xL all l (pl ||| 2 ^ p.i) (cb ||| 2 ^ p.i)
  | .fl=>B4 p.i l&&xL all l (pl ||| 2 ^ p.i) cb
  | _=>xL all l (pl ||| 2 ^ p.i) cb)
section
variable (P:Program)
def xq(o:Oper)(n:Nat)(σ:ji)(h:Tr PO):Option Value:=match jt P o.type o.op (mE n σ) ⟨h,qP⟩with
 | some (.val v,_)=>some v
 | _=>none
def Rh(o:Oper)(n:Nat)(σ:ji)(A:AH):Option (Value×AH):=match jt P o.type o.op (mE n σ) ⟨.e,A.nf⟩with
 | some (.val v,B)=>match B.get A.nf with
  | some ob=>some (v,A.add ob)
  | none=>none
 | _=>none
def v8(rec:Rec)(o:Oper)(n:Nat)(σ:ji)(A B:AH):Option (Value×AH):=match jR o.op with
 | .pure=>(xq P o n σ .e).map fun v=>(v,A)
 | .read=>(xq P o n σ B.h).map fun v=>(v,A)
 | .fl=>Rh P o n σ A
 | .ch=>Bc P rec false o n σ A
structure Rc where
 p:Pl
 σ:ji
 A:AH
 B:AH
 v:Value
 tk:Bool
def xJ(o:Oper)(A' B:AH):AH:=match jR o.op with
 | .ch=>A'
 | _=>B
def Gc(rec:Rec)(ops:List Oper)(n:Nat):List Pl->ji -> AH->AH->Option (List Rc×ji × AH×AH)
 | [],σ,A,B=>some ([],σ,A,B)
 | p :: l,σ,A,B=>match (bif s8 ops n σ p.o.guard then(v8 P rec p.o n σ A B).map fun x=>(x,true)else some ((undef,A),false))with
  | some ((v,A'),tk)=>bif Nat.ble (nm v) A'.nf&&Nat.ble A.nf A'.nf then(match Gc rec ops n l (pY σ p.o.dst v) A' (xJ p.o A' B)with
   | some (rs,z)=>some (⟨p,σ,A,B,v,tk⟩ :: rs,z)
   | none=>none)else none
  | none=>none
def wh:List Rc->Nat->AH->List (Nat×AH)
 | [],cb,Bf=>[(cb,Bf)]
 | r :: rs,cb,Bf=>match jR r.p.o.op with
  | .ch=>(cb,r.B) :: wh rs (cb ||| 2 ^ r.p.i) Bf
  | _=>wh rs cb Bf
def waiters(k:Nat):List Pl->Nat
 | []=>0
 | p :: l=>match jR p.o.op with
  | .ch=>bif Nat.testBit p.m k then 2 ^ p.i ||| waiters k l else waiters k l
  | _=>waiters k l
def r8:List Pl->Nat
 | []=>0
 | p :: l=>match jR p.o.op with
  | .ch=>2 ^ p.i ||| r8 l
  | _=>r8 l
def D4:List Pl->Bool
 | []=>true
 | p :: l=>match jR p.o.op with
  | .ch=>false
  | .fl=>false
  | _=>D4 l
def rZ(m:Nat):List Rc->List Nat
 | []=>[]
 | r :: rs=>match jR r.p.o.op with
  | .fl=>bif r.tk&&Nat.testBit m r.p.i then r.A.nf :: rZ m rs else rZ m rs
  | _=>rZ m rs
def xN(rd:Bool)(n:Nat)(r:Rc)(fs:List Nat)(mk wk:Nat):List (Nat×AH)->Bool
 | []=>true
 | (cb,H) :: l=>(bif sub mk cb&&Nat.beq (wk &&& cb) 0 then
  kY H.nf fs r.v&&(bif rd&&r.tk then(match xq P r.p.o n r.σ H.h with
   | some v=>jr v r.v
   | none=>false)else true)
  else true)&&xN rd n r fs mk wk l
def Ej(n:Nat)(hs:List (Nat×AH))(pln:List Pl)(all:List Rc):List Rc->Bool
 | []=>true
 | r :: rs=>(match jR r.p.o.op with
  | .pure=>xN P false n r (rZ r.p.m all) (r.p.m &&& r8 pln) (waiters r.p.i pln) hs
  | .read=>xN P true n r (rZ r.p.m all) (r.p.m &&& r8 pln) (waiters r.p.i pln) hs
  | _=>true)&&Ej n hs pln all rs
def Fb:uW:=fun rec q ops n σ A=>match scan ops ops 0 .e .e .e with
 | some masks=>bif xL (2 ^ ops.length-1) (plan ops masks (r6 ops masks 0) 0) 0 0 then
  (match Gc P rec ops n (plan ops masks (r6 ops masks 0) 0) σ A A with
  | some (rs,σ', A', B')=>bif Nat.ble A'.nf qP&&(D4 (plan ops masks (r6 ops masks 0) 0)||Ej P n (wh rs 0 B') (plan ops masks (r6 ops masks 0) 0) rs rs)then some (σ', A')else none
  | none=>none)else none
 | none=>none
end
end
end Go.Ex
namespace Go.Ex
open Go Go.Sx
theorem C1{k b:Nat}{fs:List Nat}(h:(Nat.blt b k||fs.any (Nat.beq b))=true):b<k\/b∈fs:=by
 rcases rO.1 h with h|h
 . exact .inl (by simpa[Nat.blt,uV]using h)
 . obtain⟨x,hx,e⟩:=FZ.1 h
   have:=z7 e
   subst this
   exact .inr hx
mutual
theorem BP{k:Nat}{fs:List Nat}{E E' : Env}(h:∀ b,b<k\/b∈fs->E' b=E b):∀ v:Value,kY k fs v=true->fT E' v=fT E v
 | .pointer (some a),hn=>by simp only[kY]at hn;simp only[fT,jd,h a.block (C1 hn)]
 | .slice (some a) _ _,hn=>by simp only[kY]at hn;simp only[fT,jd,kn,h a.block (C1 hn)]
 | .map (some r),hn=>by simp only[kY]at hn;simp only[fT,h r (C1 hn)]
 | .chan (some r),hn=>by simp only[kY]at hn;simp only[fT,h r (C1 hn)]
 | .func fn fi ca,hn=>by
  simp only[kY,zt]at hn
  simp only[fT]
  rw[DS h fi hn.1.2,DS h ca hn.2]
  have:nK E' fn=nK E fn:=by
   cases fn<;>simp only[nK]
   rename_i l
   rw[h l (C1 hn.1.1)]
  rw[this]
 | .iface t v,hn=>by simp only[kY]at hn;simp only[fT,BP h v hn]
 | .agg cs,hn=>by simp only[kY]at hn;simp only[fT,DS h cs hn]
 | .tuple cs,hn=>by simp only[kY]at hn;simp only[fT,DS h cs hn]
 | .pointer none,_=>rfl
 | .slice none _ _,_=>rfl
 | .map none,_=>rfl
 | .chan none,_=>rfl
 | .bool _,_=>rfl
 | .int _ _,_=>rfl
 | .float _ _,_=>rfl
 | .complex _ _ _,_=>rfl
 | .string _,_=>rfl
 | .nilFunc,_=>rfl
 | .nilIface,_=>rfl
theorem DS{k:Nat}{fs:List Nat}{E E' : Env}(h:∀ b,b<k\/b∈fs->E' b=E b):∀ a:Array Value,wg k fs a=true->kP E' a=kP E a
 | ⟨l⟩,hn=>by simp only[wg]at hn;simp only[kP,MH h l hn]
theorem MH{k:Nat}{fs:List Nat}{E E' : Env}(h:∀ b,b<k\/b∈fs->E' b=E b):∀ l:List Value,AA k fs l=true->lW E' l=lW E l
 | [],_=>rfl
 | v :: l,hn=>by simp only[AA,zt]at hn;simp only[lW,BP h v hn.1,MH h l hn.2]
end
theorem sg{a b:Nat}(h:Nat.beq a b=true):a=b:=z7 h
theorem Yq{s s' : ByteArray}(h:s.data.toList=s'.data.toList):s=s' := by
 cases s;cases s'
 simp only at h
 congr 1
 exact Array.ext' h
mutual
theorem I7:∀ v v' : Value,jr v v' = true->v=v'
 | .pointer (some ⟨b,o,none⟩),v', h=>by
  cases v' <;> try (simp[jr]at h;done)
  rename_i p
  cases p with
  | none=>simp[jr]at h
  | some a =>
   obtain⟨b', o', sp⟩:=a
   cases sp with
   | some _=>simp[jr]at h
   | none=>simp only[jr,zt]at h;rw[sg h.1,sg h.2]
 | .pointer (some ⟨b,o,some _⟩),v', h=>by simp[jr]at h
 | .slice (some ⟨b,o,none⟩) m c,v', h=>by
  cases v' <;> try (simp[jr]at h;done)
  rename_i p m' c'
  cases p with
  | none=>simp[jr]at h
  | some a =>
   obtain⟨b', o', sp⟩:=a
   cases sp with
   | some _=>simp[jr]at h
   | none=>simp only[jr,zt]at h;rw[sg h.1.1.1,sg h.1.1.2,sg h.1.2,sg h.2]
 | .slice (some ⟨b,o,some _⟩) m c,v', h=>by simp[jr]at h
 | .map (some r),v', h=>by
  cases v' <;> try (simp[jr]at h;done)
  rename_i p
  cases p with
  | none=>simp[jr]at h
  | some r' => simp only[jr]at h;rw[sg h]
 | .agg cs,v', h=>by
  cases v' <;> try (simp[jr]at h;done)
  simp only[jr]at h;rw[Ef _ _ h]
 | .tuple cs,v', h=>by
  cases v' <;> try (simp[jr]at h;done)
  simp only[jr]at h;rw[Ef _ _ h]
 | .pointer none,v', h=>by
  cases v' <;> try (simp[jr]at h;done)
  rename_i p
  cases p with
  | none=>rfl
  | some a=>simp[jr]at h
 | .slice none m c,v', h=>by
  cases v' <;> try (simp[jr]at h;done)
  rename_i p m' c'
  cases p with
  | none=>simp only[jr,zt]at h;rw[sg h.1,sg h.2]
  | some a=>simp[jr]at h
 | .map none,v', h=>by
  cases v' <;> try (simp[jr]at h;done)
  rename_i p
  cases p with
  | none=>rfl
  | some a=>simp[jr]at h
 | .bool b,v', h=>by
  cases v' <;> try (simp[jr]at h;done)
  simp only[jr]at h
  simpa using h
 | .int k x,v', h=>by
  cases v' <;> try (simp[jr]at h;done)
  simp only[jr,zt,decide_eq_true_eq]at h
  rw[h.1,h.2]
 | .string s,v', h=>by
  cases v' <;> try (simp[jr]at h;done)
  simp only[jr,decide_eq_true_eq]at h
  rw[Yq h]
 | .nilFunc,v', h=>by cases v' <;> first|rfl|(simp[jr]at h;done)
 | .nilIface,v', h=>by cases v' <;> first|rfl|(simp[jr]at h;done)
 | .chan _,v', h=>by simp[jr]at h
 | .func fn fi ca,v', h=>by
  cases v' <;> try (simp[jr]at h;done)
  rename_i fn' fi' ca'
  cases fn<;>try (simp[jr]at h;done)
  cases fn' <;> try (simp[jr]at h;done)
  simp only[jr,zt]at h
  rw[sg h.1.1,Ef _ _ h.1.2,Ef _ _ h.2]
 | .iface t v,v', h=>by
  cases v' <;> try (simp[jr]at h;done)
  simp only[jr,zt]at h
  rw[sg h.1,I7 _ _ h.2]
 | .float ..,v', h=>by simp[jr]at h
 | .complex ..,v', h=>by simp[jr]at h
theorem Ef:∀ a a' : Array Value,AI a a' = true->a=a'
 | ⟨l⟩,⟨l'⟩,h=>by simp only[AI]at h;rw[NI l l' h]
theorem NI:∀ l l' : List Value,AB l l' = true->l=l'
 | [],[],_=>rfl
 | [],_ :: _,h=>by simp[AB]at h
 | _ :: _,[],h=>by simp[AB]at h
 | v :: l,v' :: l', h=>by simp only[AB,zt]at h;rw[I7 v v' h.1,NI l l' h.2]
end
section
variable {P:Program} {A A' : AH} {r:XR} {ρ:jk} {ty:TypeId} {op:Op} {v:Value}
theorem Au{α:Type}{c:Bool}{x:Option α}{y:α}(h:(bif c then x else none)=some y):c=true/\x=some y:=by
 cases c with
 | false=>cases h
 | true=>exact⟨rfl,h⟩
theorem aaX{α:Type}{c:Bool}{x:Option α}{y:α}(h:(bif c then none else x)=some y):c=false/\x=some y:=by
 cases c with
 | true=>cases h
 | false=>exact⟨rfl,h⟩
theorem Tu{s d:TypeId}{x:Value}(h:ET P s d x A=some (r,A')):A' = A:=by
 unfold ET at h
 split at h
 . cases h;rfl
 . cases h;rfl
 . split at h
   . cases h;rfl
   . split at h
     . obtain⟨q,_,e⟩:=map_some h;cases e;rfl
     . cases h
   . cases h
 . cases h
theorem RI{b:Builtin}{vs:List Value}{T:List TypeId}(hb:b = .len\/b = .cap\/b = .min\/b = .max)(h:pL P b vs T A=some (r,A')):A' = A:=by
 rcases hb with rfl|rfl|rfl|rfl
 . simp only[pL,EF]at h
   repeat' split at h
   all_goals first
    | (cases h;done)
    | (cases h;rfl)
 . simp[pL]at h
 . simp only[pL,Er]at h
   repeat' split at h
   all_goals first
    | (cases h;done)
    | (obtain⟨q,_,e⟩:=map_some h;cases e;rfl)
 . simp[pL]at h
theorem Tf(hk:jR op = .pure\/jR op = .read)(h:jt P ty op ρ A=some (r,A')):A' = A:=by
 cases op with
 | call c =>
  obtain⟨ce,az,T⟩:=c
  cases ce with
  | builtin b =>
   simp only[jt,BU,Jx]at h
   split at h
   . exact RI (by cases b<;>simp[jR]at hk<;>simp) h
   . cases h
  | value f=>simp[jR]at hk
  | invoke x name=>simp[jR]at hk
 | convert s d x =>
  simp only[jt,He]at h
  split at h
  . exact Tu h
  . cases h
 | _=>first
  | (simp[jR]at hk;done)
  | (
   simp only[jt,NM,MB,Iz,Il,GX,HR,IQ,Gz,GP,Ii,GG,HL,GJ,HY,G9,IN,Hz]at h
   repeat' split at h
   all_goals first
    | (cases h;done)
    | (cases h;rfl)
    | (obtain⟨q,_,e⟩:=map_some h;cases e;rfl)
    | (have h:=(Au h).2;cases h;rfl)
    | (have h:=(Au h).2;obtain⟨q,_,e⟩:=map_some h;cases e;rfl))
theorem VW{N:Nat}{B:AH}(hk:jR op = .fl)(h:jt P ty op ρ ⟨.e,N⟩=some (.val v,B)):∃ ob:AO,B=(⟨.e,N⟩:AH).add ob/\ob.Wf 0/\ob.ro=false/\kY 0 [N] v=true/\nm v<=N+1:=by
 have hN:Nat.beq N N=true:=by simp
 cases op with
 | alloc t =>
  simp only[jt,Nj]at h
  obtain⟨z,hz,e⟩:=map_some h
  cases e
  obtain⟨i,_,_,h0,_⟩:=qZ hz
  exact⟨_,rfl,by simp only[AO.Wf];have:=zI h0;omega,rfl,by simp[ptr,kY,hN],by simp[ptr,nm]⟩
 | makeSlice t l c =>
  simp only[jt,GF]at h
  split at h
  . split at h
    . rename_i z _ _ _ _ hz
      obtain⟨_,h⟩:=Au h
      cases h
      obtain⟨i,_,_,h0,_⟩:=qZ hz
      refine⟨_,rfl,?_,rfl,by simp[kY,hN],by simp[nm]⟩
      simp only[AO.Wf]
      have:=G2 (zI h0)
      rw[this]
      exact zp _
    . cases h
  . cases h
 | makeMap t r =>
  simp only[jt,Hg]at h
  split at h
  . cases h
    exact⟨_,rfl,fun e he=>by simp at he,rfl,by simp[kY,hN],by simp[nm]⟩
  . cases h
 | call c =>
  obtain⟨ce,az,T⟩:=c
  cases ce with
  | builtin b=>cases b<;>simp[jR]at hk
  | value f=>simp[jR]at hk
  | invoke x name=>simp[jR]at hk
 | _=>simp[jR]at hk
end
end Go.Ex
namespace Go.Ex
open Go Go.Sx
abbrev Pl.k(p:Pl):Q5:=jR p.o.op
def Af(ops:List Oper)(masks:List Nat)(p:Pl):Prop:=ops[p.i]? = some p.o/\masks[p.i]? = some p.m
theorem Ly(ops0:List Oper)(masks0:List Nat)(want:Nat):∀ (ops:List Oper) (masks:List Nat) (j:Nat),(∀ k,ops[k]? = ops0[j+k]?)->(∀ k,masks[k]? = masks0[j+k]?)->∀ p∈pick want ops masks j,Af ops0 masks0 p:=by
 intro ops
 induction ops with
 | nil=>intro masks j _ _ p hp;cases masks<;>simp[pick]at hp
 | cons o l ih =>
  intro masks j h1 h2 p hp
  cases masks with
  | nil=>simp[pick]at hp
  | cons m ms =>
   have i1:∀ k,l[k]? = ops0[j+1+k]? := fun k=>by have:=h1 (k+1);rw[show j+1+k=j+(k+1) by omega,<-this];simp
   have i2:∀ k,ms[k]? = masks0[j+1+k]? := fun k=>by have:=h2 (k+1);rw[show j+1+k=j+(k+1) by omega,<-this];simp
   simp only[pick]at hp
   cases hb:Nat.testBit want j with
   | false=>rw[hb]at hp;exact ih ms (j+1) i1 i2 p hp
   | true =>
    rw[hb]at hp
    simp only[cond_true,zg]at hp
    rcases hp with rfl|hp
    . exact⟨(h1 0).symm.trans rfl,(h2 0).symm.trans rfl⟩
    . exact ih ms (j+1) i1 i2 p hp
theorem RX(ops0:List Oper)(masks0:List Nat):∀ (ops:List Oper) (masks:List Nat) (j:Nat),(∀ k,ops[k]? = ops0[j+k]?)->(∀ k,masks[k]? = masks0[j+k]?)->∀ p∈r6 ops masks j,Af ops0 masks0 p:=by
 intro ops
 induction ops with
 | nil=>intro masks j _ _ p hp;cases masks<;>simp[r6]at hp
 | cons o l ih =>
  intro masks j h1 h2 p hp
  cases masks with
  | nil=>simp[r6]at hp
  | cons m ms =>
   have i1:∀ k,l[k]? = ops0[j+1+k]? := fun k=>by have:=h1 (k+1);rw[show j+1+k=j+(k+1) by omega,<-this];simp
   have i2:∀ k,ms[k]? = masks0[j+1+k]? := fun k=>by have:=h2 (k+1);rw[show j+1+k=j+(k+1) by omega,<-this];simp
   simp only[r6]at hp
   split at hp
   . simp only[zg]at hp
     rcases hp with rfl|hp
     . exact⟨(h1 0).symm.trans rfl,(h2 0).symm.trans rfl⟩
     . exact ih ms (j+1) i1 i2 p hp
   . exact ih ms (j+1) i1 i2 p hp
theorem S5{ops:List Oper}{masks:List Nat}:∀ (cs:List Pl) (placed:Nat),(∀ p∈cs,Af ops masks p)->∀ p∈plan ops masks cs placed,Af ops masks p:=by
 intro cs
 induction cs with
 | nil=>intro placed _ p hp;exact Ly ops masks _ ops masks 0 s_ s_ p hp
 | cons c cs ih =>
  intro placed h p hp
  simp only[plan,zr,zg]at hp
  rcases hp with hp|rfl|hp
  . exact Ly ops masks _ ops masks 0 s_ s_ p hp
  . exact h p (zh ..)
  . exact ih _ (fun q hq=>h q (mQ _ hq)) p hp
theorem Sb{f:Nat}:∀ (l:List Pl) (u:Nat) (p:Pl),B4 f l=true->l[u]? = some p->p.k = .ch->(∀ (x:Nat) (q:Pl),x<u->l[x]? = some q->q.k ≠ .ch)->Nat.testBit p.m f=true:=by
 intro l
 induction l with
 | nil=>intro u p _ h;simp at h
 | cons q l ih =>
  intro u p h hu hk hn
  simp only[B4]at h
  cases u with
  | zero =>
   simp at hu
   subst hu
   split at h
   . exact h
   . rename_i hx;exact absurd hk hx
  | succ u =>
   split at h
   . rename_i hx;exact absurd hx (hn 0 q o_ rfl)
   . exact ih u p h (by simpa using hu) hk fun x r hx hr=>hn (x+1) r o_ (by simpa using hr)
theorem TF{all:Nat}:∀ (l:List Pl) (pl cb:Nat),xL all l pl cb=true ->
 (∀ (t:Nat) (p:Pl),l[t]? = some p->Nat.testBit pl p.i=false/\(∀ k,Nat.testBit p.m k=true->Nat.testBit pl k=true\/∃ (t' : Nat) (p' : Pl),t' < t/\l[t']? = some p' /\ p'.i=k)/\(∀ (t' : Nat) (p' : Pl),t' < t->l[t']? = some p' -> p'.i≠p.i) /\
  (p.k = .ch->(∀ k,Nat.testBit cb k=true->Nat.testBit p.m k=true)/\∀ (t' : Nat) (p' : Pl),t' < t->l[t']? = some p' -> p'.k = .ch->Nat.testBit p.m p'.i=true) /\
  (p.k = .fl->∀ (u:Nat) (q:Pl),t<u->l[u]? = some q->q.k = .ch->(∀ (x:Nat) (r:Pl),t<x->x<u->l[x]? = some r->r.k ≠ .ch)->Nat.testBit q.m p.i=true)) /\
 (∀ k,Nat.testBit all k=true->Nat.testBit pl k=true\/∃ (t:Nat) (p:Pl),l[t]? = some p/\p.i=k):=by
 intro l
 induction l with
 | nil =>
  intro pl cb h
  have:=z7 h
  subst this
  exact⟨fun t p hp=>by simp at hp,fun k hk=>.inl hk⟩
 | cons q l ih =>
  intro pl cb h
  simp only[xL,zt]at h
  obtain⟨⟨h1,h2⟩,h3⟩:=h
  have h1:Nat.testBit pl q.i=false:=by simpa using h1
  have key:∀ cb', xL all l (pl ||| 2 ^ q.i) cb' = true->(q.k = .ch->cb' = cb ||| 2 ^ q.i)->(q.k ≠ .ch->cb' = cb)->(q.k = .ch->sub cb q.m=true)->(q.k = .fl->B4 q.i l=true) ->
   (∀ (t:Nat) (p:Pl),(q :: l)[t]? = some p->Nat.testBit pl p.i=false/\(∀ k,Nat.testBit p.m k=true->Nat.testBit pl k=true\/∃ (t' : Nat) (p' : Pl),t' < t/\(q :: l)[t']? = some p' /\ p'.i=k)/\(∀ (t' : Nat) (p' : Pl),t' < t->(q :: l)[t']? = some p' -> p'.i≠p.i) /\
    (p.k = .ch->(∀ k,Nat.testBit cb k=true->Nat.testBit p.m k=true)/\∀ (t' : Nat) (p' : Pl),t' < t->(q :: l)[t']? = some p' -> p'.k = .ch->Nat.testBit p.m p'.i=true) /\
    (p.k = .fl->∀ (u:Nat) (q' : Pl),t<u->(q :: l)[u]? = some q' -> q'.k = .ch->(∀ (x:Nat) (r:Pl),t<x->x<u->(q :: l)[x]? = some r->r.k ≠ .ch)->Nat.testBit q'.m p.i=true)) /\
   (∀ k,Nat.testBit all k=true->Nat.testBit pl k=true\/∃ (t:Nat) (p:Pl),(q :: l)[t]? = some p/\p.i=k):=by
   intro cb' h4 hc1 hc2 hs hf
   obtain⟨IH1,IH2⟩:=ih _ _ h4
   refine⟨fun t p hp=>?_,fun k hk=>?_⟩
   . cases t with
     | zero =>
      simp at hp
      subst hp
      refine⟨h1,fun k hk=>.inl (Io h2 hk),fun t' p' ht=>by omega,fun hk=>⟨fun k hk' => Io (hs hk) hk', fun t' p' ht=>by omega⟩,fun hk u q' hu hq' hk' hn=>?_⟩
      cases u with
      | zero=>omega
      | succ u=>exact Sb l u q' (hf hk) (by simpa using hq') hk' fun x r hx hr=>hn (x+1) r o_ o_ (by simpa using hr)
     | succ t =>
      obtain⟨g1,g2,g3,g4,g5⟩:=IH1 t p (by simpa using hp)
      have g1' : Nat.testBit pl p.i=false/\q.i≠p.i:=by
       have hn:¬ (Nat.testBit pl p.i=true\/Nat.testBit (2 ^ q.i) p.i=true):=by
        rw[<-oT,g1];simp
       refine⟨?_,fun e=>hn (.inr (uw.2 e))⟩
       cases hb:Nat.testBit pl p.i with
       | false=>rfl
       | true=>exact absurd (.inl hb) hn
      refine⟨g1'.1,fun k hk=>?_,fun t' p' ht hp' => ?_,fun hk=>⟨fun k hk' => ?_,fun t' p' ht hp' hk' => ?_⟩,fun hk u q' hu hq' hk' hn=>?_⟩
      . rcases g2 k hk with h5|⟨t', p', ht,hp', e⟩
        . rw[oT,uw]at h5
          rcases h5 with h5|h5
          . exact .inl h5
          . exact .inr ⟨0,q,o_,rfl,h5⟩
        . exact .inr ⟨t' + 1,p', o_,by simpa using hp', e⟩
      . cases t' with
        | zero=>simp at hp'; subst hp'; exact g1'.2
        | succ t' => exact g3 t' p' o_ (by simpa using hp')
      . refine(g4 hk).1 k ?_
        by_cases hq:q.k = .ch
        . rw[hc1 hq,oT];exact .inl hk'
        . rw[hc2 hq];exact hk'
      . cases t' with
        | zero =>
         simp at hp'
         subst hp'
         refine(g4 hk).1 q.i ?_
         rw[hc1 hk', oT,uw]
         exact .inr rfl
        | succ t' => exact(g4 hk).2 t' p' o_ (by simpa using hp') hk'
      . cases u with
        | zero=>omega
        | succ u=>exact g5 hk u q' o_ (by simpa using hq') hk' fun x r hx hx' hr=>hn (x+1) r o_ o_ (by simpa using hr)
   . rcases IH2 k hk with h5|⟨t,p,hp,e⟩
     . rw[oT,uw]at h5
       rcases h5 with h5|h5
       . exact .inl h5
       . exact .inr ⟨0,q,rfl,h5⟩
     . exact .inr ⟨t+1,p,by simpa using hp,e⟩
  split at h3
  . rename_i hk
    rw[zt]at h3
    exact key _ h3.2 (fun _=>rfl) (fun h=>absurd hk h) (fun _=>h3.1) (fun h=>by rw[show q.k = .ch from hk]at h;cases h)
  . rename_i hk
    rw[zt]at h3
    exact key _ h3.2 (fun h=>by rw[show q.k = .fl from hk]at h;cases h) (fun _=>rfl) (fun h=>by rw[show q.k = .fl from hk]at h;cases h) (fun _=>h3.1)
  . rename_i hk1 hk2
    exact key _ h3 (fun h=>absurd h hk1) (fun _=>rfl) (fun h=>absurd h hk1) (fun h=>absurd h hk2)
section
variable {P:Program} {rec:Rec} {ops:List Oper} {n:Nat}
def mU(rs:List Rc)(z:ji)(t:Nat):ji := match rs[t]? with
 | some r=>r.σ
 | none=>z
def iJ(rs:List Rc)(z:AH)(t:Nat):AH:=match rs[t]? with
 | some r=>r.A
 | none=>z
def jh(rs:List Rc)(z:AH)(t:Nat):AH:=match rs[t]? with
 | some r=>r.B
 | none=>z
structure JC (P:Program) (rec:Rec) (ops:List Oper) (n:Nat) (r:Rc) (σ1:ji) (A1 B1:AH):Prop where
 σ:σ1=pY r.σ r.p.o.dst r.v
 Fy:nm r.v<=A1.nf
 nf:r.A.nf<=A1.nf
 B:B1=xJ r.p.o A1 r.B
 tk:r.tk=s8 ops n r.σ r.p.o.guard
 off:r.tk=false->r.v=undef/\A1=r.A
 on:r.tk=true->v8 P rec r.p.o n r.σ r.A r.B=some (r.v,A1)
theorem UK:∀ (l:List Pl) (σ:ji) (A B:AH) (rs:List Rc) (σ' : ji) (A' B' : AH),Gc P rec ops n l σ A B=some (rs,σ', A', B') ->
 rs.map (·.p)=l/\mU rs σ' 0=σ/\iJ rs A' 0=A/\jh rs B' 0=B/\∀ (t:Nat) (r:Rc),rs[t]? = some r->JC P rec ops n r (mU rs σ' (t+1)) (iJ rs A' (t+1)) (jh rs B' (t+1)):=by
 intro l
 induction l with
 | nil =>
  intro σ A B rs σ' A' B' h
  cases h
  exact⟨rfl,rfl,rfl,rfl,fun t r hr=>by simp at hr⟩
 | cons p l ih =>
  intro σ A B rs σ' A' B' h
  simp only[Gc]at h
  split at h
  . rename_i v A1 tk hx
    obtain⟨hb,h⟩:=Au h
    split at h
    . rename_i rs1 z hz
      cases h
      obtain⟨h1,h2,h3,h4,h5⟩:=ih _ _ _ _ _ _ _ hz
      rw[zt]at hb
      have hst:JC P rec ops n ⟨p,σ,A,B,v,tk⟩ (mU rs1 σ' 0) (iJ rs1 A' 0) (jh rs1 B' 0):=by
       rw[h2,h3,h4]
       refine⟨rfl,za hb.1,za hb.2,rfl,?_,?_,?_⟩
       . simp only
         cases ht:s8 ops n σ p.o.guard with
         | true =>
          rw[ht]at hx
          simp only[cond_true]at hx
          obtain⟨y,_,e⟩:=map_some hx
          cases e;rfl
         | false=>rw[ht]at hx;cases hx;rfl
       . intro ht
         simp only at ht
         subst ht
         cases ht:s8 ops n σ p.o.guard with
         | true =>
          rw[ht]at hx
          simp only[cond_true]at hx
          obtain⟨y,_,e⟩:=map_some hx
          cases e
         | false=>rw[ht]at hx;cases hx;exact⟨rfl,rfl⟩
       . intro ht
         simp only at ht
         subst ht
         cases ht:s8 ops n σ p.o.guard with
         | true =>
          rw[ht]at hx
          simp only[cond_true]at hx
          obtain⟨y,hy,e⟩:=map_some hx
          cases e;exact hy
         | false=>rw[ht]at hx;cases hx
      refine⟨by simp[h1],rfl,rfl,rfl,fun t r hr=>?_⟩
      cases t with
      | zero=>simp at hr;subst hr;exact hst
      | succ t=>exact h5 t r (by simpa using hr)
    . cases h
  . cases h
def CV(rs:List Rc)(u:Nat):Prop:=u=rs.length\/∃ r,rs[u]? = some r/\r.p.k = .ch
theorem Uh{Bf:AH}:∀ (rs:List Rc) (cb u:Nat),CV rs u->∃ cb', (cb', jh rs Bf u)∈wh rs cb Bf/\∀ k,Nat.testBit cb' k=true↔Nat.testBit cb k=true\/∃ (t:Nat) (r:Rc),t<u/\rs[t]? = some r/\r.p.k = .ch/\r.p.i=k:=by
 intro rs
 induction rs with
 | nil =>
  intro cb u hu
  rcases hu with rfl|⟨r,hr,_⟩
  . exact⟨cb,by simp[wh,jh],fun k=>⟨.inl,fun h=>by rcases h with h|⟨t,r,ht,_⟩;exact h;simp at ht⟩⟩
  . simp at hr
 | cons q rs ih =>
  intro cb u hu
  cases u with
  | zero =>
   rcases hu with h|⟨r,hr,hk⟩
   . simp at h
   . simp at hr
     subst hr
     refine⟨cb,?_,fun k=>⟨.inl,fun h=>by rcases h with h|⟨t,r,ht,_⟩;exact h;omega⟩⟩
     simp only[wh]
     rw[show jR q.p.o.op = .ch from hk]
     simp[jh]
  | succ u =>
   have hu' : CV rs u:=by
    rcases hu with h|⟨r,hr,hk⟩
    . exact .inl (by simpa using h)
    . exact .inr ⟨r,by simpa using hr,hk⟩
   by_cases hq:q.p.k = .ch
   . obtain⟨cb', h1,h2⟩:=ih (cb ||| 2 ^ q.p.i) u hu'
     refine⟨cb', ?_,fun k=>?_⟩
     . simp only[wh]
       rw[show jR q.p.o.op = .ch from hq]
       exact mQ _ h1
     . rw[h2,oT,uw]
       constructor
       . rintro((h|h)|⟨t,r,ht,hr,h⟩)
         . exact .inl h
         . exact .inr ⟨0,q,o_,rfl,hq,h⟩
         . exact .inr ⟨t+1,r,o_,by simpa using hr,h⟩
       . rintro(h|⟨t,r,ht,hr,hk,h⟩)
         . exact .inl (.inl h)
         . cases t with
           | zero=>simp at hr;subst hr;exact .inl (.inr h)
           | succ t=>exact .inr ⟨t,r,o_,by simpa using hr,hk,h⟩
   . obtain⟨cb', h1,h2⟩:=ih cb u hu'
     refine⟨cb', ?_,fun k=>?_⟩
     . simp only[wh]
       exact h1
     . rw[h2]
       constructor
       . rintro(h|⟨t,r,ht,hr,h⟩)
         . exact .inl h
         . exact .inr ⟨t+1,r,o_,by simpa using hr,h⟩
       . rintro(h|⟨t,r,ht,hr,hk,h⟩)
         . exact .inl h
         . cases t with
           | zero=>simp at hr;subst hr;exact absurd hk hq
           | succ t=>exact .inr ⟨t,r,o_,by simpa using hr,hk,h⟩
theorem Ss{k j:Nat}:∀ (l:List Pl),Nat.testBit (waiters k l) j=true↔∃ p∈l,p.k = .ch/\Nat.testBit p.m k=true/\p.i=j:=by
 intro l
 induction l with
 | nil=>simp[waiters]
 | cons r l ih =>
  simp only[waiters]
  split
  . rename_i hk
    cases hb:Nat.testBit r.m k with
    | true =>
     simp only[cond_true,oT,uw,ih,zg]
     constructor
     . rintro(h|⟨q,hq,h⟩)
       . exact⟨r,.inl rfl,hk,hb,h⟩
       . exact⟨q,.inr hq,h⟩
     . rintro⟨q,rfl|hq,h⟩
       . exact .inl h.2.2
       . exact .inr ⟨q,hq,h⟩
    | false =>
     simp only[cond_false,ih,zg]
     constructor
     . rintro⟨q,hq,h⟩;exact⟨q,.inr hq,h⟩
     . rintro⟨q,rfl|hq,h⟩
       . rw[hb]at h;simp at h
       . exact⟨q,hq,h⟩
  . rename_i hk
    rw[ih]
    simp only[zg]
    constructor
    . rintro⟨q,hq,h⟩;exact⟨q,.inr hq,h⟩
    . rintro⟨q,rfl|hq,h⟩
      . exact absurd h.1 hk
      . exact⟨q,hq,h⟩
theorem TO{j:Nat}:∀ (l:List Pl),Nat.testBit (r8 l) j=true↔∃ p∈l,p.k = .ch/\p.i=j:=by
 intro l
 induction l with
 | nil=>simp[r8]
 | cons r l ih =>
  simp only[r8]
  split
  . rename_i hk
    simp only[oT,uw,ih,zg]
    constructor
    . rintro(h|⟨q,hq,h⟩)
      . exact⟨r,.inl rfl,hk,h⟩
      . exact⟨q,.inr hq,h⟩
    . rintro⟨q,rfl|hq,h⟩
      . exact .inl h.2
      . exact .inr ⟨q,hq,h⟩
  . rename_i hk
    rw[ih]
    simp only[zg]
    constructor
    . rintro⟨q,hq,h⟩;exact⟨q,.inr hq,h⟩
    . rintro⟨q,rfl|hq,h⟩
      . exact absurd h.1 hk
      . exact⟨q,hq,h⟩
theorem RW:∀ (l:List Pl),D4 l=true->∀ p∈l,p.k ≠ .ch/\p.k ≠ .fl:=by
 intro l
 induction l with
 | nil=>intro _ p hp;cases hp
 | cons r l ih =>
  intro h p hp
  simp only[D4]at h
  split at h
  . cases h
  . cases h
  . rename_i h1 h2
    rcases zg.1 hp with rfl|hp
    . exact⟨h1,h2⟩
    . exact ih h p hp
theorem Sf{m b:Nat}:∀ (rs:List Rc),b∈rZ m rs->∃ r∈rs,r.p.k = .fl/\r.tk=true/\Nat.testBit m r.p.i=true/\r.A.nf=b:=by
 intro rs
 induction rs with
 | nil=>simp[rZ]
 | cons r rs ih =>
  intro h
  simp only[rZ]at h
  have up:(∃ q∈rs,q.p.k = .fl/\q.tk=true/\Nat.testBit m q.p.i=true/\q.A.nf=b)->∃ q∈r :: rs,q.p.k = .fl/\q.tk=true/\Nat.testBit m q.p.i=true/\q.A.nf=b:=fun⟨q,hq,h⟩=>⟨q,mQ _ hq,h⟩
  split at h
  . rename_i hk
    cases hb:(r.tk&&Nat.testBit m r.p.i)with
    | false=>rw[hb]at h;exact up (ih h)
    | true =>
     rw[hb]at h
     simp only[cond_true,zg]at h
     rw[zt]at hb
     rcases h with h|h
     . exact⟨r,zh ..,hk,hb.1,hb.2,h.symm⟩
     . exact up (ih h)
  . exact up (ih h)
theorem Mq{rd:Bool}{r:Rc}{fs:List Nat}{mk wk:Nat}:∀ (hs:List (Nat×AH)),xN P rd n r fs mk wk hs=true->∀ cb H,(cb,H)∈hs->sub mk cb=true->wk &&& cb=0 ->
 kY H.nf fs r.v=true/\(rd=true->r.tk=true->∃ v,xq P r.p.o n r.σ H.h=some v/\v=r.v):=by
 intro hs
 induction hs with
 | nil=>intro _ cb H h;cases h
 | cons x hs ih =>
  obtain⟨cb0,H0⟩:=x
  intro h cb H hm h1 h2
  simp only[xN,zt]at h
  rcases zg.1 hm with e|hm
  . cases e
    have h3:=h.1
    have hb:(sub mk cb0&&Nat.beq (wk &&& cb0) 0)=true:=by rw[h1,h2];rfl
    rw[hb]at h3
    simp only[cond_true,zt]at h3
    refine⟨h3.1,fun hr ht=>?_⟩
    have h4:=h3.2
    rw[hr,ht]at h4
    simp only[Bool.and_self,cond_true]at h4
    split at h4
    . rename_i v hv;exact⟨v,hv,I7 _ _ h4⟩
    . cases h4
  . exact ih h.2 cb H hm h1 h2
theorem Sp{hs:List (Nat×AH)}{pln:List Pl}{all:List Rc}:∀ (rs:List Rc),Ej P n hs pln all rs=true->∀ r∈rs,(r.p.k = .pure->xN P false n r (rZ r.p.m all) (r.p.m &&& r8 pln) (waiters r.p.i pln) hs=true) /\
 (r.p.k = .read->xN P true n r (rZ r.p.m all) (r.p.m &&& r8 pln) (waiters r.p.i pln) hs=true):=by
 intro rs
 induction rs with
 | nil=>intro _ r hr;cases hr
 | cons q rs ih =>
  intro h r hr
  simp only[Ej,zt]at h
  rcases zg.1 hr with rfl|hr
  . have h1:=h.1
    exact⟨fun hk=>by rw[show jR r.p.o.op = .pure from hk]at h1;exact h1,fun hk=>by rw[show jR r.p.o.op = .read from hk]at h1;exact h1⟩
  . exact ih h.2 r hr
end
end Go.Ex
namespace Go.Ex
open Go Go.Sx
structure Dr (P:Program) (rec:Rec) (ops:List Oper) (n:Nat) (masks:List Nat) (rs:List Rc) (σ' : ji) (A' B' : AH):Prop where
 E5:Cj ops (ny masks)
 len:rs.length=ops.length
 kr:∀ (t:Nat) (r:Rc),rs[t]? = some r->Af ops masks r.p
 KJ:∀ (t:Nat) (r:Rc) (k:Nat),rs[t]? = some r->Nat.testBit r.p.m k=true->∃ (t' : Nat) (r' : Rc),t' < t/\rs[t']? = some r' /\ r'.p.i=k
 inj:∀ (t t' : Nat) (r r' : Rc),rs[t]? = some r->rs[t']? = some r' -> r.p.i=r'.p.i->t=t'
 all:∀ i,i<ops.length->∃ (t:Nat) (r:Rc),rs[t]? = some r/\r.p.i=i
 Jw:∀ (t t' : Nat) (r r' : Rc),rs[t]? = some r->rs[t']? = some r' -> t' < t->r.p.k = .ch->r'.p.k = .ch->Nat.testBit r.p.m r'.p.i=true
 Qq:∀ (t u:Nat) (r r' : Rc),rs[t]? = some r->rs[u]? = some r' -> t<u->r.p.k = .fl->r'.p.k = .ch->(∀ (x:Nat) (q:Rc),t<x->x<u->rs[x]? = some q->q.p.k ≠ .ch)->Nat.testBit r'.p.m r.p.i=true
 step:∀ (t:Nat) (r:Rc),rs[t]? = some r->JC P rec ops n r (mU rs σ' (t+1)) (iJ rs A' (t+1)) (jh rs B' (t+1))
 same:iJ rs A' 0=jh rs B' 0
 big:A'.nf<=qP
 gG:∀ (t:Nat) (r:Rc) (u:Nat),rs[t]? = some r->CV rs u->(r.p.k = .pure\/r.p.k = .read)->(∀ (j:Nat) (q:Rc),rs[j]? = some q->q.p.k = .ch->Nat.testBit r.p.m q.p.i=true->j<u) ->
  (∀ (j:Nat) (q:Rc),rs[j]? = some q->q.p.k = .ch->Nat.testBit q.p.m r.p.i=true->u<=j) ->
  kY (jh rs B' u).nf (rZ r.p.m rs) r.v=true/\(r.p.k = .read->r.tk=true->xq P r.p.o n r.σ (jh rs B' u).h=some r.v)
mutual
theorem Je(k:Nat)(fs:List Nat):∀ v:Value,nm v<=k->kY k fs v=true
 | .pointer (some a),hn=>by simp only[nm]at hn;simp only[kY,wI];exact .inl (s5 o_)
 | .slice (some a) _ _,hn=>by simp only[nm]at hn;simp only[kY,wI];exact .inl (s5 o_)
 | .map (some r),hn=>by simp only[nm]at hn;simp only[kY,wI];exact .inl (s5 o_)
 | .chan (some r),hn=>by simp only[nm]at hn;simp only[kY,wI];exact .inl (s5 o_)
 | .func fn fi ca,hn=>by
  simp only[nm,oL]at hn
  simp only[kY,zt]
  refine⟨⟨?_,D2 k fs fi hn.2.1⟩,D2 k fs ca hn.2.2⟩
  cases fn<;>try rfl
  rename_i l
  simp only[wI]
  exact .inl (s5 (by have:=hn.1;simp at this;omega))
 | .iface t v,hn=>by simp only[nm]at hn;simp only[kY];exact Je k fs v hn
 | .agg cs,hn=>by simp only[nm]at hn;simp only[kY];exact D2 k fs cs hn
 | .tuple cs,hn=>by simp only[nm]at hn;simp only[kY];exact D2 k fs cs hn
 | .pointer none,_=>rfl
 | .slice none _ _,_=>rfl
 | .map none,_=>rfl
 | .chan none,_=>rfl
 | .bool _,_=>rfl
 | .int _ _,_=>rfl
 | .float _ _,_=>rfl
 | .complex _ _ _,_=>rfl
 | .string _,_=>rfl
 | .nilFunc,_=>rfl
 | .nilIface,_=>rfl
theorem D2(k:Nat)(fs:List Nat):∀ a:Array Value,jL a<=k->wg k fs a=true
 | ⟨l⟩,hn=>by simp only[jL]at hn;simp only[wg];exact NR k fs l hn
theorem NR(k:Nat)(fs:List Nat):∀ l:List Value,gW l<=k->AA k fs l=true
 | [],_=>rfl
 | v :: l,hn=>by simp only[gW,oL]at hn;simp only[AA,zt];exact⟨Je k fs v hn.1,NR k fs l hn.2⟩
end
theorem W9{P:Program}{rec:Rec}{q:Bool}{ops:List Oper}{n:Nat}{σ σ' : ji}{A A' : AH}(h:Fb P rec q ops n σ A=some (σ', A')) :
 ∃ masks rs B', Dr P rec ops n masks rs σ' A' B' /\ mU rs σ' 0=σ/\iJ rs A' 0=A:=by
 unfold Fb at h
 split at h
 . rename_i masks hsc
   obtain⟨hpl,h⟩:=Au h
   split at h
   . rename_i rs σ1 A1 B1 hx
     obtain⟨hc,h⟩:=Au h
     cases h
     rw[zt]at hc
     obtain⟨hR,hlm⟩:=Tx hsc
     obtain⟨h1,h2,h3,h4,h5⟩:=UK _ _ _ _ _ _ _ _ hx
     obtain⟨p1,p2⟩:=TF _ _ _ hpl
     have hright:=S5 (ops:=ops) (masks:=masks) (r6 ops masks 0) 0 (RX ops masks ops masks 0 s_ s_)
     rw[<-h1]at p1 p2 hright hc
     have get:∀ (t:Nat) (r:Rc),rs[t]? = some r->(rs.map (·.p))[t]? = some r.p:=fun t r hr=>by rw[kX,hr];rfl
     have got:∀ (t:Nat) (p:Pl),(rs.map (·.p))[t]? = some p->∃ r,rs[t]? = some r/\r.p=p:=fun t p hp=>by
      rw[kX]at hp
      cases hr:rs[t]? with
      | none=>rw[hr]at hp;cases hp
      | some r=>rw[hr]at hp;exact⟨r,rfl,by simpa using hp⟩
     have kr:∀ (t:Nat) (r:Rc),rs[t]? = some r->Af ops masks r.p:=fun t r hr=>hright r.p (ze (get t r hr))
     have inj:∀ (t t' : Nat) (r r' : Rc),rs[t]? = some r->rs[t']? = some r' -> r.p.i=r'.p.i->t=t' := by
      intro t t' r r' hr hr' e
      rcases vg t t' with hlt|he|hlt
      . exact absurd e ((p1 t' r'.p (get _ _ hr')).2.2.1 t r.p hlt (get _ _ hr))
      . exact he
      . exact absurd e.symm ((p1 t r.p (get _ _ hr)).2.2.1 t' r'.p hlt (get _ _ hr'))
     have hall:∀ i,i<ops.length->∃ (t:Nat) (r:Rc),rs[t]? = some r/\r.p.i=i:=by
      intro i hi
      have:Nat.testBit (2 ^ ops.length-1) i=true:=by rw[Nat.testBit_two_pow_sub_one];simpa using hi
      rcases p2 i this with h6|⟨t,p,hp,e⟩
      . simp at h6
      . obtain⟨r,hr,rfl⟩:=got t p hp
        exact⟨t,r,hr,e⟩
     have hilt:∀ (t:Nat) (r:Rc),rs[t]? = some r->r.p.i<ops.length:=fun t r hr=>(zb.1 (kr t r hr).1).1
     have hlen:rs.length=ops.length:=by
      have l1:(rs.map (·.p.i)).Nodup:=by
       rw[List.nodup_iff_pairwise_ne,yP]
       intro a b ha hb hab e
       simp only[zu]at ha hb
       simp only[List.getElem_map]at e
       have:=inj a b rs[a] rs[b] (zo ha) (zo hb) e
       omega
      have l2:∀ x∈rs.map (·.p.i),x∈List.range ops.length:=by
       intro x hx
       obtain⟨r,hr,rfl⟩:=jW.1 hx
       obtain⟨t,ht⟩:=yA.1 hr
       exact ni.2 (hilt t r ht)
      have l3:∀ x∈List.range ops.length,x∈rs.map (·.p.i):=by
       intro x hx
       obtain⟨t,r,hr,e⟩:=hall x (ni.1 hx)
       exact jW.2 ⟨r,ze hr,e⟩
      have p:(rs.map (·.p.i)).Perm (List.range ops.length):=(List.perm_ext_iff_of_nodup l1 C4).2 fun x=>⟨l2 x,l3 x⟩
      simpa using p.length_eq
     refine⟨masks,rs,B1,⟨hR,hlen,kr,?_,inj,hall,?_,?_,h5,by rw[h3,h4],za hc.1,?_⟩,h2,h3⟩
     . intro t r k hr hk
       rcases(p1 t r.p (get _ _ hr)).2.1 k hk with h6|⟨t', p', ht,hp', e⟩
       . simp at h6
       . obtain⟨r', hr', rfl⟩:=got t' p' hp'
         exact⟨t', r', ht,hr', e⟩
     . intro t t' r r' hr hr' hlt hk hk'
       exact((p1 t r.p (get _ _ hr)).2.2.2.1 hk).2 t' r'.p hlt (get _ _ hr') hk'
     . intro t u r r' hr hr' hlt hk hk' hn
       refine(p1 t r.p (get _ _ hr)).2.2.2.2 hk u r'.p hlt (get _ _ hr') hk' fun x q hx hx' hq=>?_
       obtain⟨rq,hrq,rfl⟩:=got x q hq
       exact hn x rq hx hx' hrq
     . intro t r u hr hu hk c1 c2
       rcases rO.1 hc.2 with hqt|hc2
       . -- nothing is written and nothing is new
         have hqs:=RW _ hqt
         have kq:∀ (x:Nat) (q:Rc),rs[x]? = some q->q.p.k ≠ .ch/\q.p.k ≠ .fl:=fun x q hq=>hqs q.p (ze (get x q hq))
         have hstay:∀ x,x<=rs.length->iJ rs A' x=A/\jh rs B1 x=A:=by
          intro x
          induction x with
          | zero=>intro _;exact⟨h3,h4⟩
          | succ x ih =>
           intro hx
           obtain⟨q,hq⟩:∃ q,rs[x]? = some q:=⟨_,zo o_⟩
           obtain⟨i1,i2⟩:=ih o_
           have hs:=h5 x q hq
           have e1:q.A=A:=by
            have:iJ rs A' x=q.A:=by unfold iJ;rw[hq]
            rw[<-this];exact i1
           have e2:q.B=A:=by
            have:jh rs B1 x=q.B:=by unfold jh;rw[hq]
            rw[<-this];exact i2
           have hA:iJ rs A' (x+1)=q.A:=by
            cases ht:q.tk with
            | false=>exact(hs.off ht).2
            | true =>
             have h6:=hs.on ht
             unfold v8 at h6
             cases hkk:jR q.p.o.op with
             | pure=>rw[hkk]at h6;obtain⟨v,_,e⟩:=map_some h6;simp only[Prod.mk.injEq]at e;exact e.2.symm
             | read=>rw[hkk]at h6;obtain⟨v,_,e⟩:=map_some h6;simp only[Prod.mk.injEq]at e;exact e.2.symm
             | fl=>exact absurd hkk (kq x q hq).2
             | ch=>exact absurd hkk (kq x q hq).1
           refine⟨hA.trans e1,?_⟩
           rw[hs.B]
           unfold xJ
           split
           . rename_i hx2;exact absurd hx2 (kq x q hq).1
           . exact e2
         have hul:u<=rs.length:=by
          rcases hu with h6|⟨q,hq,_⟩
          . omega
          . exact sF (zb.1 hq).1
         have htl:t<rs.length:=(zb.1 hr).1
         have hs:=h5 t r hr
         rw[(hstay u hul).2]
         refine⟨Je _ _ _ (by have:=hs.Fy;rw[(hstay (t+1) o_).1]at this;exact this),fun hk2 ht=>?_⟩
         have h6:=hs.on ht
         unfold v8 at h6
         rw[show jR r.p.o.op = .read from hk2]at h6
         obtain⟨v,hv,e⟩:=map_some h6
         simp only[Prod.mk.injEq]at e
         have e2:r.B=A:=by
          have:jh rs B1 t=r.B:=by unfold jh;rw[hr]
          rw[<-this];exact(hstay t o_).2
         rw[e.1,e2]at hv
         exact hv
       obtain⟨cb', m1,m2⟩:=Uh (Bf:=B1) rs 0 u hu
       have m2:∀ k,Nat.testBit cb' k=true↔∃ (t:Nat) (r:Rc),t<u/\rs[t]? = some r/\r.p.k = .ch/\r.p.i=k:=fun k=>by rw[m2];simp
       have s1:sub (r.p.m &&& r8 (rs.map (·.p))) cb' = true:=by
        unfold sub
        rw[Nat.beq_eq]
        apply Nat.eq_of_testBit_eq
        intro j
        cases hj:Nat.testBit (r.p.m &&& r8 (rs.map (·.p))) j with
        | false=>rw[CJ,hj];rfl
        | true =>
         rw[CJ,hj]
         rw[CJ]at hj
         rw[zt]at hj
         obtain⟨pq,hpq,hqk,rfl⟩:=(TO _).1 hj.2
         obtain⟨q,hq,rfl⟩:=jW.1 hpq
         obtain⟨x,hx⟩:=yA.1 hq
         rw[(m2 _).2 ⟨x,q,c1 x q hx hqk hj.1,hx,hqk,rfl⟩]
         rfl
       have s2:waiters r.p.i (rs.map (·.p)) &&& cb' = 0:=by
        apply Nat.eq_of_testBit_eq
        intro j
        cases hj:Nat.testBit (waiters r.p.i (rs.map (·.p)) &&& cb') j with
        | false=>simp
        | true =>
         exfalso
         rw[CJ,zt]at hj
         obtain⟨pq,hpq,hqk,hqm,rfl⟩:=(Ss _).1 hj.1
         obtain⟨q,hq,rfl⟩:=jW.1 hpq
         obtain⟨x,hx⟩:=yA.1 hq
         obtain⟨t', r', ht', hr', hk', e⟩:=(m2 _).1 hj.2
         have:=inj t' x r' q hr' hx e
         have:=c2 x q hx hqk hqm
         omega
       have hmem:=ze hr
       have hca:=Sp rs hc2 r hmem
       rcases hk with hk|hk
       . have:=Mq _ (hca.1 hk) cb' _ m1 s1 s2
         exact⟨this.1,fun h=>by rw[hk]at h;cases h⟩
       . have:=Mq _ (hca.2 hk) cb' _ m1 s1 s2
         exact⟨this.1,fun _ ht=>by obtain⟨v,hv,rfl⟩:=this.2 rfl ht;exact hv⟩
   . cases h
 . cases h
end Go.Ex
namespace Go.Ex
open Go Go.Sx
section
variable {P:Program} {rec:Rec} {ops:List Oper} {n:Nat} {masks:List Nat} {rs:List Rc} {σ' : ji} {A' B' : AH}
theorem Dr.pre(D:Dr P rec ops n masks rs σ' A' B'){t:Nat}{r:Rc}(hr:rs[t]? = some r)(k:Nat):ny masks r.p.i k=Nat.testBit r.p.m k:=by
 unfold ny
 rw[(D.kr t r hr).2]
 rfl
theorem Dr.vp(D:Dr P rec ops n masks rs σ' A' B'){t:Nat}{r:Rc}(hr:rs[t]? = some r):r.p.i<ops.length:=(zb.1 (D.kr t r hr).1).1
theorem pS{t:Nat}{r:Rc}(hr:rs[t]? = some r):iJ rs A' t=r.A:=by unfold iJ;rw[hr]
theorem Eo{t:Nat}{r:Rc}(hr:rs[t]? = some r):jh rs B' t=r.B:=by unfold jh;rw[hr]
theorem zW{t:Nat}{r:Rc}(hr:rs[t]? = some r):mU rs σ' t=r.σ:=by unfold mU;rw[hr]
theorem Is{t:Nat}(h:rs.length<=t):iJ rs A' t=A' := by unfold iJ;rw[nk h]
theorem qz{t:Nat}(h:t<rs.length):∃ r,rs[t]? = some r:=⟨_,zo h⟩
theorem qx{t:Nat}{r:Rc}(h:rs[t]? = some r):t<rs.length:=(zb.1 h).1
theorem Dr.mono(D:Dr P rec ops n masks rs σ' A' B'){t t' : Nat}(h:t<=t')(h' : t' <= rs.length):(iJ rs A' t).nf<=(iJ rs A' t').nf:=by
 obtain⟨d,rfl⟩:∃ d,t' = t+d:=⟨t' - t,o_⟩
 clear h
 induction d with
 | zero=>exact zp _
 | succ d ih =>
  obtain⟨r,hr⟩:=qz (rs:=rs) (t:=t+d) o_
  have:=(D.step _ r hr).nf
  rw[<-pS (A' := A') hr]at this
  exact z1 (ih o_) this
theorem BO{o:Oper}{A1 B:AH}(h:jR o.op = .ch):xJ o A1 B=A1:=by unfold xJ;rw[h]
theorem DX{o:Oper}{A1 B:AH}(h:jR o.op ≠ .ch):xJ o A1 B=B:=by
 unfold xJ
 split
 . rename_i hx;exact absurd hx h
 . rfl
theorem Dr.CB(D:Dr P rec ops n masks rs σ' A' B'):∀ t,t<=rs.length->(jh rs B' t).nf<=(iJ rs A' t).nf:=by
 intro t
 induction t with
 | zero=>intro _;rw[D.same];exact zp _
 | succ t ih =>
  intro h
  obtain⟨r,hr⟩:=qz (rs:=rs) (t:=t) o_
  have hs:=D.step t r hr
  rw[hs.B]
  by_cases hk:jR r.p.o.op = .ch
  . rw[BO hk];exact zp _
  . rw[DX hk]
    have:=ih o_
    rw[Eo hr,pS hr]at this
    exact z1 this hs.nf
theorem Dr.ground(D:Dr P rec ops n masks rs σ' A' B'){s u:Nat}(h:s<=u)(h' : u<=rs.length)(hn:∀ (x:Nat) (q:Rc),s<=x->x<u->rs[x]? = some q->q.p.k ≠ .ch):jh rs B' s=jh rs B' u:=by
 obtain⟨d,rfl⟩:∃ d,u=s+d:=⟨u-s,o_⟩
 clear h
 induction d with
 | zero=>rfl
 | succ d ih =>
  obtain⟨r,hr⟩:=qz (rs:=rs) (t:=s+d) o_
  rw[ih o_ fun x q hx hx' hq=>hn x q hx o_ hq,show s+(d+1)=s+d+1 by omega,(D.step _ r hr).B,DX (hn _ r o_ o_ hr),Eo hr]
theorem Dr.seg(D:Dr P rec ops n masks rs σ' A' B'):∀ u,u<=rs.length->∃ s,s<=u/\iJ rs A' s=jh rs B' u/\∀ (x:Nat) (q:Rc),s<=x->x<u->rs[x]? = some q->q.p.k ≠ .ch:=by
 intro u
 induction u with
 | zero=>intro _;exact⟨0,zp _,D.same,fun x q _ h=>by omega⟩
 | succ u ih =>
  intro h
  obtain⟨r,hr⟩:=qz (rs:=rs) (t:=u) o_
  have hs:=D.step u r hr
  by_cases hk:r.p.k = .ch
  . exact⟨u+1,zp _,by rw[hs.B,BO hk],fun x q _ h=>by omega⟩
  . obtain⟨s,h1,h2,h3⟩:=ih o_
    refine⟨s,o_,by rw[h2,hs.B,DX hk,Eo hr],fun x q hx hx' hq=>?_⟩
    by_cases e:x=u
    . subst e
      rw[hr]at hq
      cases hq
      exact hk
    . exact h3 x q hx o_ hq
theorem Dr.low(D:Dr P rec ops n masks rs σ' A' B'){u t:Nat}(hu:u<=rs.length)(ht:t<=rs.length)(hn:∀ (x:Nat) (q:Rc),t<=x->x<u->rs[x]? = some q->q.p.k ≠ .ch):(jh rs B' u).nf<=(iJ rs A' t).nf:=by
 rcases qH t u with h|h
 . rw[<-D.ground (sF h) hu hn]
   exact D.CB t ht
 . exact z1 (D.CB u hu) (D.mono h ht)
theorem Dr.below(D:Dr P rec ops n masks rs σ' A' B'){u t x:Nat}{q:Rc}(hu:u<=rs.length)(htx:t<=x+1)(hxu:x<u)(hq:rs[x]? = some q)(hk:q.p.k = .ch):(iJ rs A' t).nf<=(jh rs B' u).nf:=by
 have h1:(iJ rs A' t).nf<=(iJ rs A' (x+1)).nf:=D.mono o_ o_
 -- the ground just behind x
 have h2:jh rs B' (x+1)=iJ rs A' (x+1):=by rw[(D.step x q hq).B,BO hk]
 have h3:∀ d,x+1+d<=rs.length->(iJ rs A' (x+1)).nf<=(jh rs B' (x+1+d)).nf:=by
  intro d
  induction d with
  | zero=>intro _;rw[nF,h2];exact zp _
  | succ d ih =>
   intro hd
   obtain⟨r,hr⟩:=qz (rs:=rs) (t:=x+1+d) o_
   have hs:=D.step _ r hr
   rw[show x+1+(d+1)=x+1+d+1 by omega,hs.B]
   by_cases hk' : jR r.p.o.op = .ch
   . rw[BO hk'];exact D.mono o_ o_
   . rw[DX hk']
     have:=ih o_
     rwa [Eo hr]at this
 have h4:=h3 (u-(x+1)) o_
 rw[show x+1+(u-(x+1))=u by omega]at h4
 omega
theorem Dr.Gd(D:Dr P rec ops n masks rs σ' A' B')(h0:jV (iJ rs A' 0).nf (mU rs σ' 0)):∀ t,t<=rs.length->jV (iJ rs A' t).nf (mU rs σ' t):=by
 intro t
 induction t with
 | zero=>intro _;exact h0
 | succ t ih =>
  intro h
  obtain⟨r,hr⟩:=qz (rs:=rs) (t:=t) o_
  have hs:=D.step t r hr
  have:=ih o_
  rw[pS hr,zW hr]at this
  rw[hs.σ]
  exact(this.mono hs.nf).put hs.Fy
theorem Dr.EO(D:Dr P rec ops n masks rs σ' A' B'){t:Nat}(h:t<=rs.length):(iJ rs A' t).nf<=qP:=by
 have:=D.mono h (zp _)
 rw[Is (zp _)]at this
 exact z1 this D.big
theorem Dr.made(D:Dr P rec ops n masks rs σ' A' B'){t:Nat}{r:Rc}(hr:rs[t]? = some r)(hk:r.p.k = .fl)(htk:r.tk=true) :
 ∃ ob B,iJ rs A' (t+1)=r.A.add ob/\jt P r.p.o.type r.p.o.op (mE n r.σ) ⟨.e,r.A.nf⟩=some (.val r.v,B)/\B=(⟨.e,r.A.nf⟩:AH).add ob/\ob.Wf 0/\ob.ro=false/\kY 0 [r.A.nf] r.v=true/\nm r.v<=r.A.nf+1:=by
 have h:=(D.step t r hr).on htk
 unfold v8 at h
 rw[show jR r.p.o.op = .fl from hk]at h
 simp only[Rh]at h
 split at h
 . rename_i v B hx
   split at h
   . rename_i ob hob
     simp only[Option.some.injEq,Prod.mk.injEq]at h
     obtain⟨rfl,h⟩:=h
     obtain⟨ob', e,h1,h2,h3,h4⟩:=VW hk hx
     subst e
     have:ob' = ob:=by
      rw[qo]at hob
      simpa using hob
     subst this
     exact⟨ob', _,h.symm,hx,rfl,h1,h2,h3,h4⟩
   . cases h
 . cases h
theorem Dr.quiet(D:Dr P rec ops n masks rs σ' A' B'){t:Nat}{r:Rc}(hr:rs[t]? = some r)(hk:r.p.k = .pure\/r.p.k = .read):iJ rs A' (t+1)=r.A:=by
 have hs:=D.step t r hr
 cases ht:r.tk with
 | false=>exact(hs.off ht).2
 | true =>
  have h:=hs.on ht
  unfold v8 at h
  rcases hk with hk|hk
  . rw[show jR r.p.o.op = .pure from hk]at h
    obtain⟨v,_,e⟩:=map_some h
    simp only[Prod.mk.injEq]at e
    exact e.2.symm
  . rw[show jR r.p.o.op = .read from hk]at h
    obtain⟨v,_,e⟩:=map_some h
    simp only[Prod.mk.injEq]at e
    exact e.2.symm
open Classical in
noncomputable def valOf(rs:List Rc)(i:Nat):Value:=if h:∃ r,r∈rs/\r.p.i=i then h.choose.v else undef
theorem Dr.val(D:Dr P rec ops n masks rs σ' A' B'){t:Nat}{r:Rc}(hr:rs[t]? = some r):valOf rs r.p.i=r.v:=by
 have h:∃ q,q∈rs/\q.p.i=r.p.i:=⟨r,ze hr,rfl⟩
 unfold valOf
 rw[dif_pos h]
 obtain⟨h1,h2⟩:=h.choose_spec
 obtain⟨t', ht'⟩:=yA.1 h1
 have:=D.inj t' t _ r ht' hr h2
 subst this
 rw[hr]at ht'
 rw[<-Option.some.inj ht']
noncomputable def VV(ops:List Oper)(rs:List Rc):List (Env->Value):=(List.range ops.length).map fun i=>fun g=>fT g (valOf rs i)
theorem Pb{i:Nat}(h:i<ops.length):(VV ops rs)[i]? = some fun g=>fT g (valOf rs i):=by simp[VV,h]
theorem Oa:(VV ops rs).length=ops.length:=by simp[VV]
theorem Yd{i:Nat}(h:i<ops.length)(g:Env):((VV ops rs).map (· g))[i]? = some (fT g (valOf rs i)):=by simp[VV,h]
open Classical in
noncomputable def kG(rs:List Rc)(t i:Nat):Bool:=decide (∃ (t' : Nat) (r:Rc),t' < t/\rs[t']? = some r/\r.p.i=i)
theorem qV{t i:Nat}:kG rs t i=true↔∃ (t' : Nat) (r:Rc),t' < t/\rs[t']? = some r/\r.p.i=i:=by unfold kG;simp
theorem Dr.after(D:Dr P rec ops n masks rs σ' A' B'){t j:Nat}{r:Rc}(hr:rs[t]? = some r)(hj:j<ops.length)(hp:ny masks j r.p.i=true):kG rs t j=false:=by
 cases h:kG rs t j with
 | false=>rfl
 | true =>
  exfalso
  obtain⟨t', r', ht,hr', rfl⟩:=qV.1 h
  rw[D.pre hr']at hp
  obtain⟨t2,r2,ht2,hr2,e⟩:=D.KJ t' r' _ hr' hp
  have:=D.inj t2 t r2 r hr2 hr e
  omega
theorem Dr.NX(D:Dr P rec ops n masks rs σ' A' B'){E0 g:Env}(hs0:jV (iJ rs A' 0).nf (mU rs σ' 0))(hg:∀ b,b<(iJ rs A' 0).nf->g b=E0 b) :
 ∀ t,t<=rs.length->∀ s,s<n->Sx.look (slots n g (mU rs σ' t)) s=Sx.look (gY (kG rs t) 0 ops ((VV ops rs).map (· g)) (slots n E0 (mU rs σ' 0))) s:=by
 intro t
 induction t with
 | zero =>
  intro _ s hs
  rw[kU,wY ops 0 _ (fun j o _ _=>?_),Ds hg hs0]
  . rfl
  . cases h:kG rs 0 (0+j)with
    | false=>rfl
    | true=>obtain⟨t', r,ht,_⟩:=qV.1 h;omega
 | succ t ih =>
  intro h s hs
  obtain⟨r,hr⟩:=qz (rs:=rs) (t:=t) o_
  have hst:=D.step t r hr
  have IH:=ih o_ s hs
  rw[kU,zW hr]at IH
  rw[hst.σ,kU]
  have hil:=D.vp hr
  have ho:=(D.kr t r hr).1
  have hput:Sx.look (slots n g (pY r.σ r.p.o.dst r.v)) s=if r.p.o.dst=some s then fT g r.v else Sx.look (slots n g r.σ) s:=by
   rw[sS,if_pos hs]
   cases hd:r.p.o.dst with
   | none=>simp only[pY,sS,if_pos hs];simp
   | some d =>
    simp only[pY,Tr.ur,Option.some.injEq,sS,if_pos hs]
    by_cases e:s=d
    . subst e;simp
    . rw[if_neg e,if_neg (Ne.symm e)]
  rw[hput]
  by_cases hd:r.p.o.dst=some s
  . rw[if_pos hd,DL ops 0 r.p.i _ r.p.o (fT g r.v) ho hd (by rw[Yd hil,D.val hr]) ?_ ?_]
    . rfl
    . rw[jF];exact qV.2 ⟨t,r,o_,hr,rfl⟩
    . intro j oj hij hj hdj
      rw[jF]
      have hjl:j<ops.length:=(zb.1 hj).1
      have hp:=D.E5.oD r.p.i j r.p.o oj ho hj hij (.inl (by simp[kH,hd,hdj]))
      cases hpl:kG rs (t+1) j with
      | false=>rfl
      | true =>
       exfalso
       obtain⟨t', r', ht,hr', e⟩:=qV.1 hpl
       have hne:t' ≠ t:=by
        intro e2;subst e2
        rw[hr]at hr'; cases hr'
        omega
       have:=D.after hr hjl hp
       rw[qV.2 ⟨t', r', o_,hr', e⟩]at this
       cases this
  . rw[if_neg hd,IH]
    congr 1
    refine rR ops 0 _ _ rfl fun j oj hj hdj=>⟨?_,fun _=>rfl⟩
    rw[jF]
    have hne:j≠r.p.i:=by
     rintro rfl
     rw[ho]at hj;cases hj
     exact hd hdj
    cases h1:kG rs t j with
    | true =>
     obtain⟨t', r', ht,hr', e⟩:=qV.1 h1
     exact(qV.2 ⟨t', r', o_,hr', e⟩).symm
    | false =>
     cases h2:kG rs (t+1) j with
     | false=>rfl
     | true =>
      obtain⟨t', r', ht,hr', e⟩:=qV.1 h2
      by_cases e2:t' = t
      . subst e2
        rw[hr]at hr'; cases hr'
        exact absurd e.symm hne
      . rw[qV.2 ⟨t', r', o_,hr', e⟩]at h1;cases h1
theorem Dr.looks(D:Dr P rec ops n masks rs σ' A' B'){E0 g:Env}{S:Nat->Bool}{t:Nat}{r:Rc}(hs0:jV (iJ rs A' 0).nf (mU rs σ' 0))(hg:∀ b,b<(iJ rs A' 0).nf->g b=E0 b)(hr:rs[t]? = some r)(hU:CE ops (ny masks) r.p.i S) :
 ∀ s,s<n->s∈r.p.o.looksAt ops.toArray->Sx.look (slots n g r.σ) s=Sx.look (gY S 0 ops ((VV ops rs).map (· g)) (slots n E0 (mU rs σ' 0))) s:=by
 intro s hs hl
 have:=D.NX hs0 hg t (sF (qx hr)) s hs
 rw[zW hr]at this
 rw[this,kU,kU]
 congr 1
 refine rR ops 0 _ _ rfl fun j oj hj hdj=>⟨?_,fun _=>rfl⟩
 rw[jF]
 have ho:=(D.kr t r hr).1
 have hjl:j<ops.length:=(zb.1 hj).1
 have htou:kH ops.toArray oj r.p.o=true:=by simp[kH,hdj,hl]
 rcases vg j r.p.i with h|h|h
 . have hp:=D.E5.oD j r.p.i oj r.p.o hj ho h (.inl htou)
   rw[hU.ow j hp]
   rw[D.pre hr]at hp
   exact qV.2 (D.KJ t r j hr hp)
 . subst h
   rw[hU.self]
   cases h1:kG rs t r.p.i with
   | false=>rfl
   | true =>
    obtain⟨t', r', ht,hr', e⟩:=qV.1 h1
    have:=D.inj t' t r' r hr' hr e
    omega
 . have hp:=D.E5.oD r.p.i j r.p.o oj ho hj h (.inr htou)
   rw[hU.notYet j hjl hp]
   exact D.after hr hjl hp
end
end Go.Ex
namespace Go.Ex
open Go Go.Sx
section
variable {E E' E1 g:Env} {A A1 B:AH} {w w1:World} {ob:AO} {c:Obj}
theorem Rel.env(h:Rel E A w)(he:∀ b,b<A.nf->E' b=E b):Rel E' A w:=by
 refine⟨fun b o hb=>?_,fun b b' o o' hb hb' e=>?_,h.wf,fun b hb=>(he b (z6 hb h.low)).trans (h.oe b hb),h.low⟩
 . obtain⟨c,h1,h2⟩:=h.obj b o hb
   have hw:=h.wf b o hb
   rw[he b hw.1]
   exact⟨c,h1,h2.ext he hw.2⟩
 . rw[he b (h.wf b o hb).1,he b' (h.wf b' o' hb').1]at e
   exact h.inj b b' o o' hb hb' e
theorem To.env(h:To E A w E1 A1 w1)(hr:Rel E1 A1 w1)(he:∀ b,b<A1.nf->E' b=E1 b):To E A w E' A1 w1:=by
 refine⟨h.nf,fun b hb=>(he b (z6 hb h.nf)).trans (h.ext b hb),h.os,h.tape,h.output,h.size,h.blk,fun b o hb=>?_⟩
 rw[he b (hr.wf b o hb).1]
 exact h.mine b o hb
theorem Rel.Jp(h:Rel g B w)(hw:w.heap[(g B.nf).blk]? = some c)(hl:oU g (g B.nf) ob c)(hn:ob.Wf 0)(hfree:∀ b o,B.get b=some o->(g b).blk≠(g B.nf).blk):Rel g (B.add ob) w:=by
 refine⟨fun b o hb=>?_,fun b b' o o' hb hb' e=>?_,fun b o hb=>?_,h.oe,Fu h.low⟩
 . rw[qo]at hb
   split at hb
   . rename_i e;cases hb;rw[e];exact⟨c,hw,hl⟩
   . exact h.obj b o hb
 . rw[qo]at hb hb'
   split at hb
   . rename_i e1
     split at hb'
     . rename_i e2;rw[e1,e2]
     . rw[e1]at e;exact absurd e.symm (hfree b' o' hb')
   . split at hb'
     . rename_i e2;rw[e2]at e;exact absurd e (hfree b o hb)
     . exact h.inj b b' o o' hb hb' e
 . rw[qo]at hb
   split at hb
   . rename_i e;cases hb;subst e;exact⟨by simp[AH.add],hn.mono (oG _)⟩
   . have:=h.wf b o hb
     exact⟨by simp[AH.add];omega,this.2.mono (by simp[AH.add])⟩
theorem To.Jp{E0:Env}{A0:AH}{w0:World}(h:To E0 A0 w0 g B w)(hnew:w0.heap.size<=(g B.nf).blk):To E0 A0 w0 g (B.add ob) w:=by
 refine⟨Fu h.nf,h.ext,h.os,h.tape,h.output,h.size,h.blk,fun b o hb=>?_⟩
 rw[qo]at hb
 split at hb
 . rename_i e;subst e;exact .inr hnew
 . exact h.mine b o hb
theorem Rel.less{k:Nat}(h:Rel E A w)(hA:A.nf<=k):Rel E ⟨A.h,k⟩ w :=
 ⟨h.obj,h.inj,fun b o hb=>⟨z6 (h.wf b o hb).1 hA,(h.wf b o hb).2.mono hA⟩,h.oe,z1 h.low hA⟩
theorem Rel.none{k:Nat}(h:Rel E A w)(hk:GB<=k):Rel E ⟨.e,k⟩ w :=
 ⟨fun b o hb=>(by cases hb),fun b b' o o' hb=>(by cases hb),fun b o hb=>(by cases hb),h.oe,hk⟩
end
section
variable {P:Program} {rec:Rec} {ops:List Oper} {n:Nat} {masks:List Nat} {rs:List Rc} {σ' : ji} {A' B' : AH} {E0 g:Env} {A0:AH} {w0 w:World} {S:Nat->Bool} {u t:Nat} {r:Rc}
structure nI (rs:List Rc) (S:Nat->Bool) (u t:Nat) (r:Rc):Prop where
 at_:rs[t]? = some r
 fl:r.p.k = .fl
 tk:r.tk=true
 up:S r.p.i=true
 seg:∀ (x:Nat) (q:Rc),t<=x->x<u->rs[x]? = some q->q.p.k ≠ .ch
def AtF(rs:List Rc)(A' : AH)(g:Env)(w w0:World)(B:AH)(t:Nat)(r:Rc):Prop :=
 ∃ ob c,iJ rs A' (t+1)=r.A.add ob/\ob.Wf 0/\ob.ro=false/\w.heap[(g r.A.nf).blk]? = some c/\oU g (g r.A.nf) ob c/\w0.heap.size<=(g r.A.nf).blk/\∀ b o,B.get b=some o->(g b).blk≠(g r.A.nf).blk
structure MS (rs:List Rc) (A' B' : AH) (E0:Env) (A0:AH) (w0:World) (S:Nat->Bool) (g:Env) (w:World) (u:Nat):Prop where
 le:u<=rs.length
 xR:∀ r,rs[u]? = some r->r.p.k = .ch/\S r.p.i=false
 Az:∀ (t:Nat) (r:Rc),t<u->rs[t]? = some r->r.p.k = .ch->S r.p.i=true
 rel:Rel g (jh rs B' u) w
 to:To E0 A0 w0 g (jh rs B' u) w
 fl:∀ (t:Nat) (r:Rc),nI rs S u t r->AtF rs A' g w w0 (jh rs B' u) t r
 Cs:∀ (t:Nat) (r:Rc) (t' : Nat) (r' : Rc),nI rs S u t r->nI rs S u t' r' -> t≠t' -> (g r.A.nf).blk≠(g r'.A.nf).blk
theorem MS.QB(h:MS rs A' B' E0 A0 w0 S g w u):CV rs u:=by
 rcases qH u rs.length with h1|h1
 . obtain⟨r,hr⟩:=qz h1
   exact .inr ⟨r,hr,(h.xR r hr).1⟩
 . exact .inl (Nat.le_antisymm h.le h1)
theorem MS.chain(h:MS rs A' B' E0 A0 w0 S g w u)(D:Dr P rec ops n masks rs σ' A' B')(hd:∀ j,S j=true->j<ops.length->∀ k,ny masks j k=true->S k=true){x:Nat}{q:Rc}(hq:rs[x]? = some q)(hk:q.p.k = .ch)(hS:S q.p.i=true):x<u:=by
 rcases vg x u with h1|h1|h1
 . exact h1
 . subst h1
   rw[(h.xR q hq).2]at hS;cases hS
 . have hul:u<rs.length:=Nat.lt_trans h1 (qx hq)
   obtain⟨ru,hru⟩:=qz hul
   obtain⟨c1,c2⟩:=h.xR ru hru
   have hp:=D.Jw x u q ru hq hru h1 hk c1
   have:=hd q.p.i hS (D.vp hq) ru.p.i (by rw[D.pre hq];exact hp)
   rw[c2]at this;cases this
theorem Dr.names(D:Dr P rec ops n masks rs σ' A' B'){t t' : Nat}{r r' : Rc}(hr:rs[t]? = some r)(hr' : rs[t']? = some r')(hk:r.p.k = .fl)(htk:r.tk=true)(hlt:t<t'):r.A.nf<r'.A.nf:=by
 obtain⟨ob,B,h1,_⟩:=D.made hr hk htk
 have h2:=D.mono (t:=t+1) (t' := t') o_ (sF (qx hr'))
 rw[h1,pS hr']at h2
 simp only[AH.add]at h2
 omega
theorem Dr.Vs(D:Dr P rec ops n masks rs σ' A' B'){t t' : Nat}{r r' : Rc}(hr:rs[t]? = some r)(hr' : rs[t']? = some r')(hk:r.p.k = .fl)(htk:r.tk=true)(hk' : r'.p.k = .fl)(htk' : r'.tk=true)(hne:t≠t'):r.A.nf≠r'.A.nf:=by
 rcases qH t t' with h|h
 . exact C7 (D.names hr hr' hk htk h)
 . exact Ne.symm (C7 (D.names hr' hr hk' htk' o_))
theorem MS.Qa(h:MS rs A' B' E0 A0 w0 S g w u)(D:Dr P rec ops n masks rs σ' A' B')(hd:∀ j,S j=true->j<ops.length->∀ k,ny masks j k=true->S k=true){g' : Env}
 (hg:∀ b,b<(jh rs B' u).nf->g' b=g b) (hf:∀ (t:Nat) (r:Rc),rs[t]? = some r->r.p.k = .fl->r.tk=true->S r.p.i=true->g' r.A.nf=g r.A.nf) :
 ∀ k f,(VV ops rs)[k]? = some f->S k=true->f g' = f g:=by
 intro k f hf' hS
 have hkl:k<ops.length:=by have:=(zb.1 hf').1;rwa [Oa]at this
 rw[Pb hkl]at hf'
 cases hf'
 obtain⟨x,q,hq,rfl⟩:=D.all k hkl
 simp only[D.val hq]
 have num:nm q.v<=(jh rs B' u).nf->fT g' q.v=fT g q.v:=fun hn=>uo hg q.v hn
 have hst:=D.step x q hq
 have quiet:(q.p.k = .pure\/q.p.k = .read)->fT g' q.v=fT g q.v:=by
  intro hk
  by_cases hex:∃ (j:Nat) (p:Rc),rs[j]? = some p/\p.p.k = .ch/\Nat.testBit p.p.m q.p.i=true/\j<u
  . obtain⟨j,p,hp,hpk,hpm,hju⟩:=hex
    obtain⟨t2,r2,ht2,hr2,e⟩:=D.KJ j p _ hp hpm
    have:=D.inj t2 x r2 q hr2 hq e
    subst this
    exact num (z1 hst.Fy (D.below h.le o_ hju hp hpk))
  . obtain⟨h1,_⟩:=D.gG x q u hq h.QB hk
     (fun j p hp hpk hpm=>h.chain D hd hp hpk (hd q.p.i hS hkl p.p.i (by rw[D.pre hq];exact hpm)))
     (fun j p hp hpk hpm=>by
      rcases qH j u with h2|h2
      . exact absurd ⟨j,p,hp,hpk,hpm,h2⟩ hex
      . exact h2)
    refine BP (fun b hb=>?_) q.v h1
    rcases hb with hb|hb
    . exact hg b hb
    . obtain⟨p,hp,hpk,htk,hpm,rfl⟩:=Sf rs hb
      obtain⟨y,hy⟩:=yA.1 hp
      exact hf y p hy hpk htk (hd q.p.i hS hkl p.p.i (by rw[D.pre hq];exact hpm))
 cases hk:q.p.k with
 | pure=>exact quiet (.inl hk)
 | read=>exact quiet (.inr hk)
 | fl =>
  cases htk:q.tk with
  | false=>rw[(hst.off htk).1];rfl
  | true =>
   obtain⟨ob,B,_,_,_,_,_,h1,_⟩:=D.made hq hk htk
   refine BP (fun b hb=>?_) q.v h1
   rcases hb with hb|hb
   . omega
   . simp only[mj]at hb
     subst hb
     exact hf x q hq hk htk hS
 | ch=>exact num (z1 hst.Fy (D.below h.le o_ (h.chain D hd hq hk hS) hq hk))
theorem MS.join(h:MS rs A' B' E0 A0 w0 S g w u)(D:Dr P rec ops n masks rs σ' A' B')(hall:∀ (t:Nat) (r:Rc),t<u->rs[t]? = some r->r.p.k = .fl->(∀ (x:Nat) (q:Rc),t<=x->x<u->rs[x]? = some q->q.p.k ≠ .ch)->S r.p.i=true) :
 Rel g (iJ rs A' u) w/\To E0 A0 w0 g (iJ rs A' u) w/\∀ b o,(iJ rs A' u).get b=some o->(jh rs B' u).get b=some o\/∃ (t:Nat) (r:Rc),t<u/\nI rs S u t r/\b=r.A.nf:=by
 obtain⟨s,hsu,hs1,hs2⟩:=D.seg u h.le
 have key:∀ d,s+d<=u->Rel g (iJ rs A' (s+d)) w/\To E0 A0 w0 g (iJ rs A' (s+d)) w/\∀ b o,(iJ rs A' (s+d)).get b=some o->(jh rs B' u).get b=some o\/∃ (t:Nat) (r:Rc),t<s+d/\nI rs S u t r/\b=r.A.nf:=by
  intro d
  induction d with
  | zero=>intro _;rw[nF,hs1];exact⟨h.rel,h.to,fun b o hb=>.inl hb⟩
  | succ d ih =>
   intro hd
   obtain⟨i1,i2,i3⟩:=ih o_
   obtain⟨q,hq⟩:=qz (rs:=rs) (t:=s+d) (by have:=h.le;omega)
   have hsg:∀ (x:Nat) (p:Rc),s+d<=x->x<u->rs[x]? = some p->p.p.k ≠ .ch:=fun x p hx hx' hp=>hs2 x p o_ hx' hp
   have same:iJ rs A' (s+d+1)=q.A->Rel g (iJ rs A' (s+(d+1))) w/\To E0 A0 w0 g (iJ rs A' (s+(d+1))) w/\∀ b o,(iJ rs A' (s+(d+1))).get b=some o->(jh rs B' u).get b=some o\/∃ (t:Nat) (r:Rc),t<s+(d+1)/\nI rs S u t r/\b=r.A.nf:=by
    intro e
    rw[pS hq]at i1 i2 i3
    rw[show s+(d+1)=s+d+1 by omega,e]
    refine⟨i1,i2,fun b o hb=>?_⟩
    rcases i3 b o hb with h3|⟨t,r,ht,h3⟩
    . exact .inl h3
    . exact .inr ⟨t,r,o_,h3⟩
   have hst:=D.step _ q hq
   cases hk:q.p.k with
   | pure=>exact same (D.quiet hq (.inl hk))
   | read=>exact same (D.quiet hq (.inr hk))
   | ch=>exact absurd hk (hsg (s+d) q (zp _) o_ hq)
   | fl =>
    cases htk:q.tk with
    | false=>exact same (hst.off htk).2
    | true =>
     have he:nI rs S u (s+d) q:=⟨hq,hk,htk,hall _ q o_ hq hk hsg,hsg⟩
     obtain⟨ob,c,e,hw,hro,hc,hl,hnew,hfree⟩:=h.fl _ _ he
     rw[pS hq]at i1 i2 i3
     rw[show s+(d+1)=s+d+1 by omega,e]
     refine⟨i1.Jp hc hl hw fun b o hb=>?_,i2.Jp hnew,fun b o hb=>?_⟩
     . rcases i3 b o hb with h3|⟨t,r,ht,h3,rfl⟩
       . exact hfree b o h3
       . exact h.Cs _ _ _ _ h3 he o_
     . rw[qo]at hb
       split at hb
       . rename_i e2;exact .inr ⟨s+d,q,o_,he,e2⟩
       . rcases i3 b o hb with h3|⟨t,r,ht,h3⟩
         . exact .inl h3
         . exact .inr ⟨t,r,o_,h3⟩
 have:=key (u-s) o_
 rw[show s+(u-s)=u by omega]at this
 exact this
end
end Go.Ex
namespace Go.Ex
open Go Go.Sx
section
variable {P:Program} {rec:Rec} {ops:List Oper} {n:Nat} {masks:List Nat} {rs:List Rc} {σ' : ji} {A' B' : AH} {E0 g:Env} {A0:AH} {w0 w:World} {S:Nat->Bool} {u t:Nat} {r:Rc}
theorem W4{k:Nat}(hrec:Aq P k rec){o:Oper}{σ:Tr Value}{A A1:AH}{v:Value}(hx:Bc P rec false o n σ A=some (v,A1))(h:Rel g A w)(hs:jV A.nf σ){Nx:Value->World->Prop}
 (K:∀ E1 w1,Rel E1 A1 w1->To g A w E1 A1 w1->nm v<=A1.nf->Nx (fT E1 v) w1) :
 nr o.op=true/\((∃ v w', (execOp (ev n (slots n g σ)) o).run P w = .ok (.value v) w' /\ Nx v w')\/(∃ w', (execOp (ev n (slots n g σ)) o).run P w = .ok .skip w' /\ Nx undef w') \/
  (∃ f args w', (execOp (ev n (slots n g σ)) o).run P w = .ok (.enter f args) w' /\ CR P f args w' Nx)):=by
 unfold Bc at hx
 cases hxo:jt P o.type o.op (mE n σ) A with
 | none=>rw[hxo]at hx;cases hx
 | some p =>
  obtain⟨xr,A2⟩:=p
  refine⟨Df hxo,?_⟩
  have hdoes:=DJ (P:=P) o.op g A A2 w (mE n σ) n (slots n g σ) xr o.dst o.type o.pos o.after o.guard h (tf h hs) hxo
  rw[hxo]at hx
  cases xr with
  | val u =>
   cases hx
   obtain⟨E1,w1,hr,h1,t1,hv⟩:=hdoes
   exact .inl ⟨_,w1,hr,K E1 w1 h1 t1 hv⟩
  | unit =>
   cases hx
   obtain⟨E1,w1,hr,h1,t1,_⟩:=hdoes
   refine .inr (.inl ⟨w1,hr,?_⟩)
   have:=K E1 w1 h1 t1 (H9 _)
   rw[BD]at this
   exact this
  | enter f args =>
   simp only at hx
   split at hx
   . rename_i v' A3 hc
     cases hx
     obtain⟨E1,w1,hr,h1,t1,hv⟩:=hdoes
     have hcall:zT P f args A2 v A1:=hrec _ _ hc
     refine .inr (.inr ⟨f,_,w1,hr,CR.mono (hcall E1 w1 h1 hv) ?_⟩)
     rintro v2 w2 ⟨E2,rfl,h2,t2,hv2⟩
     exact K E2 w2 h2 (t1.trans t2) hv2
   . cases hx
  | yield l args=>cases hx
theorem Nu(rs:List Rc):∀ d a,a+d=rs.length->∃ u,a<=u/\u<=rs.length/\CV rs u/\∀ (x:Nat) (q:Rc),a<=x->x<u->rs[x]? = some q->q.p.k ≠ .ch:=by
 intro d
 induction d with
 | zero=>intro a h;exact⟨a,zp _,o_,.inl o_,fun x q _ h=>by omega⟩
 | succ d ih =>
  intro a h
  obtain⟨r,hr⟩:=qz (rs:=rs) (t:=a) o_
  by_cases hk:r.p.k = .ch
  . exact⟨a,zp _,o_,.inr ⟨r,hr,hk⟩,fun x q _ h=>by omega⟩
  . obtain⟨u,h1,h2,h3,h4⟩:=ih (a+1) o_
    refine⟨u,o_,h2,h3,fun x q hx hx' hq=>?_⟩
    by_cases e:x=a
    . subst e;rw[hr]at hq;cases hq;exact hk
    . exact h4 x q o_ hx' hq
theorem or_eq_true{S:Nat->Bool}{i j:Nat}:(S j||j==i)=true↔S j=true\/j=i:=by simp
theorem MS.MA(h:MS rs A' B' E0 A0 w0 S g w u)(D:Dr P rec ops n masks rs σ' A' B')(hr:rs[t]? = some r)(hk:r.p.k = .ch)(hU:CE ops (ny masks) r.p.i S) :
 u=t/\Rel g (iJ rs A' t) w/\∀ E1 w1,Rel E1 (iJ rs A' (t+1)) w1->To g (iJ rs A' t) w E1 (iJ rs A' (t+1)) w1 ->
  ∃ g', (∃ u', MS rs A' B' E0 A0 w0 (fun j=>S j||j==r.p.i) g' w1 u')/\(∀ b,b<(iJ rs A' (t+1)).nf->g' b=E1 b)/\∀ k f,(VV ops rs)[k]? = some f->S k=true->f g' = f g:=by
 have hut:u=t:=by
  rcases vg u t with h1|h1|h1
  . obtain⟨q,hq⟩:=qz (Nat.lt_trans h1 (qx hr))
    obtain⟨c1,c2⟩:=h.xR q hq
    have:=hU.ow q.p.i (by rw[D.pre hr];exact D.Jw t u r q hr hq h1 hk c1)
    rw[c2]at this;cases this
  . exact h1
  . have:=h.Az t r h1 hr hk
    rw[hU.self]at this;cases this
 subst hut
 refine⟨rfl,?_⟩
 have htl:=qx hr
 obtain⟨j1,j2,j3⟩:=h.join D fun x q hx hq hqk hsg=>hU.ow q.p.i (by rw[D.pre hr];exact D.Qq x u q r hq hr hx hqk hk fun y p hy hy' hp=>hsg y p o_ hy' hp)
 refine⟨j1,fun E1 w1 r1 t1=>?_⟩
 obtain⟨u', hu1,hu2,hu3,hu4⟩:=Nu rs (rs.length-(u+1)) (u+1) o_
 have hB:jh rs B' u' = iJ rs A' (u+1):=by
  rw[<-D.ground hu1 hu2 hu4,(D.step u r hr).B,BO hk]
 classical
 obtain⟨g', hg'⟩:∃ g' : Env,∀ b,g' b=if ∃ (x:Nat) (q:Rc),nI rs S u x q/\u<x/\b=q.A.nf then g b else E1 b:=⟨_,fun _=>rfl⟩
 have late:∀ (x:Nat) (q:Rc),nI rs S u x q->u<x->(iJ rs A' (u+1)).nf<=q.A.nf:=by
  intro x q hq hx
  have:=D.mono (t:=u+1) (t' := x) o_ (sF (qx hq.at_))
  rwa [pS hq.at_]at this
 have gE:∀ b,b<(iJ rs A' (u+1)).nf->g' b=E1 b:=by
  intro b hb
  rw[hg', if_neg]
  rintro⟨x,q,hq,hx,rfl⟩
  have:=late x q hq hx
  omega
 have hnf:(iJ rs A' u).nf<=(iJ rs A' (u+1)).nf:=D.mono o_ o_
 have gg:∀ b,b<(iJ rs A' u).nf->g' b=g b:=fun b hb=>(gE b o_).trans (t1.ext b hb)
 have ge:∀ (x:Nat) (q:Rc),nI rs S u x q->u<x->g' q.A.nf=g q.A.nf:=fun x q hq hx=>by rw[hg', if_pos ⟨x,q,hq,hx,rfl⟩]
 have rg:Rel g' (iJ rs A' (u+1)) w1:=r1.env gE
 have tg:To E0 A0 w0 g' (iJ rs A' (u+1)) w1:=(j2.trans t1).env r1 gE
 -- early blocks of the new state
 have back:∀ (x:Nat) (q:Rc),nI rs (fun j=>S j||j==r.p.i) u' x q->nI rs S u x q/\u<x:=by
  intro x q hq
  have hx:u<x:=by
   rcases qH u x with h1|h1
   . exact h1
   . exact absurd hk (hq.seg u r h1 o_ hr)
  have hS:S q.p.i=true:=by
   rcases or_eq_true.1 hq.up with h1|h1
   . exact h1
   . have:=D.inj x u q r hq.at_ hr h1
     omega
  exact⟨⟨hq.at_,hq.fl,hq.tk,hS,fun y p hy hy' hp=>by omega⟩,hx⟩
 have free:∀ (x:Nat) (q:Rc),nI rs S u x q->u<x->∀ b o,(iJ rs A' u).get b=some o->(g b).blk≠(g q.A.nf).blk:=by
  intro x q hq hx b o hb
  rcases j3 b o hb with h1|⟨y,p,hy,hp,rfl⟩
  . obtain⟨_,_,_,_,_,_,_,_,hfree⟩:=h.fl x q hq
    exact hfree b o h1
  . exact h.Cs y p x q hp hq o_
 refine⟨g', ⟨u', hu2,fun q hq=>?_,fun x q hx hq hqk=>?_,by rw[hB];exact rg,by rw[hB];exact tg,fun x q hq=>?_,fun x q x' q' hq hq' hne=>?_⟩,gE,?_⟩
 . have hqk:q.p.k = .ch:=by
    rcases hu3 with h1|⟨q', hq', hk'⟩
    . have:=qx hq;omega
    . rw[hq]at hq'; cases hq'; exact hk'
   refine⟨hqk,?_⟩
   have hp:=D.Jw u' u q r hq hr o_ hqk hk
   have h1:=hU.notYet q.p.i (D.vp hq) (by rw[D.pre hq];exact hp)
   have h2:q.p.i≠r.p.i:=fun e=>by have:=D.inj u' u q r hq hr e;omega
   simp[h1,h2]
 . rcases vg x u with h1|h1|h1
   . exact or_eq_true.2 (.inl (h.Az x q h1 hq hqk))
   . subst h1;rw[hr]at hq;cases hq;simp
   . exact absurd hqk (hu4 x q o_ hx hq)
 . obtain⟨hq', hx⟩:=back x q hq
   obtain⟨ob,c,e,hw,hro,hc,hl,hnew,hfree⟩:=h.fl x q hq'
   have hlt:(g q.A.nf).blk<w.heap.size:=(z8.1 hc).1
   have hgx:=ge x q hq' hx
   refine⟨ob,c,e,hw,hro,?_,?_,by rw[hgx];exact hnew,fun b o hb=>?_⟩
   . rw[hgx]
     exact(t1.blk _ hlt fun b o hb _=>free x q hq' hx b o hb).trans hc
   . rw[hgx];exact hl.ext (k:=0) (fun b hb=>by omega) hw
   . rw[hB]at hb
     rw[hgx,gE b (r1.wf b o hb).1]
     rcases t1.mine b o hb with ⟨c', oc,hc', he,_⟩|hs
     . rw[he];exact free x q hq' hx c' oc hc'
     . omega
 . obtain⟨h1,h2⟩:=back x q hq
   obtain⟨h3,h4⟩:=back x' q' hq'
   rw[ge x q h1 h2,ge x' q' h3 h4]
   exact h.Cs x q x' q' h1 h3 hne
 . refine h.Qa D hU.down (fun b hb=>gg b (z6 hb (D.CB u h.le))) fun x q hq hqk htk hS=>?_
   rcases vg x u with h1|h1|h1
   . obtain⟨ob,B,h2,_⟩:=D.made hq hqk htk
     have h3:=D.mono (t:=x+1) (t' := u) o_ h.le
     rw[h2]at h3
     exact gg _ (by simp only[AH.add]at h3;omega)
   . subst h1;rw[hr]at hq;cases hq;rw[hk]at hqk;cases hqk
   . exact ge x q ⟨hq,hqk,htk,hS,fun y p hy hy' hp=>by omega⟩ h1
end
end Go.Ex
namespace Go.Ex
open Go Go.Sx
section
variable {P:Program} {rec:Rec} {ops:List Oper} {n:Nat} {masks:List Nat} {rs:List Rc} {σ' : ji} {A' B' : AH} {E0 g:Env} {A0:AH} {w0 w w1:World} {S:Nat->Bool} {u t:Nat} {r:Rc}
theorem MS.keep(h:MS rs A' B' E0 A0 w0 S g w u)(D:Dr P rec ops n masks rs σ' A' B')(hr:rs[t]? = some r)(hk:r.p.k ≠ .ch)(hf:r.p.k = .fl->r.tk=false)(k1:Rel g (jh rs B' u) w1)(k2:To E0 A0 w0 g (jh rs B' u) w1)
 (k3:∀ x,x<w.heap.size->(∀ b o,(jh rs B' u).get b=some o->(g b).blk≠x)->w1.heap[x]? = w.heap[x]?):MS rs A' B' E0 A0 w0 (fun j=>S j||j==r.p.i) g w1 u:=by
 have back:∀ (x:Nat) (q:Rc),nI rs (fun j=>S j||j==r.p.i) u x q->nI rs S u x q:=by
  intro x q hq
  refine⟨hq.at_,hq.fl,hq.tk,?_,hq.seg⟩
  rcases or_eq_true.1 hq.up with h1|h1
  . exact h1
  . have:=D.inj x t q r hq.at_ hr h1
    subst this
    have e:=hq.at_
    rw[hr]at e
    cases e
    have:=hf hq.fl
    rw[hq.tk]at this;cases this
 refine⟨h.le,fun q hq=>?_,fun x q hx hq hqk=>or_eq_true.2 (.inl (h.Az x q hx hq hqk)),k1,k2,fun x q hq=>?_,fun x q x' q' hq hq' hne=>h.Cs x q x' q' (back x q hq) (back x' q' hq') hne⟩
 . obtain⟨c1,c2⟩:=h.xR q hq
   refine⟨c1,?_⟩
   have:q.p.i≠r.p.i:=fun e=>by
    have:=D.inj u t q r hq hr e
    subst this
    rw[hr]at hq;cases hq
    exact hk c1
   simp[c2,this]
 . obtain⟨ob,c,e,hw,hro,hc,hl,hnew,hfree⟩:=h.fl x q (back x q hq)
   exact⟨ob,c,e,hw,hro,(k3 _ (z8.1 hc).1 hfree).trans hc,hl,hnew,hfree⟩
theorem MS.Me(h:MS rs A' B' E0 A0 w0 S g w u)(D:Dr P rec ops n masks rs σ' A' B')(hs0:jV (iJ rs A' 0).nf (mU rs σ' 0))(hr:rs[t]? = some r)(hk:r.p.k = .pure\/r.p.k = .read)(htk:r.tk=true)(hU:CE ops (ny masks) r.p.i S) :
 nr r.p.o.op=true/\∃ w1,(execOp (ev n (slots n g r.σ)) r.p.o).run P w = .ok (.value (fT g r.v)) w1/\MS rs A' B' E0 A0 w0 (fun j=>S j||j==r.p.i) g w1 u:=by
 -- the heap in which it is evaluated
 obtain⟨hh,hxq,hcase⟩:∃ hh,xq P r.p.o n r.σ hh=some r.v/\(hh = .e\/hh=(jh rs B' u).h):=by
  rcases hk with hk|hk
  . have:=(D.step t r hr).on htk
    unfold v8 at this
    rw[show jR r.p.o.op = .pure from hk]at this
    obtain⟨v,hv,e⟩:=map_some this
    simp only[Prod.mk.injEq]at e
    rw[e.1]at hv
    exact⟨.e,hv,.inl rfl⟩
  . refine⟨_,(D.gG t r u hr h.QB (.inr hk) (fun j q hq hqk hm=>?_) (fun j q hq hqk hm=>?_)).2 hk htk,.inr rfl⟩
    . exact h.chain D hU.down hq hqk (hU.ow q.p.i (by rw[D.pre hr];exact hm))
    . rcases qH j u with h2|h2
      . have a1:=h.Az j q h2 hq hqk
        have a2:=hU.notYet q.p.i (D.vp hq) (by rw[D.pre hq];exact hm)
        rw[a1]at a2;cases a2
      . exact h2
 unfold xq at hxq
 split at hxq
 . rename_i v Bx hx
   cases hxq
   have hBx:=Tf hk hx
   subst hBx
   have hbig:(jh rs B' u).nf<=qP:=z1 (D.CB u h.le) (D.EO h.le)
   have hR:Rel g ⟨hh,qP⟩ w:=by
    rcases hcase with rfl|rfl
    . exact h.rel.none (z1 h.rel.low hbig)
    . exact h.rel.less hbig
   have hsw:jV qP r.σ:=by
    have:=D.Gd hs0 t (sF (qx hr))
    rw[zW hr]at this
    exact this.mono (D.EO (sF (qx hr)))
   have hdoes:=DJ (P:=P) r.p.o.op g ⟨hh,qP⟩ ⟨hh,qP⟩ w (mE n r.σ) n (slots n g r.σ) (.val r.v) r.p.o.dst r.p.o.type r.p.o.pos r.p.o.after r.p.o.guard hR (tf hR hsw) hx
   obtain⟨E1,w1,hrun,h1,t1,hv⟩:=hdoes
   refine⟨Df hx,w1,?_,?_⟩
   . have e:fT E1 r.v=fT g r.v:=uo t1.ext r.v hv
     have:XR.next E1 (.val r.v) = .value (fT g r.v):=by simp only[XR.next,e]
     rw[<-this]
     exact hrun
   . refine h.keep D hr (by rcases hk with hk|hk<;>rw[hk]<;>simp) (by rcases hk with hk|hk<;>rw[hk]<;>simp) ?_ ?_ ?_
     . rcases hcase with rfl|rfl
       . exact⟨fun b o hb=>by
          obtain⟨c,hc,hl⟩:=h.rel.obj b o hb
          exact⟨c,(t1.blk _ (h.rel.lt hb) fun b' o' hb' => by cases hb').trans hc,hl⟩,h.rel.inj,h.rel.wf,h.rel.oe,h.rel.low⟩
       . exact⟨fun b o hb=>by
          obtain⟨c,hc,hl⟩:=h1.obj b o hb
          have hw:=h1.wf b o hb
          have e:E1 b=g b:=t1.ext b hw.1
          rw[e]at hc hl
          exact⟨c,hc,hl.ext (fun b' hb' => (t1.ext b' hb').symm) hw.2⟩,h.rel.inj,h.rel.wf,h.rel.oe,h.rel.low⟩
     . rcases hcase with rfl|rfl
       . exact⟨h.to.nf,h.to.ext,t1.os.trans h.to.os,t1.tape.trans h.to.tape,t1.output.trans h.to.output,z1 h.to.size t1.size,
          fun x hx hn=>(t1.blk x (z6 hx h.to.size) fun b' o' hb' => by cases hb').trans (h.to.blk x hx hn),h.to.mine⟩
       . have T1:To E0 A0 w0 g ⟨(jh rs B' u).h,qP⟩ w:=⟨z1 h.to.nf hbig,h.to.ext,h.to.os,h.to.tape,h.to.output,h.to.size,h.to.blk,h.to.mine⟩
         have T2:=(T1.trans t1).env h1 fun b hb=>(t1.ext b hb).symm
         exact⟨h.to.nf,T2.ext,T2.os,T2.tape,T2.output,T2.size,T2.blk,T2.mine⟩
     . intro x hx hn
       refine t1.blk x hx fun b o hb _=>?_
       rcases hcase with rfl|rfl
       . cases hb
       . exact hn b o hb
 . cases hxq
theorem MS.X6(h:MS rs A' B' E0 A0 w0 S g w u)(D:Dr P rec ops n masks rs σ' A' B')(hs0:jV (iJ rs A' 0).nf (mU rs σ' 0))(hr:rs[t]? = some r)(hk:r.p.k = .fl)(htk:r.tk=true)(hU:CE ops (ny masks) r.p.i S) :
 nr r.p.o.op=true/\∃ w1 g', (execOp (ev n (slots n g r.σ)) r.p.o).run P w = .ok (.value (fT g' r.v)) w1/\MS rs A' B' E0 A0 w0 (fun j=>S j||j==r.p.i) g' w1 u/\∀ k f,(VV ops rs)[k]? = some f->S k=true->f g' = f g:=by
 have htl:=qx hr
 -- it does not stand ahead of an operation on memory that has come up
 have hsg:∀ (x:Nat) (q:Rc),t<=x->x<u->rs[x]? = some q->q.p.k ≠ .ch:=by
  intro x
  induction x using Nat.strongRecOn with
  | _ x ih =>
   intro q hx hxu hq hqk
   have hne:t≠x:=by rintro rfl;rw[hr]at hq;cases hq;rw[hk]at hqk;cases hqk
   have hp:=D.Qq t x r q hr hq o_ hk hqk fun y p hy hy' hp=>ih y hy' p o_ o_ hp
   have a1:=h.Az x q hxu hq hqk
   have a2:=hU.notYet q.p.i (D.vp hq) (by rw[D.pre hq];exact hp)
   rw[a1]at a2;cases a2
 have hlow:(jh rs B' u).nf<=r.A.nf:=by
  have:=D.low h.le (sF htl) hsg
  rwa [pS hr]at this
 obtain⟨ob,B,e1,hx,rfl,hw0,hro,hok,hnm⟩:=D.made hr hk htk
 have hGB:GB<=r.A.nf:=z1 h.rel.low hlow
 have hR:Rel g ⟨.e,r.A.nf⟩ w:=h.rel.none hGB
 have hsw:jV r.A.nf r.σ:=by
  have:=D.Gd hs0 t (sF htl)
  rwa [zW hr,pS hr]at this
 have hdoes:=DJ (P:=P) r.p.o.op g ⟨.e,r.A.nf⟩ _ w (mE n r.σ) n (slots n g r.σ) (.val r.v) r.p.o.dst r.p.o.type r.p.o.pos r.p.o.after r.p.o.guard hR (tf hR hsw) hx
 obtain⟨E1,w1,hrun,h1,t1,hv⟩:=hdoes
 have hgetN:((⟨.e,r.A.nf⟩:AH).add ob).get r.A.nf=some ob:=by rw[qo,if_pos rfl]
 obtain⟨c,hc,hl⟩:=h1.obj _ _ hgetN
 have hnew:w.heap.size<=(E1 r.A.nf).blk:=by
  rcases t1.mine _ _ hgetN with ⟨c', oc,hc', _⟩|hs
  . cases hc'
  . exact hs
 have keepw:∀ x,x<w.heap.size->w1.heap[x]? = w.heap[x]? := fun x hx=>t1.blk x hx fun b' o' hb' => by cases hb'
 have gne:∀ b,b≠r.A.nf->lD g r.A.nf (E1 r.A.nf) b=g b:=fun b hb=>oQ g _ hb
 have glt:∀ b,b<(jh rs B' u).nf->lD g r.A.nf (E1 r.A.nf) b=g b:=fun b hb=>gne b o_
 -- other new blocks have other names
 have gfl:∀ (x:Nat) (q:Rc),rs[x]? = some q->q.p.k = .fl->q.tk=true->S q.p.i=true->lD g r.A.nf (E1 r.A.nf) q.A.nf=g q.A.nf:=by
  intro x q hq hqk hqt hS
  refine gne _ ?_
  refine D.Vs hq hr hqk hqt hk htk fun e=>?_
  subst e
  rw[hr]at hq;cases hq
  rw[hU.self]at hS;cases hS
 refine⟨Df hx,w1,lD g r.A.nf (E1 r.A.nf),?_,?_,h.Qa D hU.down glt gfl⟩
 . have e:fT E1 r.v=fT (lD g r.A.nf (E1 r.A.nf)) r.v:=BP (fun b hb=>by
    rcases hb with hb|hb
    . omega
    . simp only[mj]at hb
      subst hb
      rw[lg]) r.v hok
   have:XR.next E1 (.val r.v) = .value (fT (lD g r.A.nf (E1 r.A.nf)) r.v):=by simp only[XR.next,e]
   rw[<-this]
   exact hrun
 . have rel1:Rel (lD g r.A.nf (E1 r.A.nf)) (jh rs B' u) w1:=by
    refine Rel.env (E:=g) ⟨fun b o hb=>?_,h.rel.inj,h.rel.wf,h.rel.oe,h.rel.low⟩ glt
    obtain⟨c', hc', hl'⟩:=h.rel.obj b o hb
    exact⟨c', (keepw _ (h.rel.lt hb)).trans hc', hl'⟩
   have hA0:A0.nf<=(jh rs B' u).nf:=h.to.nf
   refine⟨h.le,fun q hq=>?_,fun x q hx hq hqk=>or_eq_true.2 (.inl (h.Az x q hx hq hqk)),rel1,?_,fun x q hq=>?_,fun x q x' q' hq hq' hne=>?_⟩
   . obtain⟨c1,c2⟩:=h.xR q hq
     refine⟨c1,?_⟩
     have:q.p.i≠r.p.i:=fun e=>by
      have:=D.inj u t q r hq hr e
      subst this
      rw[hr]at hq;cases hq
      rw[hk]at c1;cases c1
     simp[c2,this]
   . refine⟨h.to.nf,fun b hb=>(glt b o_).trans (h.to.ext b hb),t1.os.trans h.to.os,t1.tape.trans h.to.tape,t1.output.trans h.to.output,z1 h.to.size t1.size,
      fun x hx hn=>(keepw x (z6 hx h.to.size)).trans (h.to.blk x hx hn),fun b o hb=>?_⟩
     rw[glt b (h.rel.wf b o hb).1]
     exact h.to.mine b o hb
   . by_cases hxt:x=t
     . subst hxt
       have e:=hq.at_
       rw[hr]at e
       cases e
       refine⟨ob,c,e1,hw0,hro,by rw[lg];exact hc,by rw[lg];exact hl.ext (k:=0) (fun b hb=>by omega) hw0,by rw[lg];exact z1 h.to.size hnew,fun b o hb=>?_⟩
       rw[lg,glt b (h.rel.wf b o hb).1]
       have:=h.rel.lt hb
       omega
     . have hS:S q.p.i=true:=by
        rcases or_eq_true.1 hq.up with h2|h2
        . exact h2
        . exact absurd (D.inj x t q r hq.at_ hr h2) hxt
       obtain⟨ob', c', e', hw', hro', hc', hl', hnew', hfree'⟩:=h.fl x q ⟨hq.at_,hq.fl,hq.tk,hS,hq.seg⟩
       have hgx:=gfl x q hq.at_ hq.fl hq.tk hS
       refine⟨ob', c', e', hw', hro', by rw[hgx];exact(keepw _ (z8.1 hc').1).trans hc', by rw[hgx];exact hl'.ext (k:=0) (fun b hb=>by omega) hw', by rw[hgx];exact hnew', fun b o hb=>?_⟩
       rw[hgx,glt b (h.rel.wf b o hb).1]
       exact hfree' b o hb
   . have old:∀ (y:Nat) (p:Rc),nI rs (fun j=>S j||j==r.p.i) u y p->y≠t->nI rs S u y p:=by
      intro y p hp hy
      refine⟨hp.at_,hp.fl,hp.tk,?_,hp.seg⟩
      rcases or_eq_true.1 hp.up with h2|h2
      . exact h2
      . exact absurd (D.inj y t p r hp.at_ hr h2) hy
     have lt_old:∀ (y:Nat) (p:Rc),nI rs S u y p->(g p.A.nf).blk<w.heap.size:=by
      intro y p hp
      obtain⟨_,c', _,_,_,hc', _⟩:=h.fl y p hp
      exact(z8.1 hc').1
     by_cases hx1:x=t
     . have hx2:x' ≠ t:=fun e=>hne (hx1.trans e.symm)
       have o2:=old x' q' hq' hx2
       have:=lt_old x' q' o2
       subst hx1
       have e:=hq.at_
       rw[hr]at e
       cases e
       rw[lg,gfl x' q' o2.at_ o2.fl o2.tk o2.up]
       omega
     . have o1:=old x q hq hx1
       by_cases hx2:x' = t
       . have:=lt_old x q o1
         subst hx2
         have e:=hq'.at_
         rw[hr]at e
         cases e
         rw[lg,gfl x q o1.at_ o1.fl o1.tk o1.up]
         omega
       . have o2:=old x' q' hq' hx2
         rw[gfl x q o1.at_ o1.fl o1.tk o1.up,gfl x' q' o2.at_ o2.fl o2.tk o2.up]
         exact h.Cs x q x' q' o1 o2 hne
theorem WY(hm:P.follows .mixedOrders=true):Jy P (Fb P):=by
 intro k rec hrec q ops n σ A σ' A' hx E w r id hq h hs ds Q K
 obtain⟨masks,rs,B', D,hsg0,hah0⟩:=W9 hx
 have hs0:jV (iJ rs A' 0).nf (mU rs σ' 0):=by rw[hsg0,hah0];exact hs
 have hgE:∀ {S g w1 u},MS rs A' B' E A w S g w1 u->∀ b,b<(iJ rs A' 0).nf->g b=E b:=fun hM b hb=>hM.to.ext b (by rw[hah0]at hb;exact hb)
 obtain⟨u0,hu1,hu2,hu3,hu4⟩:=Nu rs rs.length 0 o_
 have hb0:jh rs B' u0=A:=by rw[<-D.ground hu1 hu2 hu4,<-D.same,hah0]
 have e0:slots n E σ=slots n E (mU rs σ' 0):=by rw[hsg0]
 rw[e0]
 refine aaz (Γ:=Env) hm (ny masks) D.E5 (VV ops rs) Oa (fun S g w1=>∃ u,MS rs A' B' E A w S g w1 u) E ?_ ?_ ?_
 . refine⟨u0,hu2,fun r hr=>⟨?_,rfl⟩,fun t r ht hr hk=>absurd hk (hu4 t r (oG _) ht hr),by rw[hb0];exact h.drew.1,by rw[hb0];exact h.drew.2,fun t r he=>?_,fun t r t' r' he=>?_⟩
   . rcases hu3 with h1|⟨r', hr', hk⟩
     . have:=qx hr;omega
     . rw[hr]at hr'; cases hr'; exact hk
   . exact absurd he.up s_
   . exact absurd he.up s_
 . rintro i o v S g w1 ho hv hU ⟨u,hM⟩
   have hil:i<ops.length:=(zb.1 ho).1
   obtain⟨t,rc,hr,rfl⟩:=D.all i hil
   have hro:=(D.kr t rc hr).1
   rw[ho]at hro
   cases hro
   rw[Pb hil]at hv
   cases hv
   refine⟨slots n g rc.σ,D.looks hs0 (hgE hM) hr hU,?_⟩
   have htl:=qx hr
   have hst:=D.step t rc hr
   have hsw:jV rc.A.nf rc.σ:=by
    have:=D.Gd hs0 t (sF htl)
    rwa [zW hr,pS hr]at this
   simp only[D.val hr]
   -- the guard
   have htaken:gy ops.toArray n (slots n g rc.σ) rc.p.o.guard=rc.tk:=by
    have hbig:(jh rs B' u).nf<=qP:=z1 (D.CB u hM.le) (D.EO hM.le)
    have hsb:jV qP rc.σ:=by
     have:=D.EO (sF htl)
     rw[pS hr]at this
     exact hsw.mono this
    rw[hst.tk]
    exact Mh (A:=⟨(jh rs B' u).h,qP⟩) (hM.rel.less hbig) hsb ops rc.p.o.guard
   cases htk:rc.tk with
   | false =>
    refine .inr ⟨htaken.trans htk,?_⟩
    obtain⟨hv,hA⟩:=hst.off htk
    by_cases hk:rc.p.k = .ch
    . obtain⟨rfl,hrel,hnext⟩:=hM.MA D hr hk hU
      have hAA:iJ rs A' (u+1)=iJ rs A' u:=by rw[hA,pS hr]
      obtain⟨g', hM', hgg,hstab⟩:=hnext g w1 (by rw[hAA];exact hrel) (by rw[hAA];exact To.refl _ _ _)
      exact⟨g', hM', by rw[hv,BD],hstab⟩
    . exact⟨g,⟨u,hM.keep D hr hk (fun _=>htk) hM.rel hM.to fun x _ _=>rfl⟩,by rw[hv,BD],fun _ _ _ _=>rfl⟩
   | true =>
    have htaken:=htaken.trans htk
    cases hk:rc.p.k with
    | pure =>
     obtain⟨hnd,w2,hrun,hM'⟩:=hM.Me D hs0 hr (.inl hk) htk hU
     exact .inl ⟨htaken,hnd,.inl ⟨_,w2,hrun,g,⟨u,hM'⟩,rfl,fun _ _ _ _=>rfl⟩⟩
    | read =>
     obtain⟨hnd,w2,hrun,hM'⟩:=hM.Me D hs0 hr (.inr hk) htk hU
     exact .inl ⟨htaken,hnd,.inl ⟨_,w2,hrun,g,⟨u,hM'⟩,rfl,fun _ _ _ _=>rfl⟩⟩
    | fl =>
     obtain⟨hnd,w2,g', hrun,hM', hstab⟩:=hM.X6 D hs0 hr hk htk hU
     exact .inl ⟨htaken,hnd,.inl ⟨_,w2,hrun,g', ⟨u,hM'⟩,rfl,hstab⟩⟩
    | ch =>
     obtain⟨rfl,hrel,hnext⟩:=hM.MA D hr hk hU
     have hon:=hst.on htk
     unfold v8 at hon
     rw[show jR rc.p.o.op = .ch from hk]at hon
     simp only at hon
     rw[pS hr]at hrel
     obtain⟨hnd,hob⟩:=W4 hrec hon hrel hsw (Nx:=fun v' w' => ∃ g', (∃ u,MS rs A' B' E A w (fun j=>S j||j==rc.p.i) g' w' u)/\v' = fT g' rc.v/\∀ k f,(VV ops rs)[k]? = some f->S k=true->f g' = f g) (fun E1 w2 h1 t1 hv=>by
      obtain⟨g', hM', hgg,hstab⟩:=hnext E1 w2 h1 (by rw[pS hr];exact t1)
      exact⟨g', hM', (uo hgg rc.v hv).symm,hstab⟩)
     exact .inl ⟨htaken,hnd,hob⟩
 . rintro S g w1 hall ⟨u,hM⟩
   have hu:u=rs.length:=by
    rcases qH u rs.length with h1|h1
    . obtain⟨rc,hr⟩:=qz h1
      have:=(hM.xR rc hr).2
      rw[hall _ (D.vp hr)]at this;cases this
    . exact Nat.le_antisymm hM.le h1
   subst hu
   obtain⟨j1,j2,_⟩:=hM.join D fun t rc _ hr _ _=>hall _ (D.vp hr)
   rw[Is (zp _)]at j1 j2
   have hend:mU rs σ' rs.length=σ' := by unfold mU;rw[nk (zp _)]
   have hsw:=D.Gd hs0 rs.length (zp _)
   rw[hend,Is (zp _)]at hsw
   have:=K g w1 j1 j2 hsw
   have hfr:Fr n (slots n g σ') ds=Fr n (gY (fun _=>true) 0 ops ((VV ops rs).map (· g)) (slots n E (mU rs σ' 0))) ds:=by
    refine Ee ds fun s hsn=>?_
    have h1:=D.NX hs0 (hgE hM) rs.length (zp _) s hsn
    rw[hend]at h1
    rw[h1,kU,kU]
    congr 1
    refine rR ops 0 _ _ rfl fun j oj hj _=>⟨?_,fun _=>rfl⟩
    rw[jF]
    obtain⟨t,rc,hr,e⟩:=D.all j (zb.1 hj).1
    exact qV.2 ⟨t,rc,qx hr,hr,e⟩
   rw[<-hfr]
   exact this
end
end Go.Ex
namespace Go.Ex
open Go Go.Sx
noncomputable section
def isTrue:Option Out->Bool
 | some (.call (.bool true) _)=>true
 | _=>false
def AH.none:AH:=⟨.e,GB⟩
def Qv:Env:=fun b=>⟨b,0,0⟩
theorem UN(w:World):Rel Qv AH.none w :=
 ⟨fun b o hb=>(by cases hb),fun b b' o o' hb=>(by cases hb),fun b o hb=>(by cases hb),fun b _=>rfl,zp _⟩
theorem To.gK{E E' : Env}{A A' : AH}{w w' : World}(h:To E A w E' A' w')(hA:∀ b o,A.get b=some o->o.ro=true):gB [] w w' :=
 ⟨h.os,h.tape,h.output,h.size,fun x hx _=>h.blk x hx fun b o hb hr=>by rw[hA b o hb]at hr;cases hr⟩
theorem Sh{P:Program}(hm:P.follows .mixedOrders=true){k:Nat}{f:FuncId}(h:isTrue (run P (Fb P) k (.call f [] AH.none))=true)(w:World):CR P f #[] w (fun v w' => v = .bool true/\gB [] w w'):=by
 unfold isTrue at h
 split at h
 . rename_i A' hr
   have hc:zT P f [] AH.none (.bool true) A' := Ma (WY hm) k _ _ hr
   refine CR.mono (hc Qv w (UN w) (by simp[gW])) ?_
   rintro v w' ⟨E', rfl,_,t,_⟩
   exact⟨rfl,t.gK fun b o hb=>by cases hb⟩
 . cases h
end
end Go.Ex
namespace Go.Sx
open Go
section
variable {r:Option Nat} {P:Program} {ops:Array Oper} {Q:Exit->Act->World->Prop} {rest:List Oper} {n:Nat} {s:List (Nat×Value)} {ds:List Deferred} {w:World}
variable {d:Nat} {dd:Option Nat} {ty t t' : TypeId} {pos:String} {af:Array Edge} {g:Option (Nat×Bool)} {x y:Operand} {xs:Array Value}
theorem Vu(hx:ev n s x = .agg xs)(hy:ev n s y = .agg xs)(hgd:P.eqGuardType P.depth t=false)(he:∀ w,(Op.equal t (.agg xs) (.agg xs)).run P w = .ok true w) :
 (execOp (ev n s) ⟨dd,.binOp .neq t x y t', ty,pos,af,g⟩).run P w = .ok (.value (.bool false)) w:=by
 simp only[execOp,hx,hy,zj,run_eqGuard_agg .neq hgd,zd]
 simp only[binOp,zj,he,zd,zm,Bool.not_true]
end
end Go.Sx
namespace Go.Sx
open Go
def Jc(l:List Oper)(pre:List (List Nat))(mem:List Nat):Bool :=
 Jn l pre &&
 (l.all fun o => !s4 o.op) &&
 ((List.range l.length).all fun j=>(l[j]?).all fun o=>o.after.toList.all fun e => !Region.binds .any e||decide (e.on<j)) &&
 ((
  List.range l.length).all fun j=>(List.range j).all fun i =>
  match l[i]?,l[j]? with
  | some x,some y => !(kH l.toArray x y||kH l.toArray y x)||(pre.getD j []).contains i
  | _,_=>true) &&
 (mem.all fun m=>decide (m<l.length))
def tJ(pre:List (List Nat))(mem:List Nat)(i:Nat)(d:List Nat):Bool :=
 !(d.contains i)&&mem.all fun m=>(!((pre.getD i []).contains m)||d.contains m)&&(!(d.contains m) || !((pre.getD m []).contains i))
def xQ(mem d:List Nat)(i:Nat):List Nat:=mem.filter fun j=>d.contains j||j==i
section
variable {Γ:Type} (P:Program) (ops:Array Oper) (Q:Exit->Act->World->Prop) (n:Nat) (ds:List Deferred) (s0:List (Nat×Value))
def qB(l0:List Oper)(pre:List (List Nat))(mem:List Nat)(V:List (Γ->Value))(M:List Nat->Γ->World->Prop):Nat->(Γ->List (Nat×Value))->List Oper->List (Γ->Value)->Prop
 | i,s,o :: l,v :: vs =>
  (
   bif mem.contains i then ∀ d,tJ pre mem i d=true->∀ g w,M d g w->lB P ops Q n ds s0 l0 o (s g) (fun v' w' => ∃ g', M (xQ mem d i) g' w' /\ v' = v g' /\ jD pre i g g' 0 V) w
   else ∀ d,tJ pre mem i d=true->∀ g w,M d g w->mT P ops n o (s g) (v g) (M d g) w) /\
  qB l0 pre mem V M (i+1) (fun g=>jJ o.dst (v g) (s g)) l vs
 | _,_,[],[]=>True
 | _,_,_,_=>False
end
section
variable {Γ:Type} {r:Option Nat} {P:Program} {Q:Exit->Act->World->Prop} {n:Nat} {ds:List Deferred} {s0:List (Nat×Value)} {l:List Oper} {pre:List (List Nat)} {mem:List Nat} {V:List (Γ->Value)} {M:List Nat->Γ->World->Prop}
theorem qB.get{l0:List Oper}:∀ (l:List Oper) (vs:List (Γ->Value)) (b:Nat) (s:Γ->List (Nat×Value)),qB P l0.toArray Q n ds s0 l0 pre mem V M b s l vs->l.length=vs.length /\
 ∀ k o,l[k]? = some o->∃ v,vs[k]? = some v /\
  (
   bif mem.contains (b+k)then ∀ d,tJ pre mem (b+k) d=true->∀ g w,M d g w->lB P l0.toArray Q n ds s0 l0 o (gY (fun j=>decide (j<b+k)) b l (vs.map (· g)) (s g)) (fun v' w' => ∃ g', M (xQ mem d (b+k)) g' w' /\ v' = v g' /\ jD pre (b+k) g g' 0 V) w
   else ∀ d,tJ pre mem (b+k) d=true->∀ g w,M d g w->mT P l0.toArray n o (gY (fun j=>decide (j<b+k)) b l (vs.map (· g)) (s g)) (v g) (M d g) w):=by
 intro l
 induction l with
 | nil=>intro vs b s h;cases vs with|nil=>exact⟨rfl,fun k o hk=>by simp at hk⟩|cons v vs=>exact h.elim
 | cons o l ih =>
  intro vs b s h
  cases vs with
  | nil=>exact h.elim
  | cons v vs =>
   obtain⟨h1,h2⟩:=h
   obtain⟨e,h3⟩:=ih vs (b+1) _ h2
   refine⟨by simp[e],fun k o' hk=>?_⟩
   cases k with
   | zero =>
    simp at hk
    subst hk
    refine⟨v,rfl,?_⟩
    have hs:∀ g,gY (fun j=>decide (j<b+0)) b (o :: l) ((v :: vs).map (· g)) (s g)=s g:=by
     intro g
     have key:∀ (l:List Oper) (us:List Value) (i:Nat) (s:List (Nat×Value)),b<=i->gY (fun j=>decide (j<b+0)) i l us s=s:=by
      intro l
      induction l with
      | nil=>intro us i s _;cases us<;>rfl
      | cons o l ih=>intro us i s hi;cases us with|nil=>rfl|cons u us=>simp only[gY];rw[show decide (i<b+0)=false by simp;omega];exact ih us (i+1) s o_
     exact key _ _ _ _ (zp _)
    simp only[hs]
    exact h1
   | succ k =>
    obtain⟨v', hv', h4⟩:=h3 k o' (by simpa using hk)
    refine⟨v', by simpa using hv', ?_⟩
    rw[show b+1+k=b+(k+1) by omega]at h4
    have hs:∀ g,gY (fun j=>decide (j<b+(k+1))) b (o :: l) ((v :: vs).map (· g)) (s g)=gY (fun j=>decide (j<b+(k+1))) (b+1) l (vs.map (· g)) (jJ o.dst (v g) (s g)):=by
     intro g
     simp only[zy,gY]
     rw[show decide (b<b+(k+1))=true by simp]
     rfl
    simp only[hs]
    exact h4
theorem contains_filter{S:Nat->Bool}{mem:List Nat}{j:Nat}(hj:j∈mem):(mem.filter S).contains j=S j:=by
 cases h:S j with
 | true=>simp[h,hj]
 | false=>simp[h]
theorem OF{S:Nat->Bool}{i:Nat}(hmlt:(mem.all fun m=>decide (m<l.length))=true)(ow:∀ k,(pre.getD i []).contains k=true->S k=true)(notYet:∀ k,k<l.length->(pre.getD k []).contains i=true->S k=false)(hSi:S i=false):tJ pre mem i (mem.filter S)=true:=by
 simp only[tJ,zt,Bool.not_eq_true', zz]
 refine⟨by simp[hSi],fun m hm=>⟨?_,?_⟩⟩
 . rw[contains_filter hm]
   cases h:(pre.getD i []).contains m with
   | true=>simp[ow m h]
   | false=>rfl
 . rw[contains_filter hm]
   have hml:m<l.length:=of_decide_eq_true (zz.1 hmlt m hm)
   cases h:(pre.getD m []).contains i with
   | true=>simp[notYet m hml h]
   | false=>simp
theorem aay{id:Nat}{w:World}(hm:P.follows .mixedOrders=true)(pre:List (List Nat))(mem:List Nat)(hok:Jc l pre mem=true)(V:List (Γ->Value))(M:List Nat->Γ->World->Prop)(g0:Γ)(sE:Γ->List (Nat×Value))
 (h0:M [] g0 w.drew) (hO:qB P l.toArray Q n ds s0 l pre mem V M 0 (fun _=>s0) l V) (hE:∀ g,gY (fun _=>true) 0 l (V.map (· g)) s0=sE g)
 (hend:∀ g w', M mem g w' -> Q .normal (Fr n (sE g) ds) w'):WP r P (.region id l.toArray true) Q (Fr n s0 ds) w:=by
 simp only[Jc,zt]at hok
 obtain⟨⟨⟨⟨hpre,hsel⟩,hacy⟩,hconf⟩,hmlt⟩:=hok
 obtain⟨hlen,hget⟩:=qB.get (l0:=l) l V 0 (fun _=>s0) hO
 simp only[jF]at hget
 -- conflicts are ordered
 have oD:∀ i j x y,l[i]? = some x->l[j]? = some y->i<j->(kH l.toArray x y=true\/kH l.toArray y x=true)->(pre.getD j []).contains i=true:=by
  intro i j x y hx hy hij h
  have hj:j<l.length:=(zb.1 hy).1
  have h1:=zz.1 (zz.1 hconf j (ni.2 hj)) i (ni.2 hij)
  simp only[hx,hy]at h1
  rcases rO.1 h1 with h2|h2
  . exfalso
    have h3:(kH l.toArray x y||kH l.toArray y x)=true:=by
     rcases h with h|h<;>simp[h]
    rw[h3]at h2
    cases h2
  . exact h2
 refine wpIn_region_any hm ?_
 have hsz:l.toArray.size=l.length:=by simp
 -- the invariant
 let Sof:Array Bool->Nat->Bool:=fun listed i=>listed.getD i false
 have main:∀ (fuel:Nat) (listed:Array Bool) (g:Γ) (w:World),listed.size=l.length->listed.toList.countP (! ·)<=fuel->Down l (Sof listed)->M (mem.filter (Sof listed)) g w ->
  wpAnyIn (FW r) 0 P .any l.toArray Q fuel listed (Fr n (gY (Sof listed) 0 l (V.map (· g)) s0) ds) w:=by
  intro fuel
  have fin:∀ (listed:Array Bool) (g:Γ) (w:World),listed.size=l.length->(∀ i,i<l.length->Sof listed i=true)->M (mem.filter (Sof listed)) g w->Q .normal (Fr n (gY (Sof listed) 0 l (V.map (· g)) s0) ds) w:=by
   intro listed g w hs hall hM
   have e1:mem.filter (Sof listed)=mem:=List.filter_eq_self.2 fun m hm' => hall m (by simpa using of_decide_eq_true (zz.1 hmlt m hm'))
   rw[e1]at hM
   have e2:Fr n (gY (Sof listed) 0 l (V.map (· g)) s0) ds=Fr n (sE g) ds:=by
    rw[<-hE g]
    refine th ds fun t=>?_
    rw[kU,kU]
    congr 1
    refine rR l 0 _ _ rfl fun j o hj _=>⟨?_,fun _=>rfl⟩
    rw[jF]
    exact hall j (zb.1 hj).1
   rw[e2]
   exact hend g w hM
  have allOf:∀ (listed:Array Bool),listed.size=l.length->Region.ready .any l.toArray listed=[]->∀ i,i<l.length->Sof listed i=true:=by
   intro listed hs hr i
   induction i using Nat.strongRecOn with
   | _ i ih =>
    intro hi
    cases hc:Sof listed i with
    | true=>rfl
    | false =>
     exfalso
     have:i∈Region.ready .any l.toArray listed:=by
      rw[mem_ready]
      refine⟨?_,l[i],by simp[hi],fun e he hb=>?_⟩
      . have:i<listed.size:=by omega
        simp only[Sof]at hc
        simp[this]at hc ⊢
        exact hc
      . have h1:=zz.1 hacy i (ni.2 hi)
        rw[zo hi]at h1
        simp only[Option.all_some,zz]at h1
        have h2:=h1 e (by simpa using he)
        rw[hb,Bool.not_true,Bool.false_or,decide_eq_true_eq]at h2
        exact ih e.on h2 o_
     rw[hr]at this
     cases this
  induction fuel with
  | zero =>
   intro listed g w hs hc hd hM
   have hz:∀ x∈listed.toList,x=true:=by
    intro x hx
    have:=AL.1 (Nat.le_zero.1 hc) x hx
    simpa using this
   have hall:∀ i,i<l.length->Sof listed i=true:=by
    intro i hi
    have hi' : i<listed.size:=by omega
    simp only[Sof]
    simp[hi']
    exact hz _ s_
   refine⟨?_,fin listed g w hs hall hM⟩
   cases hr:Region.ready .any l.toArray listed with
   | nil=>rfl
   | cons i rs =>
    have:i∈Region.ready .any l.toArray listed:=by rw[hr];simp
    rw[mem_ready]at this
    obtain⟨h1,o,ho,_⟩:=this
    have hi:i<l.length:=by simpa using(z8.1 ho).1
    have:=hall i hi
    simp only[Sof]at this
    have hi' : i<listed.size:=by omega
    simp[hi']at h1 this
    rw[h1]at this
    cases this
  | succ fuel ih =>
   intro listed g w hs hc hd hM
   refine⟨fun hr=>fin listed g w hs (allOf listed hs hr) hM,fun i hi=>?_⟩
   obtain⟨hun,o,ho,hed⟩:=mem_ready.1 hi
   have ho' : l[i]? = some o:=by simpa using ho
   have hil:i<l.length:=(zb.1 ho').1
   have hil' : i<listed.size:=by omega
   have hSi:Sof listed i=false:=by
    simp only[Sof];simp[hil']at hun ⊢;exact hun
   -- the set behind it
   let S:=Sof listed
   let S' := Sof (listed.setIfInBounds i true)
   have hSi:S i=false:=hSi
   have hd:Down l S:=hd
   have hS' : ∀ j,S' j=(S j||j==i):=fun j=>H6 listed i j hil'
   have hd' : Down l S' := ⟨fun j oj hj hSj e he hb=>by
    rw[hS']at hSj ⊢
    rcases rO.1 hSj with h|h
    . rw[show S e.on=true from hd.closed j oj hj h e he hb];rfl
    . have:j=i:=by simpa using h
      subst this
      have:oj=o:=Option.some.inj (hj.symm.trans ho')
      subst this
      rw[show S e.on=true from hed e he hb];rfl⟩
   have hps:=fun j=>DI (S:=S) hpre hd j
   have hps' := fun j=>DI (S:=S') hpre hd' j
   -- what waits for i has not come up
   have notYet:∀ k,k<l.length->(pre.getD k []).contains i=true->S k=false:=by
    intro k hk hki
    cases hSk:S k with
    | false=>rfl
    | true=>have:=hps k hSk hk i hki;rw[hSi]at this;cases this
   -- what i waits for has
   have ow:∀ k,(pre.getD i []).contains k=true->S k=true:=by
    intro k hk
    have h1:=hps' i (by rw[hS'];simp) hil k hk
    rw[hS']at h1
    rcases rO.1 h1 with h|h
    . exact h
    . exfalso
      have e:k=i:=by simpa using h
      subst e
      have:=notYet k hil hk
      -- k is in fP own list: then it has come up before itself
      have h2:=zz.1 (zz.1 hpre k (ni.2 hil)) k (by simpa using hk)
      rw[zo hil]at h2
      simp only[Option.any_some,FZ,zt,decide_eq_true_eq,wI,beq_iff_eq]at h2
      obtain⟨e,he,⟨hb,hlt⟩,h3⟩:=h2
      have hSe:S e.on=true:=by
       have:l[k]=o:=by rw[zo hil]at ho'; exact Option.some.inj ho'
       rw[this]at he
       exact hed e (by simpa using he) hb
      rcases h3 with h3|h3
      . omega
      . have:=hps e.on hSe o_ k (by simpa using h3)
        rw[hSi]at this;cases this
   -- the slots that it looks at hold what they hold in the order of the text
   have agree:∀ t,t∈o.looksAt l.toArray->look (gY S 0 l (V.map (· g)) s0) t=look (gY (fun j=>decide (j<i)) 0 l (V.map (· g)) s0) t:=by
    intro t ht
    rw[kU,kU]
    congr 1
    refine rR l 0 _ _ rfl fun j oj hj hdj=>⟨?_,fun _=>rfl⟩
    rw[jF]
    have htou:kH l.toArray oj o=true:=by simp[kH,hdj,ht]
    rcases vg j i with h|h|h
    . simp[h,ow j (oD j i oj o hj ho' h (.inl htou))]
    . subst h;simp[hSi,S]
    . have:=notYet j (zb.1 hj).1 (oD i j o oj ho' hj h (.inr htou))
      simp[this];omega
   have hev:execOp (ev n (gY S 0 l (V.map (· g)) s0)) o=execOp (ev n (gY (fun j=>decide (j<i)) 0 l (V.map (· g)) s0)) o:=by
    refine execOp_congr o (fun cs b e=>?_) fun x hx=>?_
    . have:=zz.1 hsel o (ze ho')
      rw[e]at this
      simp[s4]at this
    . cases x with
      | tmp t =>
       simp only[ev]
       rw[agree t (uO _ (CD.2 ⟨.tmp t,by simpa using hx,rfl⟩))]
      | _=>rfl
   have htk:gy l.toArray n (gY S 0 l (V.map (· g)) s0) o.guard=gy l.toArray n (gY (fun j=>decide (j<i)) 0 l (V.map (· g)) s0) o.guard:=by
    cases hg:o.guard with
    | none=>rfl
    | some gd =>
     obtain⟨jg,want⟩:=gd
     simp only[gy]
     have e:r7 l.toArray.toList jg=(l.toArray[jg]?).bind (·.dst):=by rw[DQ];simp
     rw[e]
     cases hdg:(l.toArray[jg]?).bind (·.dst)with
     | none=>rfl
     | some d =>
      simp only[ev]
      rw[agree d (wu _ (by rw[hg];simp only;rw[hdg];simp))]
   -- the frame behind it
   have hcnt:(listed.setIfInBounds i true).toList.countP (! ·)<=fuel:=by
    have:(listed.setIfInBounds i true).toList.countP (! ·)+1<=listed.toList.countP (! ·):=by
     rw[FO]
     have hil2:i<listed.toList.length:=by simpa using hil'
     have hfalse:listed.toList[i]=false:=by simp[hil']at hun;simpa using hun
     have e:=yV i listed.toList
     have e2:listed.toList=listed.toList.take i++false :: listed.toList.drop (i+1):=by
      conv=>lhs;rw[<-e,x8 hil2,hfalse]
     have e3:listed.toList.set i true=listed.toList.take i++true :: listed.toList.drop (i+1):=by
      rw[FU,if_pos hil2]
     rw[e3]
     conv=>rhs;rw[e2]
     simp[List.countP_append,u5]
     omega
    omega
   have frame:∀ (g' : Γ) (v:Γ->Value),V[i]? = some v->(∀ k u,V[k]? = some u->S k=true->u g' = u g) ->
    (Fr n (gY S 0 l (V.map (· g)) s0) ds).put o.dst (v g')=Fr n (gY S' 0 l (V.map (· g')) s0) ds:=by
    intro g' v hv hst
    rw[vK]
    refine th ds fun t=>?_
    rw[Dx,kU,kU]
    by_cases hdt:o.dst=some t
    . rw[if_pos hdt]
      have:mK S' t 0 l (V.map (· g'))=some (v g'):=by
       refine DL l 0 i _ o (v g') ho' hdt (by simp[hv]) (by rw[jF,hS'];simp) fun j oj hij hj hdj=>?_
       rw[jF,hS']
       have hto:kH l.toArray o oj=true:=by simp[kH,hdt,hdj]
       have:=notYet j (zb.1 hj).1 (oD i j o oj ho' hj hij (.inl hto))
       simp[this];omega
      rw[this];rfl
    . rw[if_neg hdt]
      congr 1
      refine rR l 0 _ _ s_ fun j oj hj hdj=>?_
      rw[jF,hS']
      have hji:¬ j=i:=by
       rintro rfl
       have:oj=o:=Option.some.inj (hj.symm.trans ho')
       subst this
       exact hdt hdj
      refine⟨by simp[hji],fun hSj=>?_⟩
      have hjl:j<V.length:=by have:=(zb.1 hj).1;omega
      simp only[kX,zo hjl,oE]
      rw[hst j _ (zo hjl) hSj]
   obtain⟨v,hv,hob⟩:=hget i o ho'
   unfold wpOpIn
   rw[ho]
   simp only
   by_cases himem:i∈mem
   . -- an operation on memory
     have hcon:mem.contains i=true:=by simpa using himem
     rw[hcon]at hob
     have hokD:tJ pre mem i (mem.filter S)=true:=OF hmlt ow notYet hSi
     have hins:xQ mem (mem.filter S) i=mem.filter S' := by
      unfold xQ
      refine F3 fun j hj=>?_
      rw[hS']
      have:(mem.filter S).contains j=S j:=contains_filter hj
      rw[this]
     have hM' : M (mem.filter S) g w:=hM
     have next:∀ v' w', (∃ g', M (xQ mem (mem.filter S) i) g' w' /\ v' = v g' /\ jD pre i g g' 0 V) ->
      wpAnyIn (FW r) 0 P .any l.toArray Q fuel (listed.setIfInBounds i true) ((Fr n (gY S 0 l (V.map (· g)) s0) ds).put o.dst v') w' := by
      rintro v' w' ⟨g', hM2,rfl,hstab⟩
      have:=ih (listed.setIfInBounds i true) g' w' (by simpa using hs) hcnt hd' (by rw[show mem.filter (Sof (listed.setIfInBounds i true))=xQ mem (mem.filter S) i from hins.symm];exact hM2)
      rw[frame g' v hv ?_]
      . exact this
      . intro k u hk hSk
        refine jD.get V 0 hstab k u hk ?_
        rw[jF]
        have hkl:k<l.length:=by have:=(zb.1 hk).1;omega
        have h1:(pre.getD k []).contains i=false:=by
         cases h:(pre.getD k []).contains i with
         | false=>rfl
         | true=>have:=notYet k hkl h;rw[hSk]at this;cases this
        have h2:¬ k=i:=by rintro rfl;rw[hSi]at hSk;cases hSk
        rw[h1];simp[h2]
     rcases hob _ hokD g w hM' with ⟨ht,hnd,hcase⟩|⟨ht,hN⟩
     . rw[nW,htk,ht,if_pos rfl]
       refine⟨fun _ _=>trivial,?_⟩
       rw[semAt_eq (uc hnd),qn, hev]
       rcases hcase with ⟨v', w', hr,hN⟩|⟨w', hr,hN⟩|⟨f,args,hr,hC⟩
       . rw[hr];exact next v' w' hN
       . rw[hr];exact next undef w' hN
       . rw[hr]
         refine⟨fun h=>by simp[FW]at h,rV.2 (Calls.mono hC ?_)⟩
         intro e w' he
         cases e with
         | returned v' => exact next v' w' he
         | panicked ch =>
          refine he _ fun t ht' => ?_
          rw[kU,wY l 0 _ (fun j oj hj hdj=>absurd hdj (ht' oj (ze hj)))]
          rfl
         | outgrown=>exact he
     . rw[nW,htk,ht]
       exact⟨fun _ _=>trivial,next undef w hN⟩
   . have hcon:mem.contains i=false:=by simpa using himem
     rw[hcon]at hob
     have hc' : mem.filter S' = mem.filter S:=by
      refine F3 fun j hj=>?_
      rw[hS']
      have:¬ j=i:=by rintro rfl;exact himem hj
      simp[this]
     have hokD:tJ pre mem i (mem.filter S)=true:=OF hmlt ow notYet hSi
     have next:∀ w', M (mem.filter S) g w' -> wpAnyIn (FW r) 0 P .any l.toArray Q fuel (listed.setIfInBounds i true) ((Fr n (gY S 0 l (V.map (· g)) s0) ds).put o.dst (v g)) w' := by
      intro w' hM2
      have:=ih (listed.setIfInBounds i true) g w' (by simpa using hs) hcnt hd' (by rw[show mem.filter (Sof (listed.setIfInBounds i true))=mem.filter S from hc'];exact hM2)
      rw[frame g v hv (fun _ _ _ _=>rfl)]
      exact this
     rcases hob _ hokD g w hM with ⟨ht,hnd,hcase⟩|⟨ht,hN⟩
     . rw[nW,htk,ht,if_pos rfl]
       refine⟨fun _ _=>trivial,?_⟩
       rw[semAt_eq (uc hnd),qn, hev]
       rcases hcase with hr|⟨f,args,hr,hC⟩
       . rw[hr];exact next w hM
       . rw[hr]
         refine⟨fun h=>by simp[FW]at h,rV.2 (Calls.mono hC ?_)⟩
         rintro e w' ⟨v', rfl,rfl,hC'⟩
         exact next w' hC'
     . rw[nW,htk,ht]
       exact⟨fun _ _=>trivial,by rw[<-hN];exact next w hM⟩
 have e0:Fr n s0 ds=Fr n (gY (Sof (Array.replicate l.toArray.size false)) 0 l (V.map (· g0)) s0) ds:=by
  refine th ds fun t=>?_
  rw[kU,wY l 0 _ (fun j o _ _=>?_)]
  . rfl
  . simp only[Sof];exact vI _ _
 have hz:mem.filter (Sof (Array.replicate l.toArray.size false))=[]:=List.filter_eq_nil_iff.2 fun j _=>by
  simp only[Sof];rw[vI];simp
 rw[e0]
 refine main _ _ g0 _ s_ (z1 La s_) ⟨fun j o _ h=>?_⟩ (by rw[hz];exact h0)
 exfalso
 simp only[Sof]at h
 rw[vI]at h
 cases h
end
def Cu:List Nat->List Nat->Bool
 | [],[]=>true
 | a :: l,b :: m=>Nat.beq a b&&Cu l m
 | _,_=>false
theorem OC:∀ {l m:List Nat},Cu l m=true->l=m
 | [],[],_=>rfl
 | a :: l,b :: m,h=>by
  simp only[Cu,zt]at h
  rw[z7 h.1,OC h.2]
 | [],_ :: _,h=>by cases h
 | _ :: _,[],h=>by cases h
def uD{α:Type}:List (List Nat×α)->List Nat->Option α
 | [],_=>none
 | (k,a) :: l,d=>bif Cu k d then some a else uD l d
section
variable {Γ:Type} {r:Option Nat} {P:Program} {ops:Array Oper} {Q:Exit->Act->World->Prop} {n:Nat} {ds:List Deferred} {s0:List (Nat×Value)} {l0 l:List Oper} {pre:List (List Nat)} {mem:List Nat} {V vs:List (Γ->Value)} {v:Γ->Value}
variable {bs:List (World×List Nat)} {Ls:List (List Nat×((Γ->List gh)×(Γ->World->Prop)))} {i:Nat} {s:Γ->List (Nat×Value)} {o:Oper} {L L' : Γ->List gh} {F F' : Γ->World->Prop}
def qb(bs:List (World×List Nat))(Ls:List (List Nat×((Γ->List gh)×(Γ->World->Prop))))(d:List Nat)(g:Γ)(w:World):Prop :=
 match uD Ls d with
 | some (L,F)=>St bs (L g) w/\F g w
 | none=>False
def AE(C:List Nat->(Γ->List gh)->(Γ->World->Prop)->Prop):List (List Nat×((Γ->List gh)×(Γ->World->Prop)))->Prop
 | []=>True
 | (d,L,F) :: r=>C d L F/\AE C r
theorem AE.get{C:List Nat->(Γ->List gh)->(Γ->World->Prop)->Prop}:∀ {Ls:List (List Nat×((Γ->List gh)×(Γ->World->Prop)))} {d:List Nat},AE C Ls->uD Ls d=some (L,F)->C d L F
 | [],_,_,h=>by cases h
 | (k,L0,F0) :: r,d,hf,h=>by
  simp only[uD]at h
  cases hk:Cu k d with
  | true =>
   rw[hk]at h
   simp only[cond_true,Option.some.injEq,Prod.mk.injEq]at h
   obtain⟨rfl,rfl⟩:=h
   rw[<-OC hk]
   exact hf.1
  | false =>
   rw[hk]at h
   exact AE.get hf.2 h
theorem PG:qB P ops Q n ds s0 l0 pre mem V (qb bs Ls) i s [] []:=trivial
theorem nv(hm:mem.contains i=false)(h:∀ g w C,mT P ops n o (s g) (v g) C w)(K:qB P ops Q n ds s0 l0 pre mem V (qb bs Ls) (i+1) (fun g=>jJ o.dst (v g) (s g)) l vs) :
 qB P ops Q n ds s0 l0 pre mem V (qb bs Ls) i s (o :: l) (v :: vs):=by
 refine⟨?_,K⟩
 rw[hm]
 intro d _ g w hM
 rcases h g w (qb bs Ls d g)with ⟨h1,h2,h3|h3⟩|h3
 . exact .inl ⟨h1,h2,.inl h3⟩
 . exact .inl ⟨h1,h2,.inr h3⟩
 . exact .inr h3
theorem Ag(hm:mem.contains i=false)(h:AE (fun d L F=>bif tJ pre mem i d then ∀ g w,St bs (L g) w->F g w->mT P ops n o (s g) (v g) (fun w' => St bs (L g) w' /\ F g w') w else True) Ls)
 (K:qB P ops Q n ds s0 l0 pre mem V (qb bs Ls) (i+1) (fun g=>jJ o.dst (v g) (s g)) l vs):qB P ops Q n ds s0 l0 pre mem V (qb bs Ls) i s (o :: l) (v :: vs):=by
 refine⟨?_,K⟩
 rw[hm]
 intro d hd g w hM
 unfold qb at hM ⊢
 cases hl:uD Ls d with
 | none=>rw[hl]at hM;exact hM.elim
 | some p =>
  obtain⟨L,F⟩:=p
  rw[hl]at hM
  have h1:=h.get hl
  simp only[hd,cond_true]at h1
  exact h1 g w hM.1 hM.2
theorem Al(hm:mem.contains i=true)
 (h:AE (fun d L F=>bif tJ pre mem i d then ∃ L' F', uD Ls (xQ mem d i)=some (L', F')/\∀ g w,St bs (L g) w->F g w->lB P ops Q n ds s0 l0 o (s g) (fun v' w' => ∃ g', (St bs (L' g') w' /\ F' g' w')/\v' = v g' /\ jD pre i g g' 0 V) w else True) Ls)
 (K:qB P ops Q n ds s0 l0 pre mem V (qb bs Ls) (i+1) (fun g=>jJ o.dst (v g) (s g)) l vs):qB P ops Q n ds s0 l0 pre mem V (qb bs Ls) i s (o :: l) (v :: vs):=by
 refine⟨?_,K⟩
 rw[hm]
 intro d hd g w hM
 unfold qb at hM ⊢
 cases hl:uD Ls d with
 | none=>rw[hl]at hM;exact hM.elim
 | some p =>
  obtain⟨L,F⟩:=p
  rw[hl]at hM
  have h1:=h.get hl
  simp only[hd,cond_true]at h1
  obtain⟨L', F', hL', h2⟩:=h1
  rw[hL']
  exact h2 g w hM.1 hM.2
theorem PY{id:Nat}{w:World}(hm:P.follows .mixedOrders=true)(pre:List (List Nat))(mem:List Nat)(hok:Jc l pre mem=true)(V:List (Γ->Value))(Ls:List (List Nat×((Γ->List gh)×(Γ->World->Prop))))(g0:Γ)
 (sE:Γ->List (Nat×Value)) (hL:uD Ls []=some (L,F)) (hst:St bs (L g0) w) (hF:∀ w', gB [] w w' -> F g0 w') (hO:qB P l.toArray Q n ds s0 l pre mem V (qb bs Ls) 0 (fun _=>s0) l V)
 (hE:∀ g,gY (fun _=>true) 0 l (V.map (· g)) s0=sE g) (hLe:uD Ls mem=some (L', F'))
 (hend:∀ g w', St bs (L' g) w' -> F' g w' -> Q .normal (Fr n (sE g) ds) w'):WP r P (.region id l.toArray true) Q (Fr n s0 ds) w :=
 aay hm pre mem hok V (qb bs Ls) g0 sE (by unfold qb;rw[hL];exact⟨hst.grow (gB.drew [] w),hF _ (gB.drew [] w)⟩) hO hE fun g w' h=>by
  unfold qb at h
  rw[hLe]at h
  exact hend g w' h.1 h.2
end
end Go.Sx
namespace Go.Sx
open Go
def yB(b:Bool)(rc:Loop):Loop:=if b then { rc with state:=.done,pending:=some .ret } else rc
section
variable {P:Program} {ops:Array Oper} {Q:Exit->Act->World->Prop} {rest:List Oper} {n:Nat} {s:List (Nat×Value)} {ds:List Deferred} {w:World}
variable {x:Operand} {l:Nat} {bs:List (World×List Nat)} {L LL:List gh} {i:Nat} {rc:Loop}
theorem P7{R:Ending->World->Prop}{a:Act}(i:Nat)(hst:St bs L w)(hi:L[i]? = some (jq l { rc with state:=.busy }))(hL:L.set i (jq l (yB true rc))=LL)(K:∀ w', St bs LL w' -> R (.returned (.bool false)) w'):roundPost P l R .ret a w:=by
 refine⟨_,_,run_endRound (some .ret) (hst.xo hi),K _ ?_⟩
 subst hL
 exact hst.BQ hi _
theorem rfx{f:FuncId}{fi ca:List Value}{ps:List Nat}{assign body:Code}{α:Type}(LZ:α->List gh)(C:α->Prop)(stop:α->Bool)(hst:St bs L w)(hx:ev n s x = .func (.func f) fi.toArray ca.toArray)(he:gC P f)
 (h1:∀ fn dd l w₁ rc,rc=(⟨.ready,none,fn,(Fr n s ds).tmps,ps.toArray,assign,body,dd⟩:Loop)->St bs (jq l rc :: kR dd (some []) :: L) w₁ ->
  CR P f (fi++[Value.func (.yield l) #[] #[]]++ca).toArray w₁ (fun _ w₃=>∃ z,C z/\St bs (jq l (yB (stop z) rc) :: kR dd (some []) :: LZ z) w₃))
 (h2:∀ z dd w₄,C z->stop z=false->St bs (kR dd (some []) :: LZ z) w₄->Q .normal (Fr n s (⟨.collected dd,#[]⟩ :: ds)) w₄)
 (h3:∀ z dd w₄,C z->stop z=true->St bs (kR dd (some []) :: LZ z) w₄->Q .ret (Fr n s (⟨.collected dd,#[]⟩ :: ds)) w₄):WP none P (.rangeFunc x ps.toArray assign body) Q (Fr n s ds) w:=by
 refine wpIn_rangeFunc fun fn _=>?_
 have hs1:St bs (kR w.heap.size (some []) :: L) (w.alloc (.deferred (some []))) :=
  hst.q5 (gB.alloc [] w _) (fun b hb=>by simp[kR]at hb;omega) (by simp[kR]) (fun b hb=>by simp[kR]at hb;simp;omega) (World.alloc_heap_new w _)
 have hs2:St bs (jq (w.heap.size+1) ⟨.ready,none,fn,(Fr n s ds).tmps,ps.toArray,assign,body,w.heap.size⟩ :: kR w.heap.size (some []) :: L) ((w.alloc (.deferred (some []))).alloc (.loop ⟨.ready,none,fn,(Fr n s ds).tmps,ps.toArray,assign,body,w.heap.size⟩)) :=
  hs1.q5 (gB.alloc [] _ _) (fun b hb=>by simp[jq]at hb;simp;omega) (by simp[jq]) (fun b hb=>by simp[jq]at hb;simp;omega) (by have:=World.alloc_heap_new (w.alloc (.deferred (some []))) (.loop ⟨.ready,none,fn,(Fr n s ds).tmps,ps.toArray,assign,body,w.heap.size⟩);simpa[jq]using this)
 refine⟨w.heap.size+1,_,_,⟨.fn (.func f) ca.toArray,(fi++[Value.func (.yield (w.heap.size+1)) #[] #[]]).toArray⟩,((w.alloc (.deferred (some []))).alloc (.loop ⟨.ready,none,fn,(Fr n s ds).tmps,ps.toArray,assign,body,w.heap.size⟩)),f,(fi++[Value.func (.yield (w.heap.size+1)) #[] #[]]++ca).toArray,((w.alloc (.deferred (some []))).alloc (.loop ⟨.ready,none,fn,(Fr n s ds).tmps,ps.toArray,assign,body,w.heap.size⟩)),run_enterLoop_outer fn _ _ _ _,?_,fun _ _=>trivial,?_,fun h=>by simp[FW]at h,?_⟩
 . rw[qn]
   simp only[resolve,rangeCall,Deferred.ofValue,hx]
   simp[ev]
 . have:=he ((fi++[Value.func (.yield (w.heap.size+1)) #[] #[]]++ca).toArray) ((w.alloc (.deferred (some []))).alloc (.loop ⟨.ready,none,fn,(Fr n s ds).tmps,ps.toArray,assign,body,w.heap.size⟩))
   simp only[invoke]
   simpa using this
 . refine rV.2 (Calls.mono (h1 fn w.heap.size (w.heap.size+1) _ _ rfl hs2) ?_)
   rintro e w₃ ⟨v,rfl,z,hC,hs3⟩
   have hs4:=fun rc' => (hs3.BQ (i:=0) rfl rc').sub (Kk _ _)
   cases hz:stop z with
   | false =>
    rw[hz]at hs3
    refine⟨none,_,run_endLoop (hs3.xo (i:=0) rfl) (by simp[yB]),?_⟩
    exact h2 z w.heap.size _ hC hz (hs4 _)
   | true =>
    rw[hz]at hs3
    refine⟨some .ret,_,run_endLoop (hs3.xo (i:=0) rfl) (by simp[yB]),?_⟩
    exact wpIn_ret (h3 z w.heap.size _ hC hz (hs4 _))
end
end Go.Sx
namespace Go.Sx
open Go
section
variable {r:Option Nat} {P:Program} {ops:Array Oper} {Q:Exit->Act->World->Prop} {rest:List Oper} {n:Nat} {s:List (Nat×Value)} {ds:List Deferred} {w:World}
variable {d:Nat} {dd:Option Nat} {ty t t' e kt:TypeId} {pos:String} {af:Array Edge} {g:Option (Nat×Bool)} {x y:Operand} {a:Option Nat} {c:Bool}
theorem Ru(k:Nat)(ht:P.underlying t=some (.map kt e)):(Op.equalIn (k+1) t (.map a) (.map none)).run P w = .ok a.isNone w:=by
 cases a<;>simp[Op.equalIn,run_underlying ht]
theorem ZL(hx:ev n s x = .map a)(hy:ev n s y = .map none)(ht:P.underlying t=some (.map kt e))(hc:(!a.isNone)=c) :
 (execOp (ev n s) ⟨dd,.binOp .neq t x y t', ty,pos,af,g⟩).run P w = .ok (.value (.bool c)) w:=by
 subst hc
 simp[execOp,hx,hy,eqGuard,binOp,Op.equal,Op.maxDepth,Ru 9999 ht]
theorem QZ(hg:gy ops n s g=true)(hx:ev n s x = .map a)(hy:ev n s y = .map none)(ht:P.underlying t=some (.map kt e))(hc:(!a.isNone)=c)
 (K:WL r P ops Q rest (Fr n ((d,.bool c) :: s) ds) w):WL r P ops Q (⟨some d,.binOp .neq t x y t', ty,pos,af,g⟩ :: rest) (Fr n s ds) w:=pv hg rfl (ZL hx hy ht hc) K
end
end Go.Sx
namespace Go.Sx
open Go
section
variable {P:Program} {w:World} {v:Value} {xs:List Int} {e:TypeId} {f:FuncId}
theorem Ui{b cap:Nat}{cur:Array Value}(hg:w.heap[b]? = some (.cells cur e (0,0)))(h4:cur.toList.take xs.length=xs.map (Value.int .i64)):Go.Sort.Holds (Value.int .i64) w b 0 xs.toArray:=by
 intro j hj
 have hj' : j<xs.length:=by simpa using hj
 have h5:(cur.toList.take xs.length)[j]? = some (Value.int .i64 xs[j]):=by rw[h4];simp[hj']
 rw[List.getElem?_take_of_lt hj']at h5
 refine⟨?_,?_⟩
 . simp only[World.cell?,hg]
   have e1:xs.toArray[j]! = xs[j]:=by simp[hj']
   rw[e1]
   simpa using h5
 . simp[World.frozen?,hg]
theorem Xe(hO:Own (iB .i64 v e xs) w){i:Nat}(hi:i<xs.length)
 (hS:∀ b cap,Go.Sort.Holds (Value.int .i64) w b 0 xs.toArray->xs.length<=cap->cap<=9223372036854775807 ->
  Calls P f #[.slice (some ⟨b,0,none⟩) xs.length cap,.int .i64 (i:Int),.int .i64 ((i+1:Nat):Int)] w fun en w' => en = .returned (.slice (some ⟨b,0,none⟩) (xs.length-(i+1-i)) cap) /\
   ∃ q,w' = Go.Sort.putRow (Value.int .i64) (Go.Sort.ahead w q) b 0 (xs.take i++xs.drop (i+1)++List.replicate (i+1-i) 0).toArray) :
 CR P f #[v,.int .i64 (i:Int),.int .i64 ((i+1:Nat):Int)] w (fun r w' => gm (iB .i64 v e xs) w w' (iB .i64 r e (xs.eraseIdx i))):=by
 have hown:w.ownsRow 0 e 1 v xs.length (xs.map (Value.int .i64)):=hO.holds
 rcases hown.2 with ⟨_,h0⟩|⟨g', cap,cur,rfl,hb,hg,h1,h2,h3,h4⟩
 . omega
 . have h4' : cur.toList.take xs.length=xs.map (Value.int .i64):=by rw[Nat.mul_one]at h4;simpa using h4
   refine Calls.mono (hS g' cap (Ui (cap:=cap) hg h4') h1 (by simpa[maxLen]using h2)) ?_
   rintro en w' ⟨rfl,q,rfl⟩
   refine⟨_,rfl,?_⟩
   have hel:xs.eraseIdx i=xs.take i++xs.drop (i+1):=FN xs i
   have hlen:(xs.eraseIdx i).length=xs.length-(i+1-i):=by rw[List.length_eraseIdx_of_lt hi];omega
   have hgl:g' < w.heap.size:=(z8.1 hg).1
   obtain⟨d,hd⟩:∃ d,d=(xs.take i++xs.drop (i+1)++List.replicate (i+1-i) 0).toArray:=⟨_,rfl⟩
   rw[<-hd]
   have hds:d.size=xs.length:=by rw[hd];simp;omega
   have hnew:(Go.Sort.putRow (Value.int .i64) (Go.Sort.ahead w q) g' 0 d).heap[g']? = some (.cells (Go.Sort.putCells (Value.int .i64) 0 d cur) e (0,0)):=by
    simp only[Go.Sort.putRow,Go.Sort.mapBlock,Go.Sort.ahead,Gm,if_pos,hg]
    rfl
   have hold:∀ b,b≠g' -> (Go.Sort.putRow (Value.int .i64) (Go.Sort.ahead w q) g' 0 d).heap[b]? = w.heap[b]? := by
    intro b hb
    simp only[Go.Sort.putRow,Go.Sort.mapBlock,Go.Sort.ahead,Gm]
    rw[if_neg (fun e=>hb e.symm)]
   have hsz:(Go.Sort.putRow (Value.int .i64) (Go.Sort.ahead w q) g' 0 d).heap.size=w.heap.size:=by simp[Go.Sort.putRow,Go.Sort.mapBlock,Go.Sort.ahead]
   have hpl:(Go.Sort.putCells (Value.int .i64) 0 d cur).size=cur.size:=by simp[Go.Sort.putCells]
   have htk:(Go.Sort.putCells (Value.int .i64) 0 d cur).toList.take (xs.eraseIdx i).length=(xs.eraseIdx i).map (Value.int .i64):=by
    apply nE
    intro j
    rw[qN,kX]
    split
    . rename_i hj
      have hj2:j<xs.length:=by omega
      have hjc:j<cur.size:=by
       have:xs.length<=cur.size:=by rw[h3];omega
       omega
      have hdj:d[j]! = (xs.eraseIdx i)[j]:=by
       have hd2:d=(xs.eraseIdx i++List.replicate (i+1-i) 0).toArray:=by rw[hd,hel]
       rw[hd2]
       have hjl:j<(xs.eraseIdx i++List.replicate (i+1-i) 0).toArray.size:=by simp only[List.size_toArray,zn];omega
       rw[getElem!_pos _ j hjl,List.getElem_toArray,FX hj]
      simp only[Go.Sort.putCells,sJ,Array.getElem?_mapIdx,oG,true_and,jF,yM]
      rw[Bn hjc]
      simp only[oE]
      rw[if_pos (by rw[hds];exact hj2),hdj]
      simp[hj]
    . rename_i hj
      rw[nk o_]
      rfl
   refine⟨?_,⟨rfl,rfl,rfl,Nat.le_of_eq hsz.symm,fun b hb hx=>hold b (fun e=>hx (by simp[row,Value.ownBlock,e]))⟩,fun b hb' => .inl (by simpa[row,Value.ownBlock]using hb'),by simp[row,Value.ownBlock],fun b hb' => ?_⟩
   . refine⟨s_,.inr ⟨g', cap,_,by rw[hlen],hb,hnew,o_,h2,by rw[hpl];exact h3,?_⟩⟩
     rw[Nat.mul_one]
     simpa using htk
   . simp[row,Value.ownBlock]at hb'
     subst hb'
     rw[hsz]
     exact hgl
end
end Go.Sx
namespace Go.Sx
open Go
section
variable {P:Program} {w:World} {f:FuncId} {γ:Type} {b:Nat} {k:IntKind} {enc:γ->Value} {m:List (Int×γ)}
theorem TL(hO:Own (gQ b k enc m) w)(hS:∀ es clock,w.heap[b]? = some (.map es clock)->Calls P f #[.map (some b)] w fun e w' => e = .returned (.map (some w.heap.size))/\w' = w.alloc (.map es clock)) :
 CR P f #[.map (some b)] w (fun r w' => ∃ b2,r = .map (some b2)/\gm (gQ b k enc m) w w' (gF [gQ b k enc m,gQ b2 k enc m])):=by
 obtain⟨es,iQ,h1,h2⟩:=hO.holds
 have hst:=St.Jr hO
 refine Calls.mono (hS _ _ h1) ?_
 rintro e w' ⟨rfl,rfl⟩
 refine⟨_,rfl,w.heap.size,rfl,?_⟩
 have hst2:St [(w,(gQ b k enc m).gT)] (gQ w.heap.size k enc m :: [gQ b k enc m]) (w.alloc (.map (es.map (iM k)).toArray iQ)) :=
  hst.q5 (gB.alloc [] w _) (fun c hc=>by simp[gQ]at hc;omega) (by simp[gQ]) (fun c hc=>by simp[gQ]at hc;simp;omega) ⟨es,iQ,heap_alloc_new w _,h2⟩
 exact St.OL (hst2.perm (List.Perm.swap _ _ _)) zh
end
end Go.Sx
namespace Go.Sx
open Go
section
variable {γ:Type}
def lQ(b r:Nat)(k:IntKind)(enc:γ->Value)(m todo:List (Int×γ))(cur:Option (Int×γ)):gh where
 gT:=[b,r]
 holds w:=∃ (es:List (Int×Value×Nat)) (iQ:Nat) (ss:Array Nat) (since c0:Nat),w.heap[b]? = some (.map (es.map (iM k)).toArray iQ)/\es.map (fun e=>(e.1,e.2.1))=m.map (fun p=>(p.1,enc p.2))/\(es.map (fun e=>e.2.2)).Nodup/\(∀ e∈es,e.2.2<iQ) /\
  w.heap[r]? = some (.mapIter (some b) since ss c0)/\since<=c0/\since<=iQ/\(∀ e∈es,e.2.2<since) /\
  (es.filter fun e => !ss.contains e.2.2).map (fun e=>(e.1,e.2.1))=todo.map (fun p=>(p.1,enc p.2)) /\
  ∀ p,cur=some p->c0=iQ/\∃ (ss0:Array Nat) (e:Int×Value×Nat),ss=ss0.push e.2.2/\e∈es/\e.1=p.1/\e.2.1=enc p.2
 loc w w' h hh:=by
  obtain⟨es,iQ,ss,since,c0,h1,h2,h3,h4,h5,h6⟩:=hh
  exact⟨es,iQ,ss,since,c0,(h b s_).trans h1,h2,h3,h4,(h r s_).trans h5,h6⟩
theorem Te{es:List (Int×Value×Nat)}{p:Nat->Bool}{e:Int×Value×Nat}(hn:(es.map (fun e=>e.2.2)).Nodup)(he:e∈es)(hp:p e.2.2=true) :
 ∃ j,(es.filter fun x=>p x.2.2)[j]? = some e/\(es.filter fun x=>p x.2.2 && !(x.2.2==e.2.2))=(es.filter fun x=>p x.2.2).eraseIdx j:=by
 induction es with
 | nil=>simp at he
 | cons x es ih =>
  simp only[zy,zx]at hn
  rcases zg.1 he with rfl|he
  . refine⟨0,by simp[hp],?_⟩
    rw[wD,if_neg s_,wD,if_pos hp]
    simp only[List.eraseIdx_cons_zero]
    refine F3 fun y hy=>?_
    have:y.2.2≠e.2.2:=fun h=>hn.1 (by rw[<-h];exact jW.2 ⟨y,hy,rfl⟩)
    simp[this]
  . obtain⟨j,h1,h2⟩:=ih hn.2 he
    have hne:x.2.2≠e.2.2:=fun h=>hn.1 (by rw[h];exact jW.2 ⟨e,he,rfl⟩)
    by_cases hx:p x.2.2=true
    . refine⟨j+1,by rw[wD,if_pos hx];simpa using h1,?_⟩
      rw[wD,if_pos (by simp[hx,hne]),wD,if_pos hx,List.eraseIdx_cons_succ,h2]
    . refine⟨j,by rw[wD,if_neg hx];exact h1,?_⟩
      rw[wD,if_neg (by simp[hx]),wD,if_neg hx,h2]
end
section
variable {γ:Type} {enc:γ->Value}
variable {r:Option Nat} {P:Program} {ops:Array Oper} {Q:Exit->Act->World->Prop} {rest l:List Oper} {n:Nat} {s s0:List (Nat×Value)} {ds:List Deferred} {w w0:World} {Nx:Value->World->Prop}
variable {d:Nat} {dd:Option Nat} {ty:TypeId} {pos:String} {af:Array Edge} {g:Option (Nat×Bool)} {x y m:Operand} {bs:List (World×List Nat)} {L L' : List gh} {t e kt:TypeId} {b rb:Nat} {k k' : IntKind} {mm todo:List (Int×γ)} {a:Int} {z v:Value} {c:γ} {cur:Option (Int×γ)}
theorem rgM(i:Nat)(hg:gy ops n s g=true)(hm:ev n s m = .map (some b))(ht:P.underlying t=some (.map kt e))(hst:St bs L w)(hL:L[i]? = some (gQ b k enc mm))
 (K:∀ rb w', St bs (L.set i (lQ b rb k enc mm mm none)) w' -> WL r P ops Q rest (Fr n ((d,.pointer (some ⟨rb,0,none⟩)) :: s) ds) w'):WL r P ops Q (⟨some d,.range t m,ty,pos,af,g⟩ :: rest) (Fr n s ds) w:=by
 obtain⟨es,iQ,h1,h2,h3,h4⟩:(gQ b k enc mm).holds w:=hst.own _ (ze hL)
 have hlt:=IB hst hL
 refine pv (v:=.pointer (some ⟨w.heap.size,0,none⟩)) (w' := w.alloc (.mapIter (some b) iQ #[] iQ)) hg rfl ?_ (K _ _ ?_)
 . simp only[execOp,hm,zj,run_range_map w t kt e b _ iQ ht h1,zd,zm]
 . refine hst.iF hL (gB.alloc _ w _) (fun c hc=>?_) ?_ (fun c hc=>?_) ?_
   . simp[lQ]at hc
     rcases hc with rfl|rfl
     . exact .inl (by simp[gQ])
     . exact .inr (zp _)
   . simp[lQ];omega
   . simp[lQ]at hc
     simp only[World.alloc,Array.size_push]
     omega
   . exact⟨es,iQ,#[],iQ,iQ,(heap_alloc_old w _ hlt).trans h1,h2,h3,h4,heap_alloc_new w _,zp _,zp _,h4,by rw[List.filter_eq_self.2 s_];exact h2,fun p hp=>by cases hp⟩
theorem St.UQ{i:Nat}(hst:St bs L w)(hL:L[i]? = some (lQ b rb k enc mm todo cur)):St bs (L.set i (gQ b k enc mm)) w:=by
 obtain⟨es,iQ,ss,since,c0,h1,h2,h3,h4,_⟩:(lQ b rb k enc mm todo cur).holds w:=hst.own _ (ze hL)
 refine hst.iF hL (gB.refl _ w) (fun c hc=>.inl ?_) (by simp[gQ]) (fun c hc=>?_) ⟨es,iQ,h1,h2,h3,h4⟩
 . simp[gQ]at hc
   simp[lQ,hc]
 . refine hst.lt c (qm hL ?_)
   simp[gQ]at hc
   simp[lQ,hc]
structure Nxt (P:Program) (bs:List (World×List Nat)) (L:List gh) (i b rb:Nat) (k:IntKind) (enc:γ->Value) (mm todo todo2:List (Int×γ)) (p:Int×γ) (w w' : World):Prop where
 run:∀ ty,(Instr.next (.pointer (some ⟨rb,0,none⟩)) false ty).run P w = .ok (.tuple #[.bool true,.int k p.1,enc p.2]) w'
 st:St bs (L.set i (lQ b rb k enc mm todo2 (some p))) w'
 perm:todo.Perm (p :: todo2)
theorem UB(P:Program){i:Nat}(hst:St bs L w)(hL:L[i]? = some (lQ b rb k enc mm todo cur)) :
 (todo=[]/\∀ ty,(Instr.next (.pointer (some ⟨rb,0,none⟩)) false ty).run P w = .ok (.tuple #[.bool false]) w)\/∃ p todo2 w', Nxt P bs L i b rb k enc mm todo todo2 p w w' := by
 obtain⟨es,iQ,ss,since,c0,h1,h2,h3,h4,h5,h6,h6', h7,h8,h9⟩:(lQ b rb k enc mm todo cur).holds w:=hst.own _ (ze hL)
 have hb:b<w.heap.size:=hst.lt b (qm hL (by simp[lQ]))
 have hrb:rb<w.heap.size:=hst.lt rb (qm hL (by simp[lQ]))
 have hne:b≠rb:=by
  rintro rfl
  rw[h1]at h5
  cases h5
 have hold:∀ x∈(es.map (iM k)).toArray.toList,x.born<since:=by
  intro x hx
  simp at hx
  obtain⟨a,v,q,hm,rfl⟩:=hx
  exact h7 _ hm
 have hlo:(leftOf (es.map (iM k)).toArray ss).toList=(es.filter fun e => !ss.contains e.2.2).map (iM k):=by
  unfold leftOf
  simp only[Array.toList_filter,List.filter_map]
  rfl
 by_cases h0:todo=[]
 . left
   subst h0
   refine⟨rfl,fun ty=>?_⟩
   have hz:(leftOf (es.map (iM k)).toArray ss).size=0:=by
    rw[<-tH,hlo,zu]
    have:=congrArg List.length h8
    simpa using this
   rcases run_next_at (P:=P) w ty rb b since c0 ss _ iQ h5 h1 hold h6 with ⟨_,h⟩|⟨e,he,_⟩
   . exact h
   . rw[Array.eq_empty_of_size_eq_zero hz]at he
     simp at he
 . right
   have hty:∃ e∈(leftOf (es.map (iM k)).toArray ss).toList,∃ w1:World,(w1=w\/w1=w.drew)/\∀ ty,(Instr.next (.pointer (some ⟨rb,0,none⟩)) false ty).run P w = .ok (.tuple #[.bool true,e.key,e.val]) (Go.ChangeMaps.setBlock w1 rb (.mapIter (some b) since (ss.push e.born) iQ)):=by
    rcases run_next_at (P:=P) w 0 rb b since c0 ss _ iQ h5 h1 hold h6 with ⟨hz,_⟩|⟨e,he,w1,hw,hr⟩
    . exfalso
      rw[<-tH,hlo,zu]at hz
      have h10:=congrArg List.length h8
      rw[zu,zu,hz]at h10
      exact h0 (KY.1 h10.symm)
    . exact⟨e,he,w1,hw,fun ty=>hr⟩
   obtain⟨e9,he9,w1,hw,hrun⟩:=hty
   rw[hlo]at he9
   obtain⟨e,he,rfl⟩:=jW.1 he9
   obtain⟨hem,hes⟩:=FJ.1 he
   obtain⟨j,hj,hjf⟩:=Te (p:=fun q => !ss.contains q) h3 hem hes
   have hjl:=(zb.1 hj).1
   have hlen:=congrArg List.length h8
   rw[zu,zu]at hlen
   have hp:todo[j]? = some (todo[j]'o_):=zo o_
   generalize (todo[j]'o_)=p at hp
   have hpe:(e.1,e.2.1)=(p.1,enc p.2):=by
    have h10:=congrArg (fun l=>l[j]?) h8
    simp only[kX,hj,hp,oE]at h10
    exact Option.some.inj h10
   have hp1:e.1=p.1:=congrArg Prod.fst hpe
   have hp2:e.2.1=enc p.2:=congrArg Prod.snd hpe
   have hw1:w1.heap=w.heap:=by rcases hw with rfl|rfl<;>rfl
   have hc1:gB [] w w1:=by
    rcases hw with rfl|rfl
    . exact gB.refl _ _
    . exact gB.drew _ _
   have hc2:gB (lQ b rb k enc mm todo cur).gT w (Go.ChangeMaps.setBlock w1 rb (.mapIter (some b) since (ss.push e.2.2) iQ)) :=
    (hc1.mono s_).trans ((Xh (b:=rb) w1 _).mono (by simp[lQ]))
   refine⟨p,todo.eraseIdx j,Go.ChangeMaps.setBlock w1 rb (.mapIter (some b) since (ss.push e.2.2) iQ),⟨fun ty=>?_,?_,?_⟩⟩
   . rw[hrun ty]
     simp only[hp1,hp2]
   . refine hst.iF hL hc2 (fun c hc=>.inl hc) ?_ (fun c hc=>?_) ?_
     . simp[lQ,hne]
     . exact z6 (hst.lt c (qm hL hc)) hc2.size
     . refine⟨es,iQ,ss.push e.2.2,since,iQ,?_,h2,h3,h4,?_,h6', h6', h7,?_,fun q hq=>?_⟩
       . show (w1.heap.setIfInBounds rb _)[b]? = _
         rw[hw1,Array.getElem?_setIfInBounds_ne (Ne.symm hne)]
         exact h1
       . show (w1.heap.setIfInBounds rb _)[rb]? = _
         rw[hw1]
         simp[hrb]
       . have:(es.filter fun x => !(ss.push e.2.2).contains x.2.2)=(es.filter fun x => !ss.contains x.2.2 && !(x.2.2==e.2.2)):=by
          refine F3 fun x hx=>?_
          rw[Array.contains_push,Bool.not_or]
         rw[this,hjf,<-Dd,h8,Dd]
       . cases hq
         exact⟨rfl,ss,e,rfl,hem,hp1,hp2⟩
   . have h10:=(zb.1 hp)
     obtain⟨h11,h12⟩:=h10
     have h13:todo=todo.take j++p :: todo.drop (j+1):=by
      rw[<-h12,<-x8 h11,yV]
     rw[FN]
     exact(List.Perm.of_eq h13).trans wA
theorem Rn{w' : World}{u:Value}(hg:gy ops n s g=true)(hx:ev n s x=v)(h:(Instr.next v false ty).run P w = .ok u w')(K:WL r P ops Q rest (Fr n ((d,u) :: s) ds) w'):WL r P ops Q (⟨some d,.next x false,ty,pos,af,g⟩ :: rest) (Fr n s ds) w :=
 pv hg rfl (by simp only[execOp,hx,zj,h,zd,zm]) K
theorem enM{p:Int×γ}(i:Nat)(hg:gy ops n s g=true)(hx:ev n s x = .pointer (some ⟨rb,0,none⟩))(hst:St bs L w)(hL:L[i]? = some (lQ b rb k enc mm todo (some p)))
 (K:WL r P ops Q rest (Fr n ((d,.tuple #[.int k p.1,enc p.2]) :: s) ds) w):WL r P ops Q (⟨some d,.entry x,ty,pos,af,g⟩ :: rest) (Fr n s ds) w:=by
 obtain⟨es,iQ,ss,since,c0,h1,h2,h3,h4,h5,h6,h6', h7,h8,h9⟩:(lQ b rb k enc mm todo (some p)).holds w:=hst.own _ (ze hL)
 obtain⟨rfl,ss0,e,rfl,hem,hp1,hp2⟩:=h9 p rfl
 have he:=run_entry_at (P:=P) w rb b since ss0 (es.map (iM k)).toArray c0 (iM k e) h5 h1 (by simp only[jW];exact⟨e,hem,rfl⟩) (by rw[Bd];exact h3)
 refine pv hg rfl (by simp only[execOp,hx,zj,he,zd,zm,hp1,hp2]) K
end
end Go.Sx
namespace Go.Sx
open Go
theorem Vy{γ:Type}{m m2:List (Int×γ)}{a:Int}:ig (m++m2) a=if ig m a=none then ig m2 a else ig m a:=by
 induction m with
 | nil=>simp[ig]
 | cons p m ih =>
  obtain⟨b,y⟩:=p
  simp only[qc,ig]
  split
  . simp
  . exact ih
structure pG (im0 dn todo dn2 im2:IM):Prop where
 perm:(dn++todo).Perm im0
 same:dn2.map (fun p=>(p.1,p.2.2))=dn.map (fun p=>(p.1,p.2.2))
 keys:(im2.map Prod.fst).Nodup
 get:∀ a,ig im2 a=if ig dn2 a=none then ig im0 a else ig dn2 a
theorem pG.start{im0:IM}(h:(im0.map Prod.fst).Nodup):pG im0 [] im0 [] im0:=⟨List.Perm.refl _,rfl,h,fun a=>by simp[ig]⟩
theorem pG.Oz{im0 dn todo dn2 im2:IM}(h:pG im0 dn todo dn2 im2):dn2.map Prod.fst=dn.map Prod.fst:=by
 have:=congrArg (List.map Prod.fst) h.same
 rw[Bd,Bd]at this
 exact this
theorem pG.nodup{im0 dn todo dn2 im2:IM}(h:pG im0 dn todo dn2 im2)(h0:(im0.map Prod.fst).Nodup):((dn++todo).map Prod.fst).Nodup:=((h.perm.map Prod.fst).nodup_iff).2 h0
theorem pG.next{im0 dn todo td2 dn2 im2:IM}{p:Int×(Value×List Nat)}(h:pG im0 dn todo dn2 im2)(h0:(im0.map Prod.fst).Nodup)(hp:todo.Perm (p :: td2))(v:Value) :
 pG im0 (dn++[p]) td2 (dn2++[(p.1,(v,p.2.2))]) (gi im2 p.1 (v,p.2.2)):=by
 have hpe:(dn++[p]++td2).Perm (dn++todo):=by
  rw[lH]
  exact(hp.symm.append_left dn)
 have hn:=h.nodup h0
 have hni:ig dn2 p.1=none:=by
  rw[Dw,h.Oz]
  intro hm
  rw[qM,zw]at hn
  exact hn.2.2 _ hm p.1 (jW.2 ⟨p,hp.mem_iff.2 s_,rfl⟩) rfl
 refine⟨hpe.trans h.perm,?_,Dl h.keys _ _,fun a=>?_⟩
 . rw[qM,qM,h.same]
   rfl
 . rw[zJ,Vy,h.get]
   by_cases ha:p.1=a
   . subst ha
     simp[hni,ig]
   . simp only[if_neg ha,ig]
     split<;>simp_all
theorem pG.at{im0 dn todo td2 dn2 im2:IM}{p:Int×(Value×List Nat)}(h:pG im0 dn todo dn2 im2)(h0:(im0.map Prod.fst).Nodup)(hp:todo.Perm (p :: td2)):(fU im0 p.1).2=p.2.2:=by
 have h1:(p.1,p.2)∈im0:=h.perm.mem_iff.1 (wu _ (hp.mem_iff.2 s_))
 unfold fU
 rw[Lp h0 h1]
 rfl
theorem Li{γ:Type}{m m2:List (Int×γ)}(hp:m.Perm m2)(h:(m.map Prod.fst).Nodup)(a:Int):ig m a=ig m2 a:=by
 have h2:(m2.map Prod.fst).Nodup:=((hp.map Prod.fst).nodup_iff).1 h
 cases hm:ig m a with
 | some x=>exact(Lp h2 (hp.mem_iff.1 (Nv hm))).symm
 | none =>
  rw[Dw]at hm
  symm
  rw[Dw]
  intro h9
  exact hm (((hp.map Prod.fst).mem_iff).2 h9)
theorem Lo{γ:Type}:∀ {m m2:List (Int×γ)},(m.map Prod.fst).Nodup->(m2.map Prod.fst).Nodup->(∀ a,ig m a=ig m2 a)->m.Perm m2
 | [],m2,_,_,h=>by
  cases m2 with
  | nil=>exact List.Perm.refl _
  | cons p m2=>have:=h p.1;obtain⟨b,y⟩:=p;simp[ig]at this
 | p :: m,m2,h1,h2,h=>by
  obtain⟨b,y⟩:=p
  have hb:ig m2 b=some y:=by rw[<-h b];simp[ig]
  have hq:=Mi hb
  have h3:=LQ h2 b
  simp only[zy,zx]at h1
  refine(List.Perm.cons _ (Lo h1.2 h3 fun a=>?_)).trans hq.symm
  rw[Hw h2]
  have h4:=h a
  simp only[ig]at h4
  split
  . rename_i e
    subst e
    exact Dw.2 h1.1
  . rename_i e
    rw[if_neg e]at h4
    exact h4
theorem LX{dn dn2:IM}(h:dn2.map (fun p=>(p.1,p.2.2))=dn.map (fun p=>(p.1,p.2.2)))(a:Int):(ig dn2 a=none↔ig dn a=none)/\(fU dn2 a).2=(fU dn a).2:=by
 induction dn generalizing dn2 with
 | nil =>
  cases dn2 with
  | nil=>exact⟨Iff.rfl,rfl⟩
  | cons q dn2=>simp at h
 | cons p dn ih =>
  cases dn2 with
  | nil=>simp at h
  | cons q dn2 =>
   simp only[zy,List.cons.injEq,Prod.mk.injEq]at h
   obtain⟨⟨e1,e2⟩,e3⟩:=h
   obtain⟨b,v,xs⟩:=p
   obtain⟨b2,v2,xs2⟩:=q
   simp only at e1 e2
   subst e1 e2
   have:=ih e3
   unfold fU at this ⊢
   simp only[ig]
   split
   . simp
   . exact this
theorem pG.fin{im0 dn todo dn2 im2:IM}(h:pG im0 dn todo dn2 im2)(h0:(im0.map Prod.fst).Nodup)(ht:todo=[]) :
 dn.Perm im0/\dn2.Perm im2/\(im2.map Prod.fst).Nodup/\∀ a,(ig im2 a=none↔ig im0 a=none)/\(fU im2 a).2=(fU im0 a).2:=by
 subst ht
 have hp:dn.Perm im0:=by simpa using h.perm
 have hdn:(dn.map Prod.fst).Nodup:=((hp.map Prod.fst).nodup_iff).2 h0
 have hd2:(dn2.map Prod.fst).Nodup:=by rw[h.Oz];exact hdn
 have hg:∀ a,ig dn2 a=ig im2 a:=by
  intro a
  rw[h.get]
  split
  . rename_i hn
    rw[hn]
    have h1:=((LX h.same a).1).1 hn
    rw[Li hp hdn a]at h1
    exact h1.symm
  . rfl
 refine⟨hp,Lo hd2 h.keys hg,h.keys,fun a=>?_⟩
 have h1:=LX h.same a
 have h2:=Li hp hdn a
 have h3:=hg a
 unfold fU at h1 ⊢
 rw[<-h3,<-h2]
 exact h1
theorem DY{v:Value}{e:TypeId}{cf:Nat->List Value}(hcf:∀ x:Nat,cf x=[.int .i64 (x:Int)])(ds:List Nat):fV cf v e 1 ds=iB .i64 v e (gx ds):=by
 have h1:ds.flatMap cf=(gx ds).map (.int .i64):=by
  unfold gx
  induction ds with
  | nil=>rfl
  | cons d ds ih=>simp[hcf,ih]
 show row v e 1 ds.length _=row v e 1 (gx ds).length _
 rw[h1,show (gx ds).length=ds.length by simp[gx]]
theorem St.aaL{bs:List (World×List Nat)}{L:List gh}{w:World}{v:Value}{e:TypeId}{ds:List Nat}{cf:Nat->List Value}(hcf:∀ x:Nat,cf x=[.int .i64 (x:Int)])(h:St bs (iB .i64 v e (gx ds) :: L) w):St bs (fV cf v e 1 ds :: L) w:=by
 rw[DY hcf]
 exact h
theorem St.Pn {bs:List (World×List Nat)}{L:List gh}{w:World}{v:Value}{e:TypeId}{ds:List Nat}{cf:Nat->List Value}(hcf:∀ x:Nat,cf x=[.int .i64 (x:Int)])(h:St bs (fV cf v e 1 ds :: L) w):St bs (iB .i64 v e (gx ds) :: L) w:=by
 rw[DY hcf]at h
 exact h
end Go.Sx
namespace Go.Sx
open Go
theorem fZ.ok.copy{fO fN:Nat}{s:fZ}(h:s.ok fO fN){aw2:AW}(ha:∃ qs,aw2.A={ s.A with ps:=qs })(haok:aw2.A.ok){t2:TW}(hto:t2.ok)(htm:∀ x,t2.mem x↔s.t.mem x)(htn:t2.A.n=s.t.A.n){im2:IM}(hk:(im2.map Prod.fst).Nodup)
 (hg:∀ a,(ig im2 a=none↔ig s.im a=none)/\(fU im2 a).2=(fU s.im a).2) (iO tb ab mb:Nat) (lv:Value) :
 fZ.ok fO fN ⟨iO,tb,ab,mb,lv,s.last,aw2,t2,s.live,im2⟩/\∀ x,fZ.has ⟨iO,tb,ab,mb,lv,s.last,aw2,t2,s.live,im2⟩ x↔s.has x:=by
 obtain⟨qs,ha⟩:=ha
 have hin:∀ j,aw2.A.ia j↔s.A.ia j:=fun j=>by rw[ha];exact Iff.rfl
 have hn:aw2.A.n=s.A.n:=by rw[ha]
 have hb:aw2.A.begun=s.A.begun:=by rw[ha]
 refine⟨⟨hn.trans h.n,htn.trans h.tn,h.en,h.vn,haok,hto,h.ll.trans hb.symm,fun i hi=>h.slot i ((hin i).1 hi),h.Gj,fun i hi=>h.ne i ((hin i).1 hi),fun id=>?_,hk,fun id i=>?_,fun id=>?_,fun id=>?_,
  fun i hi=>h.seq i ((hin i).1 hi),fun i j hi hj=>h.Fe i j ((hin i).1 hi) ((hin j).1 hj),h.uz⟩,fun x=>?_⟩
 . show t2.mem id↔∃ i,aw2.A.ia i/\_
   rw[htm,h.mem]
   exact⟨fun⟨i,a,b⟩=>⟨i,(hin i).2 a,b⟩,fun⟨i,a,b⟩=>⟨i,(hin i).1 a,b⟩⟩
 . show i∈(fU im2 id).2↔aw2.A.ia i/\_
   rw[(hg id).2,hin]
   exact h.inc id i
 . show ((fU im2 id).2).Nodup
   rw[(hg id).2]
   exact h.nd id
 . show ig im2 id=none↔(fU im2 id).2=[]
   rw[(hg id).1,(hg id).2]
   exact h.empty id
 . exact⟨fun⟨i,a,b⟩=>⟨i,(hin i).1 a,b⟩,fun⟨i,a,b⟩=>⟨i,(hin i).2 a,b⟩⟩
end Go.Sx
namespace Go.Sx
open Go
section
variable {α:Type} [Inhabited α] {cf:α->List Value} {k:Nat}
theorem LH(hl:∀ x:α,(cf x).length=k)(hk:0<k)(d:Array α):(Go.Sort.flatK cf k d).toList=d.toList.flatMap cf:=by
 apply nE
 intro t
 by_cases ht:t<d.size*k
 . have h1:t / k<d.size:=(Kz hk).2 ht
   have h2:t%k<k:=vh _ hk
   have h3:d.toList[t / k]? = some d[t / k]:=by simp[h1]
   have h4:(cf d[t / k])[t%k]? = some ((cf d[t / k])[t%k]'(by rw[hl];exact h2)):=zo (by rw[hl];exact h2)
   have h5:=xh hl d.toList (t / k) (t%k) _ _ h3 h4
   have h6:t / k*k+t%k=t:=Bl t k
   rw[h6]at h5
   rw[h5]
   have h7:=Go.Sort.get_flatK cf k d t ht
   have h8:t<(Go.Sort.flatK cf k d).size:=by simpa using ht
   rw[sJ,Bn h8]
   rw[getElem!_pos _ t h8]at h7
   rw[h7,getElem!_pos d _ h1,getElem!_pos _ _ (by rw[hl];exact h2)]
 . rw[nk (by simp;omega),nk (by rw[rW hl];simp;omega)]
variable {P:Program} {w:World} {v:Value} {xs:List α} {e:TypeId} {f:FuncId} {fv:Value} {lt:α->α->Bool}
theorem Tj{b:Nat}{cur:Array Value}(hl:∀ x:α,(cf x).length=k)(hk:0<k)(hg:w.heap[b]? = some (.cells cur e (0,0)))(h4:cur.toList.take (xs.length*k)=xs.flatMap cf):Go.Sort.HoldsK cf k w b 0 xs.toArray:=by
 intro j hj
 have hj' : j<xs.length*k:=by simpa using hj
 have h5:(cur.toList.take (xs.length*k))[j]? = (Go.Sort.flatK cf k xs.toArray).toList[j]? := by rw[h4,LH hl hk]
 rw[List.getElem?_take_of_lt hj', sJ,sJ,Bn hj]at h5
 refine⟨?_,?_⟩
 . simp only[World.cell?,hg]
   rw[getElem!_pos _ j hj]
   simpa using h5
 . simp[World.frozen?,hg]
theorem Vm(hl:∀ x:α,(cf x).length=k)(hk:0<k)(hO:Own (fV cf v e k xs) w)(hlen:xs.length<4611686018427387904)
 (h0:Calls P f #[.slice none 0 0,fv] w fun e w' => e = .returned (.tuple #[])/\w' = w)
 (hS:∀ blk cap (d:Array α),Go.Sort.HoldsK cf k w blk 0 d->blk<w.heap.size->d.size<4611686018427387904->Calls P f #[.slice (some ⟨blk,0,none⟩) d.size cap,fv] w fun e w' =>
  e = .returned (.tuple #[])/\∃ d' n os,Go.Sort.PermIn 0 d.size d d' /\ Go.Sort.SortedIn lt 0 d.size d' /\ w' = Go.Proofs.sortWorldK cf k w blk 0 n d' os) :
 CR P f #[v,fv] w (fun r w' => r = .tuple #[]/\∃ ys:List α,ys.Perm xs/\ys.Pairwise (fun a b=>lt b a=false)/\gm (fV cf v e k xs) w w' (fV cf v e k ys)):=by
 have hown:w.ownsRow 0 e k v xs.length (xs.flatMap cf):=hO.holds
 rcases hown.2 with ⟨rfl,h1⟩|⟨g', cap,cur,rfl,hb,hg,h1,h2,h3,h4⟩
 . obtain rfl:xs=[]:=KY.1 h1
   refine Calls.mono h0 ?_
   rintro en w' ⟨rfl,rfl⟩
   exact⟨_,rfl,rfl,[],List.Perm.refl _,List.Pairwise.nil,gm.refl hO⟩
 . have hgl:g' < w.heap.size:=(z8.1 hg).1
   have hs:=hS g' cap xs.toArray (Tj hl hk hg h4) hgl (by simpa using hlen)
   rw[List.size_toArray]at hs
   refine Calls.mono hs ?_
   rintro en w' ⟨rfl,d', n,os,hp,hso,rfl⟩
   have hds:d'.size=xs.length:=by simpa using hp.1
   have hperm:d'.toList.Perm xs:=by
    have h5:=hp.2.2
    have e1:d'.extract 0 xs.length=d' := by rw[<-hds];exact Array.extract_size
    have e2:xs.toArray.extract 0 xs.length=xs.toArray:=by rw[show xs.length=xs.toArray.size by simp];exact Array.extract_size
    rwa [e1,e2]at h5
   have hnew:(Go.Proofs.sortWorldK cf k w g' 0 n d' os).heap[g']? = some (.cells (Go.Sort.putCells id 0 (Go.Sort.flatK cf k d') cur) e (0,0)):=by
    simp only[Go.Proofs.sortWorldK,Go.Sort.grow,Go.Sort.putRowK,Go.Sort.putRow,Go.Sort.mapBlock,Go.Sort.ahead]
    rw[Array.getElem?_append_left (by simpa using hgl),Gm,if_pos rfl,hg]
    rfl
   have hold:∀ b,b<w.heap.size->b≠g' -> (Go.Proofs.sortWorldK cf k w g' 0 n d' os).heap[b]? = w.heap[b]? := by
    intro b hb hne
    simp only[Go.Proofs.sortWorldK,Go.Sort.grow,Go.Sort.putRowK,Go.Sort.putRow,Go.Sort.mapBlock,Go.Sort.ahead]
    rw[Array.getElem?_append_left (by simpa using hb),Gm,if_neg (fun e=>hne e.symm)]
   have hsz:w.heap.size<=(Go.Proofs.sortWorldK cf k w g' 0 n d' os).heap.size:=by simp[Go.Proofs.sortWorldK,Go.Sort.grow,Go.Sort.putRowK,Go.Sort.putRow,Go.Sort.mapBlock,Go.Sort.ahead]
   have hpl:(Go.Sort.putCells id 0 (Go.Sort.flatK cf k d') cur).size=cur.size:=by simp[Go.Sort.putCells]
   have htk:(Go.Sort.putCells id 0 (Go.Sort.flatK cf k d') cur).toList.take (d'.toList.length*k)=d'.toList.flatMap cf:=by
    rw[<-LH hl hk]
    have hfs:(Go.Sort.flatK cf k d').size=xs.length*k:=by simp[hds]
    have hle:xs.length*k<=cur.size:=by rw[h3];exact wL _ h1
    apply nE
    intro j
    rw[qN,tH,hds]
    split
    . rename_i hj
      have hjc:j<cur.size:=by omega
      have hjf:j<(Go.Sort.flatK cf k d').size:=by omega
      simp only[Go.Sort.putCells,sJ,Array.getElem?_mapIdx,oG,true_and,jF,yM]
      rw[Bn hjc,Bn hjf]
      simp only[oE]
      rw[if_pos hjf,getElem!_pos _ j hjf]
      rfl
    . rename_i hj
      rw[nk (by simp;rw[hds];omega)]
   refine⟨_,rfl,rfl,d'.toList,hperm,?_,⟨?_,⟨rfl,rfl,rfl,hsz,fun b hb hx=>hold b hb (fun e=>hx (by simp[row,Value.ownBlock,e]))⟩,fun b hb' => .inl (by simpa[row,Value.ownBlock]using hb'),by simp[row,Value.ownBlock],fun b hb' => ?_⟩⟩
   . rw[yP]
     intro i j hi hj hij
     have h5:=hso i j (oG _) hij (by simp at hj ⊢;omega)
     simp only[tH]at hi hj
     rw[getElem!_pos _ i hi,getElem!_pos _ j hj]at h5
     simpa using h5
   . refine⟨by rw[rW hl],.inr ⟨g', cap,_,by simp[hds],hb,hnew,by simp[hds];exact h1,h2,by rw[hpl];exact h3,htk⟩⟩
   . simp[row,Value.ownBlock]at hb'
     subst hb'
     omega
end
end Go.Sx
namespace Go.Sx
open Go
section
variable {P:Program} {fn:Func} {n:Nat} {s:List (Nat×Value)} {w:World} {v v' v'' v''' : Value} {x y z u:ResultVar}
theorem Pk{R:Value->World->Prop}(hr:fn.results = #[x,y,z,u])(h1:RV P n s w v x)(h2:RV P n s w v' y)(h3:RV P n s w v'' z)(h4:RV P n s w v''' u)(h:R (.tuple #[v,v', v'', v''']) w) :
 bodyPost P fn (fun e w' => ∃ v,e = .returned v/\R v w') .ret (Fr n s []) w:=by
 refine⟨rfl,.tuple #[v,v', v'', v'''],?_,_,rfl,h⟩
 rw[GO,hr]
 simp[zj,Result.andThen,vQ h1,vQ h2,vQ h3,vQ h4]
end
end Go.Sx
namespace Go.Sx
open Go
section
variable {H:Type} {enc:TypeId×Value->H} {P:Program} {w:World} {sp:Nat->Bool} {hd:Bool} {t e:TypeId} {fuel:Nat} {v:Value} {cs:List Value} {x:DataW H×List MemPlace} {k:IntKind}
theorem TG{a:Addr}{u:Value}(h:w.cell? a=some u):a.spot=none:=by
 unfold World.cell? at h
 split at h
 . split at h
   . cases h
   . rename_i hs
     cases hq:a.spot with
     | none=>rfl
     | some q=>rw[hq]at hs;simp at hs
 . cases h
theorem Sl.Wl{α:Type}[Inhabited α]{sz:Nat}{E:World->α->List Value->Prop}(ht:P.underlying t=some (.slice e))(hc:P.cellsOf e=sz)(hp:0<sz)
 (hE:∀ n cs y,DataW.trod enc P w 0 sp hd n e cs=some y->∃ x:α,E w x cs) (h:DataW.trod enc P w 0 sp hd fuel t cs=some x):∃ v xs,cs=[v]/\Sl sz E (fun _=>True) w v xs:=by
 rcases Go.Deep.open_slice ht h with ⟨h0,_⟩|⟨a,len,cap,m,n,D,Pl,rfl,_,hl,hm,hmm,_,hx⟩
 . exact⟨_,[],h0,Sl.nil _ _ _ _⟩
 . rw[hc]at hx
   have hlm:len<=m:=by rw[hmm];split<;>omega
   obtain⟨X,hX⟩:=Go.Deep.choose_lt (α:=α) (n:=len) (p:=fun i x=>∃ cs', w.cells? 0 (a.add (i*sz)) sz=some cs' /\ E w x cs') (fun i hi=>by
    obtain⟨cs', h1,h2⟩:=hx i o_
    obtain⟨y,hy⟩:=hE _ _ _ h2
    exact⟨y,cs', h1,hy⟩)
   refine⟨_,(List.range len).map X,rfl,some a,cap,s_,by simp;exact hl,hm,fun i y hi=>?_⟩
   have hlt:i<len:=by have:=(zb.1 hi).1;simpa using this
   have hy:y=X i:=by
    rw[kX,Bj hlt]at hi
    simpa using hi.symm
   subst hy
   obtain⟨cs', h1,h2⟩:=hX i hlt
   obtain⟨_,hlen,hcell⟩:=World.cells?_some h1
   have hsp:a.spot=none:=by
    obtain⟨cs0,q1,_⟩:=hX 0 o_
    obtain⟨_,q2,q3⟩:=World.cells?_some q1
    have h3:=q3 0 hp
    have:cs0[0]? = some cs0[0]:=zo o_
    rw[this]at h3
    have:=TG h3
    simpa[Addr.add]using this
   obtain⟨b,o,s⟩:=a
   simp only at hsp
   subst hsp
   refine⟨b,o,cs', rfl,trivial,hlen,h2,fun j u hj=>?_⟩
   have hj' : j<sz:=by have:=(zb.1 hj).1;omega
   have:=hcell j hj'
   rw[hj]at this
   rw[Addr.add_lit,Addr.add_lit]at this
   exact this
theorem ij.JS{n:Int}(h:(Lit.int k n).wf=true):ij k n:=by
 simp only[Lit.wf,zt,decide_eq_true_eq]at h
 exact h
theorem Dk(he:P.underlying e=some (.int k))(h:DataW.trod enc P w 0 sp hd fuel e cs=some x):∃ n,cs=[.int k n]/\ij k n:=by
 obtain⟨m,h1,_,h3⟩:=DataW.trod_int he h
 exact⟨m,h1,ij.JS h3⟩
theorem Rz{fs:Array Field}(ht:P.underlying t=some (.struct fs))(h:DataW.trod enc P w 0 sp hd fuel t cs=some x):cs.length=P.cellsOf t/\∀ f∈fs.toList,∃ n y,DataW.trod enc P w 0 sp hd n f.type ((cs.drop f.offset).take (P.cellsOf f.type))=some y:=by
 cases fuel with
 | zero=>simp[DataW.trod]at h
 | succ n =>
  unfold DataW.trod at h
  rw[ht]at h
  simp only at h
  split at h
  . rename_i hl
    refine⟨hl,fun f hf=>?_⟩
    obtain⟨i,hi⟩:=Kh hf
    cases hm:(fs.toList.mapM fun f=>DataW.trod enc P w 0 sp hd n f.type ((cs.drop f.offset).take (P.cellsOf f.type)))with
    | none=>rw[hm]at h;simp at h
    | some ys =>
     have:=mapM_some_get hm i f hi
     have hlen:=mapM_some_length hm
     have hlt:i<ys.length:=by rw[hlen];exact(zb.1 hi).1
     rw[zo hlt]at this
     exact⟨n,_,this⟩
  . simp at h
end
end Go.Sx
