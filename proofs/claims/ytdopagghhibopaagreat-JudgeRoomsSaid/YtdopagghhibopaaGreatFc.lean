/- Plain lemmas: rules for walking through code, one for each operation, over any program; an evaluator of closed calls with its soundness; and plain mathematics. No conditions. -/
import Derived.Test.YtdopagghhibopaaGreatFb
import Derived.Test.YtdopagghhibopaaGreatFa
import Derived.Maps.RangeRun
set_option linter.unusedVariables false
set_option linter.unusedSectionVars false
set_option linter.unusedSimpArgs false
namespace Go.Sx
open Go
def iH(xs:List Nd)(i:Nat):List Nd :=
 let p:=(fM xs i).up
 let g:=(fM xs p).up
 let s:=(jw xs i).1
 let y1:=if (jw xs p).2=true then iS xs g (jw xs p).1 i else fR xs i (fun x=>{ x with up:=g })
 let y2:=iS y1 p s (if s=0 then(fM y1 i).k1 else(fM y1 i).k0)
 let y3:=iS y2 i (1-s) p
 iK (iK y3 p) i
def qq(d:Bool)(k:Nat)(x:Nd):Nd:=bif d then { x with k0:=k } else { x with k1:=k }
def sd(d:Bool):Nat:=bif d then 0 else 1
theorem Hf(d:Bool)(k:Nat)(x:Nd):(qq d k x).key=x.key:=by cases d<;>rfl
theorem GI(d:Bool)(k:Nat)(x:Nd):(qq d k x).iP=x.iP:=by cases d<;>rfl
theorem GS(d:Bool)(k:Nat)(x:Nd):(qq d k x).flip=x.flip:=by cases d<;>rfl
theorem TB(d:Bool)(k:Nat)(x:Nd):(qq d k x).up=x.up:=by cases d<;>rfl
theorem M6(xs:List Nd)(i:Nat)(d:Bool)(k:Nat):iS xs i (sd d) k=if k=0 then fR xs i (qq d k)else fR (fR xs i (qq d k)) k (fun x=>{ x with up:=i }):=by
 cases d<;>rfl
theorem Hv(xs:List Nd)(i:Nat)(d:Bool)(k:Nat):(iS xs i (sd d) k).length=xs.length:=by
 rw[M6];split<;>simp[gJ]
theorem HB{xs:List Nd}{i k:Nat}{d:Bool}(hi:i<xs.length)(hk:k<xs.length)(hne:k≠i)(j:Nat) :
 fM (iS xs i (sd d) k) j=if j=i then qq d k (fM xs i)else if j=k/\k≠0 then { fM xs k with up:=i } else fM xs j:=by
 rw[M6]
 split
 . rename_i h0
   rw[kN hi]
   by_cases hj:i=j
   . rw[if_pos hj,if_pos hj.symm]
   . rw[if_neg hj,if_neg (fun e=>hj e.symm),if_neg (by simp[h0])]
 . rename_i h0
   rw[kN (by rw[gJ];exact hk)]
   by_cases hj:k=j
   . subst hj
     rw[if_pos rfl,if_neg hne,if_pos ⟨rfl,h0⟩,kM (fun e=>hne e.symm)]
   . rw[if_neg hj,kN hi]
     by_cases hj' : i=j
     . rw[if_pos hj', if_pos hj'.symm]
     . rw[if_neg hj', if_neg (fun e=>hj' e.symm),if_neg (fun e=>hj e.1.symm)]
theorem Iw{xs:List Nd}{d:Bool}{p i:Nat}(hu:(fM xs i).up=p)(hp:p≠0)(hk:ja xs d p=i)(ho:ja xs (!d) p≠i):jw xs i=(sd d,true):=by
 unfold jw
 rw[hu,if_neg hp]
 cases d
 . simp only[ja,cond_false,Bool.not_false,cond_true]at hk ho
   rw[if_neg ho,if_pos hk];rfl
 . simp only[ja,cond_true]at hk
   rw[if_pos hk];rfl
theorem L4{xs:List Nd}{i p:Nat}(hu:(fM xs i).up=p)(h:p=0\/ja xs true p≠i/\ja xs false p≠i):jw xs i=(0,false):=by
 unfold jw
 rw[hu]
 rcases h with h|⟨h1,h2⟩
 . rw[if_pos h]
 . split
   . rfl
   . simp only[ja,cond_true,cond_false]at h1 h2
     rw[if_neg h1,if_neg h2]
def qD(d:Bool)(a:Tr)(i:Nat)(b:Tr)(p:Nat)(s:Tr):Tr:=bif d then .nd a i (.nd b p s)else .nd (.nd s p a) i b
theorem HG(d:Bool)(a:Tr)(i:Nat)(b:Tr)(p:Nat)(s:Tr):(qD d a i b p s).mem=j4 d (a.mem++i :: b.mem) p s:=by
 cases d<;>simp[qD,j4,Tr.mem]
theorem Uf(d:Bool)(a:Tr)(i:Nat)(b:Tr)(p:Nat)(s:Tr):(qD d a i b p s).root=i:=by cases d<;>rfl
theorem H7:∀ (c:Cx) (L:List Nat),L.length<=(lN c L).length
 | [],_=>zp _
 | (d,g,s) :: c,L=>z1 (by cases d<;>simp[j4]<;>omega) (H7 c _)
theorem Lk{xs:List Nd}{d:Bool}{i:Nat}{t s:Tr}(hi:i≠0/\i<xs.length)(ht:gO xs t i)(hs:gO xs s i)(h0:ja xs d i=t.root)(h1:ja xs (!d) i=s.root)(hn:(j4 d t.mem i s).Nodup)(hlen:(j4 d t.mem i s).length<=1000000) :
 od xs (iK xs i) i/\gO (iK xs i) (mw d t i s) (fM xs i).up:=by
 cases d
 . exact zC hi hs ht (by simpa[ja]using h1) (by simpa[ja]using h0) hn hlen
 . exact zC hi ht hs (by simpa[ja]using h0) (by simpa[ja]using h1) hn hlen
structure YM (xs ys:List Nd) (S:List Nat):Prop where
 kl:KL xs ys
 other:∀ j,j∉S->fM ys j=fM xs j
 flip:∀ j,(fM ys j).flip=(fM xs j).flip
theorem mM.kS{xs ys:List Nd}(k:KL xs ys){c:Cx}{r r' q:Nat}{L:List Nat}(h:mM xs c r L q)(hs:∀ d g s c', c=(d,g,s) :: c' -> (∀ j∈s.mem++jX c', fM ys j=fM xs j)/\fM ys g=qq d r' (fM xs g)):mM ys c r' L q:=by
 cases c with
 | nil=>trivial
 | cons f c' =>
  obtain⟨d,g,s⟩:=f
  obtain⟨h1,h2⟩:=hs d g s c' rfl
  exact h.kid k h1 h2
theorem w6{xs:List Nd}{d:Bool}{p i q:Nat}{s a b:Tr}{c:Cx}(hR:gO xs (j7 ((d,p,s) :: c) (.nd a i b)) q)(hn:(lN ((d,p,s) :: c) (a.mem++i :: b.mem)).Nodup)
 (hlen:xs.length<=1000001) (hcnt:(lN ((d,p,s) :: c) (a.mem++i :: b.mem)).length<=1000000)
 (hq:c=[]->q=0\/ja xs true q≠p/\ja xs false q≠p) :
 gO (iH xs i) (j7 c (qD d a i b p s)) q/\YM xs (iH xs i) (lN ((d,p,s) :: c) (a.mem++i :: b.mem)):=by
 obtain⟨hT,hC⟩:=(xk _ _ _).1 hR
 obtain⟨⟨i0,il⟩,⟨ik0,ik1,iu⟩,iv,ha,hb⟩:=hT
 simp only[vW]at iu
 obtain⟨⟨p0,pl⟩,⟨pk,po,pu⟩,pv,hs,hCc⟩:=hC
 simp only[Tr.root]at pk
 simp only[Tr.mem]at pv hCc
 obtain⟨n1,n2,n3⟩:=Bv hn
 simp only[jX,qc,zx,zw,zr,zg,not_or]at n1 n2 n3
 obtain⟨np1,ns,nc,nsc⟩:=n2
 obtain⟨na,⟨nib,nb⟩,nab⟩:=n1
 have hip:i≠p:=(n3 i s_).1
 have his:i∉s.mem:=(n3 i s_).2.1
 have hic:i∉jX c:=(n3 i s_).2.2
 have hia:i∉a.mem:=fun h=>nab i h i (.inl rfl) rfl
 have hsr:s.root≠i:=fun e=>by
  by_cases h:s.root=0
  . exact i0 (e.symm.trans h)
  . exact his (e▸hs.mV h)
 -- sides
 have hsi:jw xs i=(sd d,true):=Iw iu p0 pk (by rw[po];exact hsr)
 -- the parent's parent
 obtain⟨g,hg⟩:∃ g,(fM xs p).up=g:=⟨_,rfl⟩
 have hgc:g=vW c q:=hg.symm.trans pu
 -- the middle tree,and the outer one
 obtain⟨m,o,hm⟩:∃ m o:Tr,(m,o)=(bif d then(b,a)else(a,b)):=⟨_,_,rfl⟩
 have hmo:gO xs m i/\gO xs o i/\ja xs (!d) i=m.root/\ja xs d i=o.root/\(∀ j,j∈m.mem\/j∈o.mem↔j∈a.mem\/j∈b.mem)/\i∉m.mem/\i∉o.mem/\m.mem.Nodup/\o.mem.Nodup/\∀ j∈m.mem,j∉o.mem:=by
  cases d<;>(simp only[cond_true,cond_false,Prod.mk.injEq]at hm;obtain⟨rfl,rfl⟩:=hm)
  . exact⟨ha,hb,by simpa[ja]using ik0,by simpa[ja]using ik1,fun j=>Iff.rfl,hia,nib,na,nb,fun j h1 h2=>nab j h1 j (.inr h2) rfl⟩
  . exact⟨hb,ha,by simpa[ja]using ik1,by simpa[ja]using ik0,fun j=>Or.comm,nib,hia,nb,na,fun j h1 h2=>nab j h2 j (.inr h1) rfl⟩
 obtain⟨hm1,ho1,hmk,hok,hmem,him,hio,hmn,hon,hmo'⟩:=hmo
 have hmp:∀ j,j∈m.mem\/j∈o.mem->j≠p/\j∉s.mem/\j∉jX c:=fun j hj=>by
  have:=n3 j (by rcases(hmem j).1 hj with h|h<;>simp[h])
  exact⟨this.1,this.2.1,this.2.2⟩
 have hml:m.root<xs.length:=hm1.zR o_
 have hmi:m.root≠i:=fun e=>him (e▸hm1.mV o_)
 have hmpr:m.root≠p:=fun e=>(hmp m.root (.inl (hm1.mV o_))).1 e
 -- the first step
 obtain⟨y1,ey1⟩:∃ y,y=(if (jw xs p).2=true then iS xs g (jw xs p).1 i else fR xs i (fun x=>{ x with up:=g })):=⟨_,rfl⟩
 have hy1:y1.length=xs.length/\fM y1 i={ fM xs i with up:=g }/\(∀ j,j≠i->j∉jX c->fM y1 j=fM xs j)/\(∀ d' g' s' c', c=(d', g', s') :: c' -> (∀ j,j≠i->j≠g' -> fM y1 j=fM xs j)/\fM y1 g' = qq d' i (fM xs g'))/\(c=[]->∀ j,j≠i->fM y1 j=fM xs j):=by
  cases c with
  | nil =>
   have hsp:jw xs p=(0,false):=L4 (p:=q) (by rw[hg,hgc];rfl) (hq rfl)
   rw[hsp]at ey1
   simp only[rN,if_false]at ey1
   subst ey1
   refine⟨gJ,kQ il,fun j hj _=>kM (fun e=>hj e.symm),?_,fun _ j hj=>kM (fun e=>hj e.symm)⟩
   intro d' g' s' c' e
   cases e
  | cons f c' =>
   obtain⟨d', g', s'⟩:=f
   obtain⟨⟨g0,gl⟩,⟨gk,go,gu⟩,gv,gs,gc⟩:=hCc
   simp only[jX,qc,zg,zr,not_or]at hic np1
   have hpg:p≠g' := np1.2.1
   have hsp:jw xs p=(sd d', true):=Iw (p:=g') (by rw[hg,hgc];rfl) g0 gk (by
    rw[go]
    intro e
    have hr:s'.root≠0:=by rw[e];exact p0
    exact np1.2.2.1 (e▸gs.mV hr))
   rw[hsp]at ey1
   simp only[if_true]at ey1
   have hgg:g=g' := hgc
   subst hgg
   have hig:i≠g:=hic.1
   subst ey1
   have hat:=HB (xs:=xs) (d:=d') gl il hig
   refine⟨Hv _ _ _ _,by rw[hat,if_neg hig,if_pos ⟨rfl,i0⟩],fun j hj hjc=>?_,fun d2 g2 s2 c2 e=>?_,fun e=>by cases e⟩
   . rw[hat,if_neg (fun e=>hjc (by simp[jX,e])),if_neg (fun e=>hj e.1)]
   . cases e
     exact⟨fun j h1 h2=>by rw[hat,if_neg h2,if_neg (fun e=>h1 e.1)],by rw[hat,if_pos rfl]⟩
 obtain⟨l1,a1,o1,c1,e1⟩:=hy1
 have pnc:p∉jX c:=np1.2
 have hp1:fM y1 p=fM xs p:=o1 p (fun e=>hip e.symm) pnc
 have hk1:(if sd d=0 then(fM y1 i).k1 else(fM y1 i).k0)=m.root:=by
  rw[a1]
  cases d
  . simp only[sd,cond_false,CO,if_false];simpa[ja]using hmk
  . simp only[sd,cond_true,if_true];simpa[ja]using hmk
 -- the second step
 obtain⟨y2,ey2⟩:∃ y,y=iS y1 p (sd d) m.root:=⟨_,rfl⟩
 have o4:=HB (xs:=y1) (i:=p) (k:=m.root) (d:=d) o_ o_ hmpr
 rw[<-ey2]at o4
 have l2:y2.length=xs.length:=by rw[ey2,Hv,l1]
 -- the third step
 obtain⟨y3,ey3⟩:∃ y,y=iS y2 i (sd (!d)) p:=⟨_,rfl⟩
 have pE:=HB (xs:=y2) (i:=i) (k:=p) (d := !d) o_ o_ (fun e=>hip e.symm)
 rw[<-ey3]at pE
 have l3:y3.length=xs.length:=by rw[ey3,Hv,l2]
 have hrot:iH xs i=iK (iK y3 p) i:=by
  have hsd:1-sd d=sd (!d):=by cases d<;>rfl
  unfold iH
  simp only[hsi,iu,hg,<-ey1,hk1,<-ey2,hsd,<-ey3]
 -- the nodes before the refreshes
 have q2i:fM y2 i={ fM xs i with up:=g }:=by rw[o4,if_neg hip,if_neg (fun e=>hmi e.1.symm),a1]
 have q2p:fM y2 p=qq d m.root (fM xs p):=by rw[o4,if_pos rfl,hp1]
 have q3i:fM y3 i=qq (!d) p { fM xs i with up:=g }:=by rw[pE,if_pos rfl,q2i]
 have q3p:fM y3 p={ qq d m.root (fM xs p)with up:=i }:=by rw[pE,if_neg (fun e=>hip e.symm),if_pos ⟨rfl,p0⟩,q2p]
 have q3m:m.root≠0->fM y3 m.root={ fM xs m.root with up:=p }:=fun h=>by
  rw[pE,if_neg hmi,if_neg (fun e=>hmpr e.1),o4,if_neg hmpr,if_pos ⟨rfl,h⟩,o1 _ hmi (hmp _ (.inl (hm1.mV h))).2.2]
 have q3o:∀ j,j≠i->j≠p->(j≠m.root\/m.root=0)->fM y3 j=fM y1 j:=fun j h1 h2 h3=>by
  rw[pE,if_neg h1,if_neg (fun e=>h2 e.1),o4,if_neg h2,if_neg (fun e=>by rcases h3 with h3|h3;exact h3 e.1;exact e.2 h3)]
 have q3n:∀ j,j≠i->j≠p->(j≠m.root\/m.root=0)->j∉jX c->fM y3 j=fM xs j:=fun j h1 h2 h3 h4=>by rw[q3o j h1 h2 h3,o1 j h1 h4]
 have hmr:∀ j,j∉m.mem->j≠m.root\/m.root=0:=fun j hj=>by
  by_cases h:m.root=0
  . exact .inr h
  . exact .inl (fun e=>hj (e▸hm1.mV h))
 have keyj:∀ j,(fM y3 j).key=(fM xs j).key/\(fM y3 j).iP=(fM xs j).iP/\(fM y3 j).flip=(fM xs j).flip:=by
  have y1k:∀ j,(fM y1 j).key=(fM xs j).key/\(fM y1 j).iP=(fM xs j).iP/\(fM y1 j).flip=(fM xs j).flip:=by
   intro j
   by_cases h1:j=i
   . subst h1;rw[a1];exact⟨rfl,rfl,rfl⟩
   . cases hc:c with
     | nil=>rw[e1 hc j h1];exact⟨rfl,rfl,rfl⟩
     | cons f c' =>
      obtain⟨d', g', s'⟩:=f
      obtain⟨k1,k2⟩:=c1 d' g' s' c' hc
      by_cases h2:j=g'
      . subst h2;rw[k2];exact⟨Hf _ _ _,GI _ _ _,GS _ _ _⟩
      . rw[k1 j h1 h2];exact⟨rfl,rfl,rfl⟩
  intro j
  by_cases h1:j=i
  . subst h1;rw[q3i];exact⟨by rw[Hf],by rw[GI],by rw[GS]⟩
  . by_cases h2:j=p
    . subst h2;rw[q3p];exact⟨Hf _ _ _,GI _ _ _,GS _ _ _⟩
    . by_cases h3:j=m.root/\m.root≠0
      . obtain⟨rfl,h3⟩:=h3;rw[q3m h3];exact⟨rfl,rfl,rfl⟩
      . rw[q3o j h1 h2 (by by_cases h:m.root=0;exact .inr h;exact .inl (fun e=>h3 ⟨e,h⟩))];exact y1k j
 have kl3:KL xs y3:=⟨l3,fun j=>(keyj j).1,fun j=>(keyj j).2.1⟩
 -- the trees before the refreshes
 have hm3:gO y3 m p:=by
  cases m with
  | nil=>trivial
  | nd ml mi mr =>
   refine hm1.up kl3 (fun j hj hr=>?_) (q3m hm1.1.1) hmn
   obtain⟨h1,h2,h3⟩:=hmp j (.inl hj)
   exact q3n j (fun e=>him (e▸hj)) h1 (.inl hr) h3
 have hsm:∀ j∈s.mem,j∉m.mem:=fun j hj hm=>(hmp j (.inl hm)).2.1 hj
 have hs3:gO y3 s p:=hs.to kl3 fun j hj=>q3n j (fun e=>his (e▸hj)) (fun e=>np1.1 (e▸hj)) (hmr j (hsm j hj)) (fun h9=>nsc j hj j h9 rfl)
 have ho3:gO y3 o i:=ho1.to kl3 fun j hj=>q3n j (fun e=>hio (e▸hj)) (hmp j (.inr hj)).1 (hmr j (fun h=>hmo' j h hj)) (hmp j (.inr hj)).2.2
 have hcm:∀ j∈jX c,j≠i/\j≠p/\j∉m.mem:=fun j hj=>⟨fun e=>hic (e▸hj),fun e=>pnc (e▸hj),fun h=>(hmp j (.inl h)).2.2 hj⟩
 have hc3:mM y3 c i (j4 d (a.mem++i :: b.mem) p s) q:=by
  refine hCc.kS kl3 fun d' g' s' c' e=>?_
  obtain⟨k1,k2⟩:=c1 d' g' s' c' e
  subst e
  simp only[jX,qc,zx,zr,not_or]at nc hcm
  refine⟨fun j hj=>?_,?_⟩
  . have hj' : j∈s'.mem\/j∈jX c' := by simpa using hj
    have h:=hcm j (by simp only[zg,zr];exact .inr hj')
    rw[q3o j h.1 h.2.1 (hmr j h.2.2),k1 j h.1]
    rintro rfl
    rcases hj' with h' | h'
    . exact nc.1.1 h'
    . exact nc.1.2 h'
  . have h:=hcm g' s_
    rw[q3o g' h.1 h.2.1 (hmr g' h.2.2),k2]
 -- the parent is refreshed
 have hlenP:(j4 d m.mem p s).length<=1000000:=by
  refine z1 ?_ hcnt
  refine z1 ?_ (H7 c (j4 d (a.mem++i :: b.mem) p s))
  cases d<;>(simp only[cond_true,cond_false,Prod.mk.injEq]at hm;obtain⟨rfl,rfl⟩:=hm)<;>simp[j4]<;>omega
 have hlenI:(j4 d (a.mem++i :: b.mem) p s).length<=1000000:=z1 (H7 c _) hcnt
 have hnP:(j4 d m.mem p s).Nodup:=by
  cases d
  . simp only[j4,cond_false,zw,zx]
    exact⟨ns,⟨fun h=>(hmp p (.inl h)).1 rfl,hmn⟩,fun x hx y hy e=>by
     subst e
     rcases zg.1 hy with rfl|hy
     . exact np1.1 hx
     . exact hsm x hx hy⟩
  . simp only[j4,cond_true,zw,zx]
    exact⟨hmn,⟨np1.1,ns⟩,fun x hx y hy e=>by
     subst e
     rcases zg.1 hy with rfl|hy
     . exact(hmp _ (.inl hx)).1 rfl
     . exact hsm x hy hx⟩
 obtain⟨oz,hz⟩:=Lk (xs:=y3) (d:=d) (i:=p) (t:=m) (s:=s) ⟨p0,o_⟩ hm3 hs3 (by rw[ja,q3p];cases d<;>rfl) (by rw[ja,q3p,<-po];cases d<;>rfl) hnP hlenP
 rw[show (fM y3 p).up=i by rw[q3p]]at hz
 obtain⟨z,ez⟩:∃ z,z=iK y3 p:=⟨_,rfl⟩
 rw[<-ez]at oz hz hrot
 have lz:z.length=xs.length:=by rw[oz.len,l3]
 have zi:fM z i=qq (!d) p { fM xs i with up:=g }:=by rw[oz.other i hip,q3i]
 have hoz:gO z o i:=ho3.to oz.kl fun j hj=>oz.other j (hmp j (.inr hj)).1
 have hroot:(mw d m p s).root=p:=LA _ _ _ _
 have hrt:mw (!d) (mw d m p s) i o=qD d a i b p s:=by
  cases d<;>(simp only[cond_true,cond_false,Prod.mk.injEq]at hm;obtain⟨rfl,rfl⟩:=hm)<;>rfl
 have hmemI:j4 (!d) (mw d m p s).mem i o=j4 d (a.mem++i :: b.mem) p s:=by rw[<-Hl,hrt,HG]
 have hLn:(j4 d (a.mem++i :: b.mem) p s).Nodup:=(Bv (c:=c) hn).1
 obtain⟨oy,hy⟩:=Lk (xs:=z) (d := !d) (i:=i) (t:=mw d m p s) (s:=o) ⟨i0,o_⟩ hz hoz (by rw[ja,zi,hroot];cases d<;>rfl) (by rw[ja,zi,<-hok];cases d<;>rfl) (by rw[hmemI];exact hLn) (by rw[hmemI];exact hlenI)
 rw[<-hrot]at oy hy
 rw[hrt,show (fM z i).up=g by rw[zi,TB]]at hy
 have o2:∀ j,j≠i->j≠p->fM (iH xs i) j=fM y3 j:=fun j h1 h2=>by rw[oy.other j h1,oz.other j h2]
 have kl' : KL y3 (iH xs i):=oz.kl.trans oy.kl
 refine⟨(xk _ _ _).2 ⟨by rw[<-hgc];exact hy,?_⟩,kl3.trans kl', fun j hj=>?_,fun j=>?_⟩
 . rw[Uf,HG]
   exact hc3.to kl' fun j hj=>o2 j (hcm j hj).1 (hcm j hj).2.1
 . have hj' : j∉j4 d (a.mem++i :: b.mem) p s/\j∉jX c:=by
    have:=mt (BI (c:=c)).2 hj
    simpa[not_or]using this
   have hjL:j≠i/\j≠p/\j∉m.mem:=by
    have h1:=hj'.1
    have h2:¬ (j∈a.mem\/j∈b.mem)/\j≠i/\j≠p:=by
     cases d<;>simp only[j4,cond_true,cond_false,zr,zg,not_or]at h1<;>exact⟨by simp[h1],by simp[h1],by simp[h1]⟩
    exact⟨h2.2.1,h2.2.2,fun h=>h2.1 ((hmem j).1 (.inl h))⟩
   rw[o2 j hjL.1 hjL.2.1,q3n j hjL.1 hjL.2.1 (hmr j hjL.2.2) hj'.2]
 . rw[oy.flip,oz.flip,(keyj j).2.2]
end Go.Sx
namespace Go.Sx
open Go
def gz(xs:List Nd):Bool->Tr->List Nat
 | _,.nil=>[]
 | φ,.nd l i r=>bif (xor φ (fM xs i).flip)then gz xs (xor φ (fM xs i).flip) r++i :: gz xs (xor φ (fM xs i).flip) l else gz xs (xor φ (fM xs i).flip) l++i :: gz xs (xor φ (fM xs i).flip) r
theorem sX{xs ys:List Nd}:∀ {t:Tr} {φ:Bool},(∀ j∈t.mem,(fM ys j).flip=(fM xs j).flip)->gz ys φ t=gz xs φ t
 | .nil,_,_=>rfl
 | .nd l i r,φ,h=>by
  simp only[gz,h i (by simp[Tr.mem])]
  rw[sX (t:=l) fun j hj=>h j (by simp[Tr.mem,hj]),sX (t:=r) fun j hj=>h j (by simp[Tr.mem,hj])]
theorem LB{xs ys:List Nd}{l r:Tr}{i:Nat}{φ:Bool}(hi:(fM ys i).flip = !(fM xs i).flip)(h:∀ j∈l.mem++r.mem,(fM ys j).flip=(fM xs j).flip):gz ys φ (.nd l i r)=gz xs (!φ) (.nd l i r):=by
 have e:xor φ (!(fM xs i).flip)=xor (!φ) (fM xs i).flip:=by cases φ<;>cases (fM xs i).flip<;>rfl
 simp only[gz,hi,e]
 rw[sX (t:=l) fun j hj=>h j (by simp[hj]),sX (t:=r) fun j hj=>h j (by simp[hj])]
theorem nY(xs:List Nd):∀ (φ:Bool) (t:Tr),(gz xs φ t).Perm t.mem
 | _,.nil=>.nil
 | φ,.nd l i r=>by
  have hl:=nY xs (xor φ (fM xs i).flip) l
  have hr:=nY xs (xor φ (fM xs i).flip) r
  simp only[gz,Tr.mem]
  generalize xor φ (fM xs i).flip=ψ at hl hr ⊢
  cases ψ with
  | false =>
   simp only[cond_false]
   exact(hl.append_right _).trans (List.Perm.append_left _ (hr.cons i)) |>.trans (.refl _)
  | true =>
   simp only[cond_true]
   exact((hr.append_right _).trans (List.Perm.append_left _ (hl.cons i))).trans (sC.trans (by simp only[qc];exact wA.symm))
theorem Uk{xs ys:List Nd}{d:Bool}{t t' s:Tr}{g:Nat}(ht:∀ ψ,gz ys ψ t' = gz xs ψ t)(h:∀ j∈g :: s.mem,(fM ys j).flip=(fM xs j).flip)(φ:Bool):gz ys φ (mw d t' g s)=gz xs φ (mw d t g s):=by
 have hs:∀ ψ,gz ys ψ s=gz xs ψ s:=fun ψ=>sX fun j hj=>h j (by simp[hj])
 cases d<;>simp only[mw,cond_true,cond_false,gz,h g s_,ht,hs]
theorem HH{xs ys:List Nd}:∀ {c:Cx} {t t' : Tr},(∀ ψ,gz ys ψ t' = gz xs ψ t)->(∀ j∈jX c,(fM ys j).flip=(fM xs j).flip)->∀ φ,gz ys φ (j7 c t')=gz xs φ (j7 c t)
 | [],_,_,h,_,φ=>h φ
 | (d,g,s) :: c,t,t', h,hc,φ=>by
  simp only[j7]
  exact HH (c:=c) (fun ψ=>Uk h (fun j hj=>hc j (by simp only[jX,zr];exact .inl hj)) ψ) (fun j hj=>hc j (by simp only[jX,zr];exact .inr hj)) φ
theorem Xl{xs:List Nd}{d:Bool}{a b s:Tr}{i p:Nat}(hi:(fM xs i).flip=false)(hp:(fM xs p).flip=false)(φ:Bool):gz xs φ (qD d a i b p s)=gz xs φ (mw d (.nd a i b) p s):=by
 cases d<;>cases φ<;>simp[qD,mw,gz,hi,hp]
theorem gO.FE{xs ys:List Nd}(hl:ys.length=xs.length):∀ {t:Tr} {p:Nat},gO xs t p->(∀ j∈t.mem,∃ f,fM ys j={ fM xs j with flip:=f })->gO ys t p:=by
 have key:∀ {t:Tr} {p:Nat} (L:List Nat),gO xs t p->(∀ j∈t.mem,∃ f,fM ys j={ fM xs j with flip:=f })->gO ys t p:=by
  intro t
  induction t with
  | nil=>intro p L _ _;trivial
  | nd l i r ihl ihr =>
   intro p L h hs
   obtain⟨⟨h0,h1⟩,⟨h2,h3,h4⟩,h5,h6,h7⟩:=h
   obtain⟨f,hi⟩:=hs i (by simp[Tr.mem])
   have hk:∀ j∈l.mem++i :: r.mem,(fM ys j).key=(fM xs j).key/\(fM ys j).iP=(fM xs j).iP:=fun j hj=>by
    obtain⟨f', e⟩:=hs j hj
    rw[e];exact⟨rfl,rfl⟩
   refine⟨⟨h0,o_⟩,⟨by rw[hi];exact h2,by rw[hi];exact h3,by rw[hi];exact h4⟩,⟨by rw[hi];exact h5.size,?_,?_⟩,ihl L h6 fun j hj=>hs j (by simp[Tr.mem,hj]),ihr L h7 fun j hj=>hs j (by simp[Tr.mem,hj])⟩
   . rw[hi,show nJ ys (l.mem++i :: r.mem)=nJ xs (l.mem++i :: r.mem) from congrArg List.sum (A8 fun j hj=>by rw[(hk j hj).2])]
     exact h5.total
   . rw[hi]
     refine⟨h5.first.1,fun j hj=>?_⟩
     rcases h5.first.2 j hj with e|e
     . exact .inl e
     . refine .inr ?_
       rw[<-e]
       simp only[lI,(hk j hj).1,(hk _ h5.first.1).1]
 intro t p h hs
 exact key [] h hs
theorem IG{xs:List Nd}{l r:Tr}{i p:Nat}(h:gO xs (.nd l i r) p)(hn:(Tr.nd l i r).mem.Nodup) :
 ∃ l' r', ((l' = l/\r' = r)\/(l' = r/\r' = l))/\gO (jY xs i) (.nd l' i r') p/\(fM (jY xs i) i).flip=false/\KL xs (jY xs i)/\(∀ j,j∉(Tr.nd l i r).mem->fM (jY xs i) j=fM xs j)/\∀ φ,gz (jY xs i) φ (.nd l' i r')=gz xs φ (.nd l i r):=by
 cases hf:(fM xs i).flip with
 | false =>
  have e:jY xs i=xs:=by unfold jY;rw[hf];rfl
  rw[e]
  exact⟨l,r,.inl ⟨rfl,rfl⟩,h,hf,KL.refl _,fun _ _=>rfl,fun _=>rfl⟩
 | true =>
  obtain⟨⟨i0,il⟩,⟨k0,k1,up⟩,v,hl,hr⟩:=h
  simp only[Tr.mem]at hn
  rw[zw,zx]at hn
  obtain⟨n1,⟨n2,n3⟩,n4⟩:=hn
  have nl:i∉l.mem:=fun h=>n4 i h i s_ rfl
  have hlr:∀ j∈l.mem,j∉r.mem:=fun j h1 h2=>n4 j h1 j (by simp[h2]) rfl
  have hli:l.root≠i:=fun e=>nl (e▸hl.mV o_)
  have hri:r.root≠i:=fun e=>n2 (e▸hr.mV o_)
  have hll:=hl.zR (show 0<xs.length by omega)
  have hrl:=hr.zR (show 0<xs.length by omega)
  have hne:l.root≠0->l.root≠r.root:=fun h0 e=>hlr _ (hl.mV h0) (e▸hr.mV (e▸h0))
  obtain⟨ys,ey⟩:∃ ys,ys=jY xs i:=⟨_,rfl⟩
  have hlen:ys.length=xs.length:=by
   rw[ey];unfold jY;rw[if_pos hf];simp only;split<;>split<;>simp[gJ]
  have hat:fM ys i={ fM xs i with flip:=false,k0:=r.root,k1:=l.root }/\(∀ j,j≠i->fM ys j=if (j=l.root\/j=r.root)/\j≠0 then { fM xs j with flip := !(fM xs j).flip } else fM xs j):=by
   obtain⟨y0,e0⟩:∃ y,y=fR xs i (fun x=>{ x with flip:=false }):=⟨_,rfl⟩
   obtain⟨y1,e1⟩:∃ y,y=fR y0 i (fun x=>{ x with k0:=(fM y0 i).k1 }):=⟨_,rfl⟩
   obtain⟨y2,e2⟩:∃ y,y=fR y1 i (fun x=>{ x with k1:=(fM y0 i).k0 }):=⟨_,rfl⟩
   have l0:y0.length=xs.length:=by rw[e0,gJ]
   have l1:y1.length=xs.length:=by rw[e1,gJ,l0]
   have l2:y2.length=xs.length:=by rw[e2,gJ,l1]
   have a0:fM y0 i={ fM xs i with flip:=false }:=by rw[e0,kQ il]
   have a2:fM y2 i={ fM xs i with flip:=false,k0:=r.root,k1:=l.root }:=by
    rw[e2,kQ o_,e1,kQ o_,a0,<-k0,<-k1]
   have b2:∀ j,j≠i->fM y2 j=fM xs j:=fun j hj=>by
    rw[e2,kM (fun e=>hj e.symm),e1,kM (fun e=>hj e.symm),e0,kM (fun e=>hj e.symm)]
   have hp:jY xs i=(let y3:=if (fM y2 i).k0=0 then y2 else fR y2 (fM y2 i).k0 (fun x=>{ x with flip := !(fM y2 (fM y2 i).k0).flip });if (fM y2 i).k1=0 then y3 else fR y3 (fM y2 i).k1 (fun x=>{ x with flip := !(fM y3 (fM y2 i).k1).flip })):=by
    unfold jY;rw[if_pos hf];simp only[<-e0,<-e1,<-e2]
   rw[ey,hp]
   simp only[a2]
   by_cases hr0:r.root=0
   . by_cases hl0:l.root=0
     . simp only[hr0,hl0,if_true]
       refine⟨by rw[a2,hr0,hl0],fun j hj=>?_⟩
       rw[b2 j hj,if_neg (by rintro⟨e|e,h0⟩<;>exact h0 e)]
     . simp only[hr0,if_true,if_neg hl0]
       refine⟨by rw[kM hli,a2,hr0],fun j hj=>?_⟩
       rw[kN o_]
       by_cases e:l.root=j
       . subst e;rw[if_pos rfl,if_pos ⟨.inl rfl,hl0⟩,b2 _ hj]
       . rw[if_neg e,if_neg (by rintro⟨e' | e', h0⟩;exact e e'.symm;exact h0 e'),b2 j hj]
   . have hfl:fM y2 l.root=fM xs l.root:=b2 _ hli
     by_cases hl0:l.root=0
     . simp only[hl0,if_true,if_neg hr0]
       refine⟨by rw[kM hri,a2,hl0],fun j hj=>?_⟩
       rw[kN o_]
       by_cases e:r.root=j
       . subst e;rw[if_pos rfl,if_pos ⟨.inr rfl,hr0⟩,b2 _ hj]
       . rw[if_neg e,if_neg (by rintro⟨e' | e', h0⟩;exact h0 e'; exact e e'.symm),b2 j hj]
     . simp only[if_neg hl0,if_neg hr0]
       refine⟨by rw[kM hli,kM hri,a2],fun j hj=>?_⟩
       rw[kN (by rw[gJ];omega)]
       by_cases e:l.root=j
       . subst e;rw[if_pos rfl,if_pos ⟨.inl rfl,hl0⟩,kM (fun e=>hne hl0 e.symm),b2 _ hj]
       . rw[if_neg e,kN o_]
         by_cases e' : r.root=j
         . subst e'; rw[if_pos rfl,if_pos ⟨.inr rfl,hr0⟩,b2 _ hj]
         . rw[if_neg e', if_neg (by rintro⟨q|q,h0⟩;exact e q.symm;exact e' q.symm),b2 j hj]
  obtain⟨ai,ao⟩:=hat
  have hfe:∀ j,j≠i->∃ f,fM ys j={ fM xs j with flip:=f }:=fun j hj=>by
   rw[ao j hj];split
   . exact⟨_,rfl⟩
   . exact⟨(fM xs j).flip,rfl⟩
  have kl:KL xs ys:=by
   refine⟨hlen,fun j=>?_,fun j=>?_⟩<;>(by_cases hj:j=i)
   . subst hj;rw[ai]
   . obtain⟨f,e⟩:=hfe j hj;rw[e]
   . subst hj;rw[ai]
   . obtain⟨f,e⟩:=hfe j hj;rw[e]
  have hl' : gO ys l i:=hl.FE hlen fun j hj=>hfe j (fun e=>nl (e▸hj))
  have hr' : gO ys r i:=hr.FE hlen fun j hj=>hfe j (fun e=>n2 (e▸hj))
  rw[<-ey]
  have tog:∀ (t:Tr),(t=l\/t=r)->gO xs t i->t.mem.Nodup->(∀ j∈t.mem,j≠i)->(∀ j∈t.mem,j≠t.root->j≠l.root/\j≠r.root)->∀ φ,gz ys φ t=gz xs (!φ) t:=by
   intro t ht hR hN hI hO φ
   cases t with
   | nil=>rfl
   | nd a k b =>
    simp only[Tr.mem]at hN hI hO
    rw[zw,zx]at hN
    obtain⟨m1,⟨m2,m3⟩,m4⟩:=hN
    refine LB ?_ fun j hj=>?_
    . rw[ao k (hI k s_),if_pos ⟨by rcases ht with e|e<;>rw[<-e]<;>simp[Tr.root],hR.1.1⟩]
    . have hj' : j∈a.mem\/j∈b.mem:=by simpa using hj
      have hjk:j≠k:=by rintro rfl;rcases hj' with h|h;exact m4 j h j s_ rfl;exact m2 h
      have h1:=hO j (by simp only[zr,zg];rcases hj' with h|h<;>simp[h]) hjk
      rw[ao j (hI j (by simp only[zr,zg];rcases hj' with h|h<;>simp[h])),if_neg (by rintro⟨e|e,_⟩;exact h1.1 e;exact h1.2 e)]
  have sl:=tog l (.inl rfl) hl n1 (fun j hj e=>nl (e▸hj)) (fun j hj hj1=>⟨hj1,fun e=>by
   by_cases h0:r.root=0
   . exact(hl.pR j hj).1 (e.trans h0)
   . exact hlr j hj (e▸hr.mV h0)⟩)
  have sr:=tog r (.inr rfl) hr n3 (fun j hj e=>n2 (e▸hj)) (fun j hj hr' => ⟨fun e=>by
   by_cases h0:l.root=0
   . exact(hr.pR j hj).1 (e.trans h0)
   . exact hlr j (e▸hl.mV h0) hj,hr'⟩)
  refine⟨r,l,.inr ⟨rfl,rfl⟩,⟨⟨i0,o_⟩,⟨by rw[ai],by rw[ai],by rw[ai];exact up⟩,?_,hr', hl'⟩,by rw[ai],kl,fun j hj=>?_,fun φ=>?_⟩
  . have v' : oZ ys i (l.mem++i :: r.mem):=v.to kl (by rw[ai]) (by rw[ai]) (by rw[ai])
    exact v'.perm (sC.trans (by simp only[qc];exact wA.symm))
  . simp only[Tr.mem,zr,zg,not_or]at hj
    rw[ao j hj.2.1,if_neg]
    rintro⟨e|e,h0⟩
    . exact hj.1 (e▸hl.mV (e▸h0))
    . exact hj.2.2 (e▸hr.mV (e▸h0))
  . simp only[gz,hf,ai,sl,sr]
    cases φ<;>simp
theorem mM.perm{xs:List Nd}:∀ {c:Cx} {r q:Nat} {L M:List Nat},mM xs c r L q->L.Perm M->mM xs c r M q
 | [],_,_,_,_,_,_=>trivial
 | (d,g,s) :: c,r,q,L,M,h,hp=>by
  obtain⟨h1,h2,h3,h4,h5⟩:=h
  have hc:(j4 d L g s).Perm (j4 d M g s):=by
   cases d
   . exact List.Perm.append_left _ (hp.cons g)
   . exact hp.append_right _
  exact⟨h1,h2,h3.perm hc,h4,mM.perm h5 hc⟩
theorem LO:∀ {c:Cx} {L M:List Nat},L.Perm M->(lN c L).Perm (lN c M)
 | [],_,_,h=>h
 | (d,g,s) :: c,L,M,h=>by
  refine LO (c:=c) ?_
  cases d
  . exact List.Perm.append_left _ (h.cons g)
  . exact h.append_right _
theorem G3:∀ {c:Cx} {f:Bool×Nat×Tr},f∈c->f.2.1∈jX c
 | [],_,h=>by simp at h
 | (d,g,s) :: c,f,h=>by
  simp only[jX,zr,zg]
  rcases zg.1 h with rfl|h
  . exact .inl (.inl rfl)
  . exact .inr (G3 h)
end Go.Sx
namespace Go.Sx
open Go
theorem GQ:∀ (c c' : Cx) (t:Tr),j7 (c++c') t=j7 c' (j7 c t)
 | [],_,_=>rfl
 | (d,g,s) :: c,c', t=>by simp only[qc,j7];exact GQ c c' _
theorem D7{i:Nat}:∀ {t:Tr},i∈t.mem->∃ c a b,t=j7 c (.nd a i b)
 | .nil,h=>by simp[Tr.mem]at h
 | .nd l j r,h=>by
  simp only[Tr.mem,zr,zg]at h
  rcases h with h|rfl|h
  . obtain⟨c,a,b,e⟩:=D7 h
    exact⟨c++[(true,j,r)],a,b,by rw[GQ,<-e];rfl⟩
  . exact⟨[],l,r,rfl⟩
  . obtain⟨c,a,b,e⟩:=D7 h
    exact⟨c++[(false,j,l)],a,b,by rw[GQ,<-e];rfl⟩
def je(c:Cx)(i:Nat):List Nat:=i :: c.map (fun f=>f.2.1)
def Way(i:Nat):Tr->List Nat->Prop
 | .nil,_=>False
 | .nd l j r,w=>(j=i/\w=[i])\/∃ w', w=j :: w' /\ (Way i l w' \/ Way i r w')
theorem Nq{i:Nat}:∀ {c:Cx} {t:Tr} {w:List Nat},Way i t w->Way i (j7 c t) ((c.map (fun f=>f.2.1)).reverse++w)
 | [],_,_,h=>h
 | (d,g,s) :: c,t,w,h=>by
  have:Way i (mw d t g s) (g :: w):=by cases d<;>simp only[mw,cond_true,cond_false,Way];exact .inr ⟨w,rfl,.inr h⟩;exact .inr ⟨w,rfl,.inl h⟩
  have:=Nq (c:=c) this
  simpa[j7]using this
theorem Xd(c:Cx)(a:Tr)(i:Nat)(b:Tr):Way i (j7 c (.nd a i b)) (je c i).reverse:=by
 have:=Nq (c:=c) (t:=.nd a i b) (w:=[i]) (.inl ⟨rfl,rfl⟩)
 simpa[je]using this
structure At (xs:List Nd) (c:Cx) (j:Nat) (L:List Nat) (q:Nat):Prop where
 rep:mM xs c j L q
 up:(fM xs j).up=vW c q
 mem:j∈L
 nodup:(lN c L).Nodup
 ne:j≠0
 lt:j<xs.length
def Out(xs:List Nd)(q:Nat)(L:List Nat):Prop:=q=0\/ja xs true q∉L/\ja xs false q∉L/\q∉L
theorem At.start{xs:List Nd}{c:Cx}{a b:Tr}{i q:Nat}(h:gO xs (j7 c (.nd a i b)) q)(hn:(j7 c (.nd a i b)).mem.Nodup):At xs c i (Tr.nd a i b).mem q:=by
 obtain⟨h1,h2⟩:=(xk _ _ _).1 h
 exact⟨h2,h1.2.1.2.2,by simp[Tr.mem],by rw[<-oM];exact hn,h1.1.1,h1.1.2⟩
theorem At.step{xs:List Nd}{d:Bool}{g:Nat}{s:Tr}{c:Cx}{j q:Nat}{L:List Nat}(h:At xs ((d,g,s) :: c) j L q):jw xs j=(sd d,true)/\(fM xs j).up=g/\At xs c g (j4 d L g s) q:=by
 obtain⟨⟨g0,gl⟩,⟨gk,go,gu⟩,gv,gs,gc⟩:=h.rep
 have hn:=h.nodup
 obtain⟨n1,n2,n3⟩:=Bv hn
 have hjs:s.root≠j:=fun e=>by
  have h0:s.root≠0:=by rw[e];exact h.ne
  exact n3 j h.mem (by simp only[jX,zr,zg];exact .inl (.inr (e▸gs.mV h0)))
 refine⟨Iw (p:=g) h.up g0 gk (by rw[go];exact hjs),h.up,gc,gu,by cases d<;>simp[j4],hn,g0,gl⟩
theorem At.stop{xs:List Nd}{j q:Nat}{L:List Nat}(h:At xs [] j L q)(hq:Out xs q L):jw xs j=(0,false) :=
 L4 h.up (by
  rcases hq with e|⟨h1,h2,_⟩
  . exact .inl e
  . exact .inr ⟨fun e=>h1 (e▸h.mem),fun e=>h2 (e▸h.mem)⟩)
structure jB (xs0 xs:List Nd) (T0:Tr) (O:Cx) (U:Tr) (q:Nat):Prop where
 rep:gO xs (j7 O U) q
 perm:(j7 O U).mem.Perm T0.mem
 ord:∀ φ,gz xs φ (j7 O U)=gz xs0 φ T0
 kl:KL xs0 xs
 other:∀ j,j∉T0.mem->fM xs j=fM xs0 j
 flip:∀ f∈O,(fM xs f.2.1).flip=false
theorem jB.start{xs:List Nd}{T:Tr}{q:Nat}(h:gO xs T q):jB xs xs T [] T q:=⟨h,.refl _,fun _=>rfl,KL.refl _,fun _ _=>rfl,s_⟩
theorem jB.nodup{xs0 xs:List Nd}{T0 U:Tr}{O:Cx}{q:Nat}(h:jB xs0 xs T0 O U q)(hn:T0.mem.Nodup):(lN O U.mem).Nodup:=by rw[<-oM];exact(h.perm.nodup_iff).2 hn
theorem jB.push{xs0 xs:List Nd}{T0 l r:Tr}{O:Cx}{q j:Nat}(h:jB xs0 xs T0 O (.nd l j r) q)(hn:T0.mem.Nodup) :
 ∃ l' r', ((l' = l/\r' = r)\/(l' = r/\r' = l))/\jB xs0 (jY xs j) T0 O (.nd l' j r') q/\(fM (jY xs j) j).flip=false:=by
 have hnd:=h.nodup hn
 obtain⟨m1,m2,m3⟩:=Bv hnd
 obtain⟨hT,hC⟩:=(xk _ _ _).1 h.rep
 obtain⟨l', r', hlr,hR,hf,hk,ho,hs⟩:=IG hT m1
 have hmem:(Tr.nd l' j r').mem.Perm (Tr.nd l j r).mem:=by
  rcases hlr with ⟨rfl,rfl⟩|⟨rfl,rfl⟩
  . exact .refl _
  . simp only[Tr.mem]
    exact sC.trans (by simp only[qc];exact wA.symm)
 have hoc:∀ k∈jX O,fM (jY xs j) k=fM xs k:=fun k hk' => ho k fun hm=>m3 k hm hk'
 refine⟨l', r', hlr,⟨(xk _ _ _).2 ⟨hR,?_⟩,?_,fun φ=>?_,h.kl.trans hk,fun k hk' => ?_,fun f hf' => ?_⟩,hf⟩
 . exact(hC.to hk hoc).perm hmem.symm
 . refine List.Perm.trans ?_ h.perm
   rw[oM,oM]
   exact LO hmem
 . rw[<-h.ord φ]
   exact HH hs (fun k hk' => by rw[hoc k hk']) φ
 . rw[ho k ?_,h.other k hk']
   intro hm
   exact hk' (h.perm.mem_iff.1 (by rw[oM];exact BI.2 (.inl hm)))
 . rw[hoc f.2.1 (G3 hf')]
   exact h.flip f hf'
theorem jB.rotate{xs0 xs:List Nd}{T0 a b s:Tr}{d:Bool}{c:Cx}{p i q:Nat}(h:jB xs0 xs T0 ((d,p,s) :: c) (.nd a i b) q)(hn:T0.mem.Nodup)(hlen:xs.length<=1000001)(hcnt:T0.mem.length<=1000000)(hq:Out xs0 q T0.mem)
 (hi:(fM xs i).flip=false):jB xs0 (iH xs i) T0 c (qD d a i b p s) q/\∀ j,(fM (iH xs i) j).flip=(fM xs j).flip:=by
 have hnd:=h.nodup hn
 have hpm:p∈T0.mem:=h.perm.mem_iff.1 (by rw[oM];exact BI.2 (.inr (by simp[jX])))
 have hl:(lN ((d,p,s) :: c) (a.mem++i :: b.mem)).length=T0.mem.length:=by
  have:=h.perm.length_eq
  rw[oM]at this
  exact this
 obtain⟨hR,hO⟩:=w6 h.rep hnd hlen o_ (fun _=>by
  rcases hq with e|⟨h1,h2,h3⟩
  . exact .inl e
  . have e:fM xs q=fM xs0 q:=h.other q h3
    refine .inr ⟨fun e' => h1 ?_,fun e' => h2 ?_⟩
    . rw[ja,e]at e'; rw[ja,e'];exact hpm
    . rw[ja,e]at e'; rw[ja,e'];exact hpm)
 have hpf:=h.flip (d,p,s) s_
 have hmem:(j7 c (qD d a i b p s)).mem=(j7 ((d,p,s) :: c) (.nd a i b)).mem:=by
  rw[oM,oM,HG];rfl
 refine⟨⟨hR,by rw[hmem];exact h.perm,fun φ=>?_,h.kl.trans hO.kl,fun k hk=>?_,fun f hf=>?_⟩,hO.flip⟩
 . rw[<-h.ord φ]
   have e1:gz (iH xs i) φ (j7 c (qD d a i b p s))=gz xs φ (j7 c (qD d a i b p s)):=sX fun j _=>hO.flip j
   rw[e1]
   exact HH (c:=c) (fun ψ=>Xl hi hpf ψ) (fun _ _=>rfl) φ
 . rw[hO.other k ?_,h.other k hk]
   intro hm
   refine hk (h.perm.mem_iff.1 ?_)
   rw[oM]
   exact hm
 . rw[hO.flip]
   exact h.flip f (by simp[hf])
theorem Sa(d:Bool)(a:Tr)(i:Nat)(b:Tr)(p:Nat)(s:Tr)(g:Nat)(s' : Tr) :
 qD d (bif d then .nd a i b else s) p (bif d then s else .nd a i b) g s' = mw d (.nd a i b) p (bif d then .nd s g s' else .nd s' g s):=by
 cases d<;>rfl
theorem S9(d:Bool)(t:Tr)(p:Nat)(s:Tr):mw d t p s = .nd (bif d then t else s) p (bif d then s else t):=by cases d<;>rfl
theorem Du(d:Bool)(a:Tr)(i:Nat)(b:Tr)(p:Nat)(s:Tr):qD d a i b p s = .nd (bif d then a else .nd s p a) i (bif d then .nd b p s else b):=by cases d<;>rfl
theorem jB.Yu{xs0 xs:List Nd}{T0 a b s s' : Tr}{d:Bool}{c:Cx}{p i g q:Nat}(h:jB xs0 xs T0 ((d,p,s) :: (d,g,s') :: c) (.nd a i b) q)(hn:T0.mem.Nodup)(hlen:xs.length<=1000001)(hcnt:T0.mem.length<=1000000)(hq:Out xs0 q T0.mem)
 (hi:(fM xs i).flip=false):∃ a' b', jB xs0 (iH (iH xs p) i) T0 c (.nd a' i b') q/\(fM (iH (iH xs p) i) i).flip=false:=by
 have h1:jB xs0 xs T0 ((d,g,s') :: c) (.nd (bif d then .nd a i b else s) p (bif d then s else .nd a i b)) q:=by
  rw[<-S9]
  exact⟨h.rep,h.perm,h.ord,h.kl,h.other,fun f hf=>h.flip f (mQ _ hf)⟩
 obtain⟨h2,f2⟩:=h1.rotate hn hlen hcnt hq (h.flip (d,p,s) s_)
 rw[Sa]at h2
 have h3:jB xs0 (iH xs p) T0 ((d,p,(bif d then .nd s g s' else .nd s' g s)) :: c) (.nd a i b) q :=
  ⟨h2.rep,h2.perm,h2.ord,h2.kl,h2.other,fun f hf=>by
   rcases zg.1 hf with rfl|hf
   . rw[f2];exact h.flip (d,p,s) s_
   . exact h2.flip f hf⟩
 obtain⟨h4,f4⟩:=h3.rotate hn (by rw[h2.kl.len,<-h.kl.len];exact hlen) hcnt hq (by rw[f2];exact hi)
 rw[Du]at h4
 exact⟨_,_,h4,by rw[f4,f2];exact hi⟩
theorem jB.Yh{xs0 xs:List Nd}{T0 a b s s' : Tr}{d d' : Bool}{c:Cx}{p i g q:Nat}(h:jB xs0 xs T0 ((d,p,s) :: (d', g,s') :: c) (.nd a i b) q)(hn:T0.mem.Nodup)(hlen:xs.length<=1000001)(hcnt:T0.mem.length<=1000000)(hq:Out xs0 q T0.mem)
 (hi:(fM xs i).flip=false):∃ a' b', jB xs0 (iH (iH xs i) i) T0 c (.nd a' i b') q/\(fM (iH (iH xs i) i) i).flip=false:=by
 obtain⟨h2,f2⟩:=h.rotate hn hlen hcnt hq hi
 rw[Du]at h2
 obtain⟨h4,f4⟩:=h2.rotate hn (by rw[h2.kl.len,<-h.kl.len];exact hlen) hcnt hq (by rw[f2];exact hi)
 rw[Du]at h4
 exact⟨_,_,h4,by rw[f4,f2];exact hi⟩
theorem jB.zig{xs0 xs:List Nd}{T0 a b s:Tr}{d:Bool}{p i q:Nat}(h:jB xs0 xs T0 [(d,p,s)] (.nd a i b) q)(hn:T0.mem.Nodup)(hlen:xs.length<=1000001)(hcnt:T0.mem.length<=1000000)(hq:Out xs0 q T0.mem)
 (hi:(fM xs i).flip=false):∃ a' b', jB xs0 (iH xs i) T0 [] (.nd a' i b') q/\(fM (iH xs i) i).flip=false:=by
 obtain⟨h2,f2⟩:=h.rotate hn hlen hcnt hq hi
 rw[Du]at h2
 exact⟨_,_,h2,by rw[f2];exact hi⟩
end Go.Sx
namespace Go.Sx
open Go
def nw(s:List Nat)(q v u:Nat):Prop:=∃ s1 s2,s=s1++v :: s2/\u=s1.getLast?.getD q
theorem Hs{q v u:Nat}:¬ nw [] q v u:=by
 rintro⟨s1,s2,h,_⟩;simp at h
theorem rS{x:Nat}{s:List Nat}{q v u:Nat}:nw (x :: s) q v u↔(v=x/\u=q)\/nw s x v u:=by
 constructor
 . rintro⟨s1,s2,h,rfl⟩
   cases s1 with
   | nil=>simp at h;exact .inl ⟨h.1.symm,rfl⟩
   | cons y s1 =>
    simp only[qc,List.cons.injEq]at h
    obtain⟨rfl,rfl⟩:=h
    refine .inr ⟨s1,s2,rfl,?_⟩
    rw[CQ];simp
 . rintro(⟨rfl,rfl⟩|⟨s1,s2,rfl,rfl⟩)
   . exact⟨[],s,rfl,rfl⟩
   . refine⟨x :: s1,s2,rfl,?_⟩
     rw[CQ];simp
theorem Lj{s t:List Nat}{q v u:Nat}:nw (s++t) q v u↔nw s q v u\/nw t (s.getLast?.getD q) v u:=by
 induction s generalizing q with
 | nil=>simp[Hs]
 | cons x s ih =>
  rw[qc,rS,ih,rS,CQ,or_assoc]
  simp
theorem vG{s:List Nat}{q v u:Nat}(h:nw s q v u):v∈s:=by
 obtain⟨s1,s2,rfl,_⟩:=h;simp
theorem R5{s:List Nat}{q v u u' : Nat}(hn:s.Nodup)(h:nw s q v u)(h' : nw s q v u'):u=u' := by
 induction s generalizing q with
 | nil=>exact absurd h Hs
 | cons x s ih =>
  rw[zx]at hn
  rcases rS.1 h with ⟨rfl,rfl⟩|h1<;>rcases rS.1 h' with ⟨h2,h3⟩|h2
  . exact h3.symm
  . exact absurd (vG h2) hn.1
  . subst h2;exact absurd (vG h1) hn.1
  . exact ih hn.2 h1 h2
abbrev vV:=List (List Nat×Nat)
def gX(S:vV)(v u:Nat):Prop:=∃ e∈S,nw e.1 e.2 v u
def xC(S:vV):List Nat:=S.flatMap (·.1)
theorem gX.perm{S S' : vV}(h:S.Perm S'){v u:Nat}:gX S v u↔gX S' v u :=
 ⟨fun⟨e,he,h1⟩=>⟨e,h.mem_iff.1 he,h1⟩,fun⟨e,he,h1⟩=>⟨e,h.mem_iff.2 he,h1⟩⟩
theorem gX.cons{e:List Nat×Nat}{S:vV}{v u:Nat}:gX (e :: S) v u↔nw e.1 e.2 v u\/gX S v u:=by
 simp only[gX,zg,exists_eq_or_imp]
theorem rU{S:vV}(hn:(xC S).Nodup){v u u' : Nat}(h:gX S v u)(h' : gX S v u'):u=u' := by
 induction S with
 | nil=>obtain⟨e,he,_⟩:=h;simp at he
 | cons e S ih =>
  simp only[xC,lu,zw]at hn
  obtain⟨n1,n2,n3⟩:=hn
  have hin:∀ {w},gX S v w->v∈S.flatMap (·.1):=fun⟨f,hf,hp⟩=>p7.2 ⟨f,hf,vG hp⟩
  rcases gX.cons.1 h with h1|h1<;>rcases gX.cons.1 h' with h2|h2
  . exact R5 n1 h1 h2
  . exact absurd rfl (n3 v (vG h1) v (hin h2))
  . exact absurd rfl (n3 v (vG h2) v (hin h1))
  . exact ih n2 h1 h2
inductive PR (P:Nat->Nat->Prop):Nat->Nat->Prop where
 | top {v:Nat} (h:P v 0):PR P v v
 | step {v u r:Nat} (h:P v u) (h0:u≠0) (k:PR P u r):PR P v r
theorem PR.mono{P Q:Nat->Nat->Prop}(h:∀ v u,P v u->Q v u){v r:Nat}(k:PR P v r):PR Q v r:=by
 induction k with
 | top hp=>exact .top (h _ _ hp)
 | step hp h0 _ ih=>exact .step (h _ _ hp) h0 ih
theorem PR.unique{P:Nat->Nat->Prop}(hu:∀ v u u', P v u->P v u' -> u=u'){v r r' : Nat}(k:PR P v r)(k' : PR P v r'):r=r' := by
 induction k with
 | top hp =>
  cases k' with
  | top _=>rfl
  | step hp' h0 _=>exact absurd (hu _ _ _ hp' hp) h0
 | step hp h0 _ ih =>
  cases k' with
  | top hp' => exact absurd (hu _ _ _ hp hp') h0
  | step hp' _ k2=>rw[hu _ _ _ hp' hp]at k2;exact ih k2
theorem PR.root{P:Nat->Nat->Prop}{v r:Nat}(k:PR P v r):P r 0:=by
 induction k with
 | top h=>exact h
 | step _ _ _ ih=>exact ih
theorem PR.EX{P:Nat->Nat->Prop}{s:List Nat}:∀ {q v h:Nat},s.head? = some h->(∀ x∈s,x≠0)->(∀ v u,nw s q v u->P v u)->v∈s->(q=0->PR P v h)/\(∀ r,q≠0->PR P q r->PR P v r):=by
 induction s with
 | nil=>intro q v h hh;simp at hh
 | cons x s ih =>
  intro q v h hh h0 hP hv
  simp only[List.head?_cons,Option.some.injEq]at hh
  subst hh
  have hx:P x q:=hP _ _ (rS.2 (.inl ⟨rfl,rfl⟩))
  rcases zg.1 hv with rfl|hv
  . exact⟨fun e=>.top (e▸hx),fun r hq k=>.step hx hq k⟩
  . cases s with
    | nil=>simp at hv
    | cons y s =>
     have:=(ih (q:=x) (v:=v) (h:=y) rfl (fun z hz=>h0 z (mQ _ hz)) (fun v u hp=>hP _ _ (rS.2 (.inr hp))) hv).2
     exact⟨fun e=>this x (h0 x s_) (.top (e▸hx)),fun r hq k=>this r (h0 x s_) (.step hx hq k)⟩
end Go.Sx
namespace Go.Sx
open Go
abbrev FT:=List (Tr×Nat)
def jI(F:FT):List Nat:=F.flatMap fun e=>e.1.mem
def gV(xs:List Nd)(F:FT):vV:=F.map fun e=>(gz xs false e.1,e.2)
structure Fo (xs:List Nd) (F:FT):Prop where
 rep:∀ e∈F,gO xs e.1 e.2
 ne:∀ e∈F,e.1.root≠0
 nodup:(jI F).Nodup
 all:∀ j,j≠0->j<xs.length->j∈jI F
 par:∀ e∈F,e.2<xs.length
 sv:∃ ρ:Nat->Nat,(∀ e∈F,∀ i∈e.1.mem,∀ j∈e.1.mem,ρ i=ρ j)/\∀ e∈F,e.2≠0->∀ i∈e.1.mem,ρ i<ρ e.2
 zero:(fM xs 0).k0=0/\(fM xs 0).k1=0/\(fM xs 0).total=0
 pos:0<xs.length
 len:xs.length<=1000001
theorem Lm{α β:Type}{l l' : List α}(h:l.Perm l')(f:α->List β):(l.flatMap f).Perm (l'.flatMap f):=by
 induction h with
 | nil=>exact .nil
 | cons x _ ih=>simp only[lu];exact ih.append_left _
 | swap x y l =>
  simp only[lu,<-lH]
  exact sC.append_right _
 | trans _ _ ih1 ih2=>exact ih1.trans ih2
theorem Fo.perm{xs:List Nd}{F F' : FT}(h:Fo xs F)(hp:F.Perm F'):Fo xs F' := by
 have hn:(jI F).Perm (jI F'):=Lm hp _
 obtain⟨ρ,h1,h2⟩:=h.sv
 exact⟨fun e he=>h.rep e (hp.mem_iff.2 he),fun e he=>h.ne e (hp.mem_iff.2 he),hn.nodup_iff.1 h.nodup,fun j h0 hj=>hn.mem_iff.1 (h.all j h0 hj),fun e he=>h.par e (hp.mem_iff.2 he),
  ⟨ρ,fun e he=>h1 e (hp.mem_iff.2 he),fun e he=>h2 e (hp.mem_iff.2 he)⟩,h.zero,h.pos,h.len⟩
theorem nX{F:FT}{e:Tr×Nat}{j:Nat}(he:e∈F)(hj:j∈e.1.mem):j∈jI F:=p7.2 ⟨e,he,hj⟩
theorem Fo.split{xs:List Nd}{T:Tr}{q:Nat}{R:FT}(h:Fo xs ((T,q) :: R)):T.mem.Nodup/\(jI R).Nodup/\∀ j∈T.mem,j∉jI R:=by
 have hn:=h.nodup
 simp only[jI,lu,zw]at hn
 exact⟨hn.1,hn.2.1,fun j h1 h2=>hn.2.2 j h1 j h2 rfl⟩
theorem nodup_lt_length:∀ (n:Nat) (L:List Nat),L.Nodup->(∀ j∈L,j<n)->L.length<=n
 | 0,L,_,h=>by
  cases L with
  | nil=>simp
  | cons x L=>exact absurd (h x s_) o_
 | n+1,L,hn,h=>by
  have h1:=nodup_lt_length n (L.erase n) (hn.erase n) (fun j hj=>by
   have h2:=h j (List.mem_of_mem_erase hj)
   have h3:j≠n:=fun e=>by subst e;exact(List.Nodup.not_mem_erase hn) hj
   omega)
  have h2:=List.length_erase_le (a:=n) (l:=L)
  have h3:L.length<=(L.erase n).length+1:=by
   rw[List.length_erase];split<;>omega
  omega
theorem Fo.count{xs:List Nd}{T:Tr}{q:Nat}{R:FT}(h:Fo xs ((T,q) :: R)):T.mem.length<=1000000:=by
 have h1:=nodup_lt_length xs.length (0 :: T.mem) (by
  rw[zx]
  exact⟨fun h0=>((h.rep (T,q) s_).pR 0 h0).1 rfl,h.split.1⟩) (fun j hj=>by
  rcases zg.1 hj with rfl|hj
  . exact h.pos
  . exact((h.rep (T,q) s_).pR j hj).2)
 have:=h.len
 simp only[zk]at h1
 omega
theorem gO.Ix{xs:List Nd}{d:Bool}:∀ {t:Tr} {p j:Nat},gO xs t p->j∈t.mem->ja xs d j=0\/ja xs d j∈t.mem
 | .nil,_,_,_,hj=>by simp[Tr.mem]at hj
 | .nd l i r,p,j,h,hj=>by
  obtain⟨_,⟨h2,h3,_⟩,_,h6,h7⟩:=h
  simp only[Tr.mem,zr,zg]at hj ⊢
  rcases hj with hj|rfl|hj
  . rcases gO.Ix h6 hj with e|e
    . exact .inl e
    . exact .inr (.inl e)
  . cases d
    . simp only[ja,cond_false,h3]
      by_cases e:r.root=0
      . exact .inl e
      . exact .inr (.inr (.inr (h7.mV e)))
    . simp only[ja,cond_true,h2]
      by_cases e:l.root=0
      . exact .inl e
      . exact .inr (.inl (h6.mV e))
  . rcases gO.Ix h7 hj with e|e
    . exact .inl e
    . exact .inr (.inr (.inr e))
theorem Fo.out{xs:List Nd}{T:Tr}{q:Nat}{R:FT}(h:Fo xs ((T,q) :: R)):Out xs q T.mem:=by
 by_cases hq:q=0
 . exact .inl hq
 . obtain⟨ρ,h1,h2⟩:=h.sv
   have hqT:q∉T.mem:=fun hm=>by
    have:=h2 (T,q) s_ hq q hm
    simp at this
   have hall:=h.all q hq (h.par (T,q) s_)
   simp only[jI,lu,zr]at hall
   rcases hall with hm|hm
   . exact absurd hm hqT
   . obtain⟨e,he,hm⟩:=p7.1 hm
     have hz:0∉T.mem:=fun h0=>((h.rep (T,q) s_).pR 0 h0).1 rfl
     have key:∀ d,ja xs d q∉T.mem:=fun d hk=>by
      rcases gO.Ix (d:=d) (h.rep e (by simp[he])) hm with e0|e0
      . exact hz (e0▸hk)
      . exact h.split.2.2 _ hk (nX he e0)
     exact .inr ⟨key true,key false,hqT⟩
theorem gO.rJ{xs ys:List Nd}(hl:ys.length=xs.length){t:Tr}{p:Nat}(h:gO xs t p)(hs:∀ j∈t.mem,fM ys j=fM xs j):gO ys t p :=
 h.FE hl fun j hj=>⟨(fM xs j).flip,by rw[hs j hj]⟩
theorem Iy{xs ys:List Nd}{t:Tr}{φ:Bool}(hs:∀ j∈t.mem,fM ys j=fM xs j):gz ys φ t=gz xs φ t:=sX fun j hj=>by rw[hs j hj]
theorem HK{xs ys:List Nd}{F:FT}(hs:∀ j∈jI F,fM ys j=fM xs j):gV ys F=gV xs F:=by
 unfold gV
 refine A8 fun e he=>?_
 rw[Iy fun j hj=>hs j (nX he hj)]
theorem Fo.Pa{xs ys:List Nd}{T U:Tr}{q:Nat}{R:FT}(h:Fo xs ((T,q) :: R))(m:jB xs ys T [] U q):Fo ys ((U,q) :: R)/\gV ys ((U,q) :: R)=gV xs ((T,q) :: R)/\(∀ e∈R,∀ j∈e.1.mem,fM ys j=fM xs j):=by
 obtain⟨n1,n2,n3⟩:=h.split
 have hlen:=m.kl.len
 have hp:U.mem.Perm T.mem:=m.perm
 have hR:∀ j∈jI R,fM ys j=fM xs j:=fun j hj=>m.other j fun ht=>n3 j ht hj
 have hz:0∉T.mem:=fun h0=>((h.rep (T,q) s_).pR 0 h0).1 rfl
 have hne:U.root≠0:=by
  intro e
  have h1:=gO.Ij (t:=U) m.rep e
  rw[h1]at hp
  have h2:=h.ne (T,q) s_
  exact h2 (by
   cases T with
   | nil=>rfl
   | nd l i r=>have:=hp.length_eq;simp[Tr.mem]at this)
 refine⟨⟨fun e he=>?_,fun e he=>?_,?_,fun j h0 hj=>?_,fun e he=>?_,?_,?_,by rw[hlen];exact h.pos,by rw[hlen];exact h.len⟩,?_,fun e he j hj=>hR j (nX he hj)⟩
 . rcases zg.1 he with rfl|he
   . exact m.rep
   . exact(h.rep e (by simp[he])).rJ hlen fun j hj=>hR j (nX he hj)
 . rcases zg.1 he with rfl|he
   . exact hne
   . exact h.ne e (by simp[he])
 . simp only[jI,lu]
   have:=h.nodup
   simp only[jI,lu]at this
   exact(hp.append_right _).nodup_iff.2 this
 . have:=h.all j h0 (by rw[hlen]at hj;exact hj)
   simp only[jI,lu,zr]at this ⊢
   exact this.imp_left hp.mem_iff.2
 . rw[hlen]
   rcases zg.1 he with rfl|he
   . exact h.par (T,q) s_
   . exact h.par e (by simp[he])
 . obtain⟨ρ,r1,r2⟩:=h.sv
   refine⟨ρ,fun e he=>?_,fun e he=>?_⟩
   . rcases zg.1 he with rfl|he
     . exact fun i hi j hj=>r1 (T,q) s_ i (hp.mem_iff.1 hi) j (hp.mem_iff.1 hj)
     . exact r1 e (by simp[he])
   . rcases zg.1 he with rfl|he
     . exact fun h0 i hi=>r2 (T,q) s_ h0 i (hp.mem_iff.1 hi)
     . exact r2 e (by simp[he])
 . rw[m.other 0 hz];exact h.zero
 . have h1:gV ys R=gV xs R:=HK hR
   have h2:gz ys false U=gz xs false T:=m.ord false
   simp only[gV,zy]at h1 ⊢
   rw[h1,h2]
def lP(xs:List Nd)(j below:Nat):List Nd :=
 let x1:=fR xs j (fun x=>{ x with iP:=IntKind.i64.wrap (x.iP+IntKind.i64.wrap ((fM xs x.k1).total-(fM xs below).total)) })
 let x2:=fR x1 j (fun x=>{ x with k1:=below })
 iK x2 j
def opt(e:Tr×Nat)(R:FT):FT:=if e.1.root=0 then R else e :: R
theorem oN{e f:Tr×Nat}{R:FT}:f∈opt e R↔(e.1.root≠0/\f=e)\/f∈R:=by
 unfold opt
 split
 . rename_i h;simp[h]
 . rename_i h;simp[h]
theorem gO.Aa{xs:List Nd}{t:Tr}{p:Nat}(h:gO xs t p)(e:t.root=0):t = .nil:=by
 cases t with
 | nil=>rfl
 | nd l i r=>exact absurd e h.1.1
theorem G8{xs:List Nd}{e:Tr×Nat}{R:FT}{p:Nat}(h:gO xs e.1 p):jI (opt e R)=e.1.mem++jI R:=by
 unfold opt
 split
 . rename_i h0;rw[h.Aa h0];rfl
 . rfl
theorem NJ{xs ys:List Nd}{e:Tr×Nat}{R:FT}{p v u:Nat}(h:gO xs e.1 p):gX (gV ys (opt e R)) v u↔nw (gz ys false e.1) e.2 v u\/gX (gV ys R) v u:=by
 unfold opt
 split
 . rename_i h0
   rw[h.Aa h0]
   simp[gz,Hs]
 . simp only[gV,zy,gX.cons]
theorem Ud{xs:List Nd}{F R R' : FT}{a b B:Tr}{j q:Nat}(h:Fo xs ((.nd a j b,q) :: R))(hf:(fM xs j).flip=false)(hB:R.Perm (opt (B,j) R'))(hBr:gO xs B j) :
 Fo (lP xs j B.root) ((.nd a j B,q) :: opt (b,j) R')/\(∀ v u,gX (gV (lP xs j B.root) ((.nd a j B,q) :: opt (b,j) R')) v u↔gX (gV xs ((.nd a j b,q) :: R)) v u) /\
  gz (lP xs j B.root) false (.nd a j B)=gz xs false a++j :: gz xs false B/\(∀ k,k≠j->fM (lP xs j B.root) k=fM xs k)/\(fM (lP xs j B.root) j).flip=false/\(∀ k,(fM (lP xs j B.root) k).key=(fM xs k).key)/\(lP xs j B.root).length=xs.length:=by
 have hT:=h.rep (.nd a j b,q) s_
 obtain⟨⟨j0,jl⟩,⟨k0,k1,up⟩,v,ha,hb⟩:=hT
 obtain⟨n1,n2,n3⟩:=h.split
 simp only[Tr.mem]at n1 n3
 have hnB:(jI R).Perm (B.mem++jI R'):=by rw[<-G8 (e:=(B,j)) hBr];exact Lm hB _
 have n2' := hnB.nodup_iff.1 n2
 rw[zw]at n2'
 obtain⟨nB,nR', nBR⟩:=n2'
 rw[zw,zx]at n1
 obtain⟨na,⟨njb,nb⟩,nab⟩:=n1
 have nja:j∉a.mem:=fun h=>nab j h j s_ rfl
 have hTR:∀ k,k∈a.mem\/k=j\/k∈b.mem->k∉B.mem/\k∉jI R' := fun k hk=>by
  have:=n3 k (by simpa using hk)
  rw[hnB.mem_iff,zr,not_or]at this
  exact this
 have njB:=(hTR j (.inr (.inl rfl))).1
 have njR:=(hTR j (.inr (.inl rfl))).2
 obtain⟨x2,e2⟩:∃ x,x=fR (fR xs j (fun x=>{ x with iP:=IntKind.i64.wrap (x.iP+IntKind.i64.wrap ((fM xs x.k1).total-(fM xs B.root).total)) })) j (fun x=>{ x with k1:=B.root }):=⟨_,rfl⟩
 have hcut:lP xs j B.root=iK x2 j:=by rw[e2];rfl
 have l2:x2.length=xs.length:=by rw[e2,gJ,gJ]
 obtain⟨lm,hlm⟩:∃ y,fM x2 j={ fM xs j with iP:=y,k1:=B.root }:=⟨_,by rw[e2,kQ (by rw[gJ];exact jl),kQ jl]⟩
 have o2:∀ k,k≠j->fM x2 k=fM xs k:=fun k hk=>by rw[e2,kM (fun e=>hk e.symm),kM (fun e=>hk e.symm)]
 have ha2:gO x2 a j:=ha.rJ l2 fun k hk=>o2 k (fun e=>nja (e▸hk))
 have hB2:gO x2 B j:=hBr.rJ l2 fun k hk=>o2 k (fun e=>njB (e▸hk))
 have hnn:(a.mem++j :: B.mem).Nodup:=by
  rw[zw,zx]
  refine⟨na,⟨njB,nB⟩,fun x hx y hy e=>?_⟩
  subst e
  rcases zg.1 hy with rfl|hy
  . exact nja hx
  . exact(hTR x (.inl hx)).1 hy
 have hlt:∀ k∈a.mem++j :: B.mem,k≠0/\k<xs.length:=fun k hk=>by
  simp only[zr,zg]at hk
  rcases hk with hk|rfl|hk
  . exact ha.pR k hk
  . exact⟨j0,jl⟩
  . exact hBr.pR k hk
 have hcnt:(a.mem++j :: B.mem).length<=1000000:=by
  have h1:=nodup_lt_length xs.length (0 :: (a.mem++j :: B.mem)) (zx.2 ⟨fun h0=>(hlt 0 h0).1 rfl,hnn⟩) (fun k hk=>by
   rcases zg.1 hk with rfl|hk
   . exact h.pos
   . exact(hlt k hk).2)
  have:=h.len
  simp only[zk]at h1
  omega
 obtain⟨oy,hRy⟩:=zC (xs:=x2) (i:=j) (l:=a) (r:=B) ⟨j0,o_⟩ ha2 hB2 (by rw[hlm];exact k0) (by rw[hlm]) hnn hcnt
 rw[<-hcut]at oy hRy
 rw[show (fM x2 j).up=q by rw[hlm];exact up]at hRy
 have ly:(lP xs j B.root).length=xs.length:=by rw[oy.len,l2]
 have oo:∀ k,k≠j->fM (lP xs j B.root) k=fM xs k:=fun k hk=>by rw[oy.other k hk,o2 k hk]
 have hfl:∀ k,(fM (lP xs j B.root) k).flip=(fM xs k).flip:=fun k=>by
  rw[oy.flip]
  by_cases e:k=j
  . subst e;rw[hlm]
  . rw[o2 k e]
 have hkey:∀ k,(fM (lP xs j B.root) k).key=(fM xs k).key:=fun k=>by
  rw[oy.kl.key]
  by_cases e:k=j
  . subst e;rw[hlm]
  . rw[o2 k e]
 have hsB:gz (lP xs j B.root) false B=gz xs false B:=sX fun k _=>hfl k
 have hsa:gz (lP xs j B.root) false a=gz xs false a:=sX fun k _=>hfl k
 have hsb:gz (lP xs j B.root) false b=gz xs false b:=sX fun k _=>hfl k
 have hsT:gz (lP xs j B.root) false (.nd a j B)=gz xs false a++j :: gz xs false B:=by
  simp only[gz,hfl,hf,CZ,cond_false,hsa,hsB]
 have hby:gO (lP xs j B.root) b j:=hb.rJ ly fun k hk=>oo k (fun e=>njb (e▸hk))
 obtain⟨ρ,r1,r2⟩:=h.sv
 have rT:∀ k,k∈a.mem\/k=j\/k∈b.mem->ρ k=ρ j:=fun k hk=>r1 (.nd a j b,q) s_ k (by simpa[Tr.mem]using hk) j (by simp[Tr.mem])
 have inR:∀ e,e∈R↔(B.root≠0/\e=(B,j))\/e∈R' := fun e=>by rw[hB.mem_iff,oN]
 have rB:∀ k∈B.mem,ρ k<ρ j:=fun k hk=>by
  by_cases e0:B.root=0
  . rw[hBr.Aa e0]at hk;simp[Tr.mem]at hk
  . exact r2 (B,j) (mQ _ ((inR _).2 (.inl ⟨e0,rfl⟩))) j0 k hk
 refine⟨⟨fun e he=>?_,fun e he=>?_,?_,fun k h0 hk=>?_,fun e he=>?_,?_,?_,by rw[ly];exact h.pos,by rw[ly];exact h.len⟩,fun v' u' => ?_,hsT,oo,by rw[hfl];exact hf,hkey,ly⟩
 . rcases zg.1 he with rfl|he
   . exact hRy
   . rcases oN.1 he with ⟨_,rfl⟩|he
     . exact hby
     . exact(h.rep e (mQ _ ((inR e).2 (.inr he)))).rJ ly fun k hk=>oo k (fun e' => njR (e' ▸ nX he hk))
 . rcases zg.1 he with rfl|he
   . exact j0
   . rcases oN.1 he with ⟨h0,rfl⟩|he
     . exact h0
     . exact h.ne e (mQ _ ((inR e).2 (.inr he)))
 . simp only[jI,lu]
   show ((Tr.nd a j B).mem++jI (opt (b,j) R')).Nodup
   rw[G8 (e:=(b,j)) hb,zw,zw]
   refine⟨hnn,⟨nb,nR', fun x hx y hy e=>(hTR x (.inr (.inr hx))).2 (e▸hy)⟩,fun x hx y hy e=>?_⟩
   subst e
   simp only[Tr.mem,zr,zg]at hx hy
   rcases hy with hy|hy
   . rcases hx with hx|rfl|hx
     . exact nab x hx x (by simp[hy]) rfl
     . exact njb hy
     . exact(hTR x (.inr (.inr hy))).1 hx
   . rcases hx with hx|rfl|hx
     . exact(hTR x (.inl hx)).2 hy
     . exact njR hy
     . exact nBR x hx x hy rfl
 . rw[ly]at hk
   have h1:=h.all k h0 hk
   have h2:k∈(Tr.nd a j b).mem\/k∈jI R:=by simpa[jI,lu]using h1
   rw[hnB.mem_iff]at h2
   show k∈(Tr.nd a j B).mem++jI (opt (b,j) R')
   rw[G8 (e:=(b,j)) hb]
   simp only[Tr.mem,zr,zg]at h2 ⊢
   rcases h2 with (h|h|h)|h|h<;>simp[h]
 . rw[ly]
   rcases zg.1 he with rfl|he
   . exact h.par (.nd a j b,q) s_
   . rcases oN.1 he with ⟨_,rfl⟩|he
     . exact jl
     . exact h.par e (mQ _ ((inR e).2 (.inr he)))
 . have dB:∀ k,k∈b.mem->k∉B.mem:=fun k h1=>(hTR k (.inr (.inr h1))).1
   obtain⟨σ,hσ⟩:∃ σ:Nat->Nat,∀ k,σ k=if k∈B.mem then 2*ρ j+1 else if k∈b.mem then 2*ρ j else 2*ρ k+1:=⟨_,fun _=>rfl⟩
   refine⟨σ,fun e he=>?_,fun e he h0=>?_⟩
   . rcases zg.1 he with rfl|he
     . have key:∀ k∈(Tr.nd a j B).mem,σ k=2*ρ j+1:=fun k hk=>by
        rw[hσ]
        simp only[Tr.mem,zr,zg]at hk
        by_cases hkB:k∈B.mem
        . rw[if_pos hkB]
        . have hk' : k∈a.mem\/k=j:=by rcases hk with h|h|h;exact .inl h;exact .inr h;exact absurd h hkB
          have hkb:k∉b.mem:=fun hb' => by rcases hk' with h|rfl;exact nab k h k (by simp[hb']) rfl;exact njb hb'
          rw[if_neg hkB,if_neg hkb,rT k (by rcases hk' with h|h;exact .inl h;exact .inr (.inl h))]
       intro i hi k hk
       rw[key i hi,key k hk]
     . rcases oN.1 he with ⟨_,rfl⟩|he
       . intro i hi k hk
         simp only at hi hk
         rw[hσ,hσ,if_neg (dB i hi),if_pos hi,if_neg (dB k hk),if_pos hk]
       . intro i hi k hk
         have nin:∀ y∈e.1.mem,y∉B.mem/\y∉b.mem:=fun y hy=>⟨fun hb' => nBR y hb' y (nX he hy) rfl,fun hb' => (hTR y (.inr (.inr hb'))).2 (nX he hy)⟩
         rw[hσ,hσ,if_neg (nin i hi).1,if_neg (nin i hi).2,if_neg (nin k hk).1,if_neg (nin k hk).2,r1 e (mQ _ ((inR e).2 (.inr he))) i hi k hk]
   . rcases zg.1 he with rfl|he
     . simp only at h0
       have hqj:=r2 (.nd a j b,q) s_ h0
       have q1:q∉B.mem:=fun hq=>by have:=rB q hq;have:=hqj j (by simp[Tr.mem]);simp only at this;omega
       have q2:q∉b.mem:=fun hq=>by have:=rT q (.inr (.inr hq));have:=hqj j (by simp[Tr.mem]);simp only at this;omega
       intro i hi
       simp only
       rw[hσ i,hσ q,if_neg q1,if_neg q2]
       have hj' := hqj j (by simp[Tr.mem])
       simp only at hj'
       simp only[Tr.mem,zr,zg]at hi
       by_cases hiB:i∈B.mem
       . rw[if_pos hiB];omega
       . rw[if_neg hiB]
         split
         . omega
         . have:ρ i=ρ j:=rT i (by rcases hi with h|h|h;exact .inl h;exact .inr (.inl h);exact absurd h hiB)
           omega
     . rcases oN.1 he with ⟨_,rfl⟩|he
       . intro i hi
         simp only at hi ⊢
         rw[hσ,hσ,if_neg (dB i hi),if_pos hi,if_neg njB,if_neg njb];omega
       . intro i hi
         have hi1:i∉B.mem:=fun hb' => nBR i hb' i (nX he hi) rfl
         have hi2:i∉b.mem:=fun hb' => (hTR i (.inr (.inr hb'))).2 (nX he hi)
         have hlt' := r2 e (mQ _ ((inR e).2 (.inr he))) h0 i hi
         rw[hσ,hσ,if_neg hi1,if_neg hi2]
         by_cases hqB:e.2∈B.mem
         . have:=rB _ hqB;rw[if_pos hqB];omega
         . rw[if_neg hqB]
           by_cases hqb:e.2∈b.mem
           . have:=rT _ (.inr (.inr hqb));rw[if_pos hqb];omega
           . rw[if_neg hqb];omega
 . rw[oo 0 (fun e=>j0 e.symm)];exact h.zero
 . have hs:gV (lP xs j B.root) R' = gV xs R' := HK fun k hk=>oo k (fun e=>njR (e▸hk))
   have e1:gX (gV (lP xs j B.root) ((.nd a j B,q) :: opt (b,j) R')) v' u' ↔ nw (gz xs false a++j :: gz xs false B) q v' u' \/ nw (gz xs false b) j v' u' \/ gX (gV xs R') v' u' := by
    have:=NJ (ys:=lP xs j B.root) (e:=(b,j)) (R:=R') (v:=v') (u:=u') hb
    simp only[gV,zy]at this ⊢
    rw[gX.cons,hsT,this]
    simp only[gV]at hs
    rw[hsb,hs]
   have e2' : gX (gV xs ((.nd a j b,q) :: R)) v' u' ↔ nw (gz xs false a++j :: gz xs false b) q v' u' \/ nw (gz xs false B) j v' u' \/ gX (gV xs R') v' u' := by
    have h1:gz xs false (.nd a j b)=gz xs false a++j :: gz xs false b:=by simp only[gz,hf,CZ,cond_false]
    have h2:gX (gV xs R) v' u' ↔ gX (gV xs (opt (B,j) R')) v' u' := gX.perm (hB.map _)
    have h3:=NJ (ys:=xs) (e:=(B,j)) (R:=R') (v:=v') (u:=u') hBr
    have h4:gX (gV xs ((.nd a j b,q) :: R)) v' u' ↔ nw (gz xs false (.nd a j b)) q v' u' \/ gX (gV xs R) v' u' := by simp only[gV,zy,gX.cons]
    rw[h4,h1,h2,h3]
   rw[e1,e2', Lj,Lj,rS,rS]
   constructor
   . rintro((h|h|h)|h|h)<;>simp[h]
   . rintro((h|h|h)|h|h)<;>simp[h]
end Go.Sx
namespace Go.Sx
open Go
inductive tK (F:FT):Nat->Nat->Prop where
 | zero:tK F 0 0
 | step {T:Tr} {q j m:Nat} (he:(T,q)∈F) (hj:j∈T.mem) (h0:j≠0) (k:tK F q m):tK F j (m+1)
theorem tK.mono{F F' : FT}{ρ:Nat->Nat}{c:Nat}(hr:(∀ e∈F,∀ i∈e.1.mem,∀ j∈e.1.mem,ρ i=ρ j)/\∀ e∈F,e.2≠0->∀ i∈e.1.mem,ρ i<ρ e.2)
 (hin:∀ e∈F,(∀ i∈e.1.mem,c<ρ i)->e∈F') {q m:Nat} (h:tK F q m):(q=0\/c<ρ q)->tK F' q m:=by
 induction h with
 | zero=>intro _;exact .zero
 | @step T q j m he hj h0 k ih =>
  intro hc
  have hc:c<ρ j:=by rcases hc with e|e;exact absurd e h0;exact e
  refine .step (hin _ he fun i hi=>?_) hj h0 (ih ?_)
  . rw[hr.1 _ he i hi j hj];exact hc
  . by_cases hq:q=0
    . exact .inl hq
    . exact .inr (Nat.lt_trans hc (hr.2 _ he hq j hj))
theorem Ln(ρ:Nat->Nat):∀ n,∃ M,∀ k,k<n->ρ k<=M
 | 0=>⟨0,fun k hk=>absurd hk o_⟩
 | n+1=>by
  obtain⟨M,hM⟩:=Ln ρ n
  refine⟨max M (ρ n),fun k hk=>?_⟩
  by_cases e:k=n
  . subst e;omega
  . have:=hM k o_;omega
theorem Fo.dep{xs:List Nd}{F:FT}(h:Fo xs F){j:Nat}(hj:j<xs.length):∃ m,tK F j m:=by
 obtain⟨ρ,h1,h2⟩:=h.sv
 obtain⟨M,hM⟩:=Ln ρ xs.length
 have key:∀ n j,j<xs.length->M-ρ j<=n->∃ m,tK F j m:=by
  intro n
  induction n with
  | zero =>
   intro j hj hn
   by_cases h0:j=0
   . subst h0;exact⟨0,.zero⟩
   . obtain⟨e,he,hm⟩:=p7.1 (h.all j h0 hj)
     by_cases hq:e.2=0
     . exact⟨1,.step (T:=e.1) (q:=e.2) he hm h0 (by rw[hq];exact .zero)⟩
     . have a1:=h2 e he hq j hm
       have a2:=hM e.2 (h.par e he)
       have a3:=hM j hj
       omega
  | succ n ih =>
   intro j hj hn
   by_cases h0:j=0
   . subst h0;exact⟨0,.zero⟩
   . obtain⟨e,he,hm⟩:=p7.1 (h.all j h0 hj)
     by_cases hq:e.2=0
     . exact⟨1,.step (T:=e.1) (q:=e.2) he hm h0 (by rw[hq];exact .zero)⟩
     . have a1:=h2 e he hq j hm
       have a2:=hM e.2 (h.par e he)
       obtain⟨m,hm'⟩:=ih e.2 (h.par e he) o_
       exact⟨m+1,.step (T:=e.1) (q:=e.2) he hm h0 hm'⟩
 exact key _ j hj (zp _)
theorem Fo.RY{xs:List Nd}{F:FT}(h:Fo xs F){e f:Tr×Nat}(he:e∈F)(hf:f∈F){j:Nat}(h1:j∈e.1.mem)(h2:j∈f.1.mem):e=f:=by
 obtain⟨s,t,rfl⟩:=List.append_of_mem he
 have hp:(s++e :: t).Perm (e :: (s++t)):=wA
 have h' := h.perm hp
 rcases zg.1 (hp.mem_iff.1 hf)with e' | hf
 . exact e'.symm
 . exact absurd (nX hf h2) (h'.split.2.2 j h1)
structure Ex (xs0:List Nd) (F0:FT) (i:Nat) (xs:List Nd) (below j m:Nat) (R:FT) (B:Tr):Prop where
 fo:Fo xs (opt (B,j) R)
 rep:gO xs B j
 root:B.root=below
 start:below=0->j=i
 last:below≠0->(gz xs false B).getLast? = some i
 dep:tK (opt (B,j) R) j m
 par:∀ v u,gX (gV xs (opt (B,j) R)) v u↔gX (gV xs0 F0) v u
 key:∀ k,(fM xs k).key=(fM xs0 k).key
 len:xs.length=xs0.length
 lt:j<xs.length
 Ct:∀ T0,(T0,0)∈F0->((T0,0)∈R/\∀ k∈T0.mem,fM xs k=fM xs0 k)\/(j=0/\below≠0/\(gz xs false B).head? = (gz xs0 false T0).head?)
theorem Ex.init{xs:List Nd}{F:FT}{i:Nat}(h:Fo xs F)(hi:i<xs.length):∃ m,Ex xs F i xs 0 i m F .nil:=by
 obtain⟨m,hm⟩:=h.dep hi
 exact⟨m,h,trivial,rfl,fun _=>rfl,fun e=>absurd rfl e,hm,fun _ _=>Iff.rfl,fun _=>rfl,rfl,hi,fun T0 h0=>.inl ⟨h0,fun _ _=>rfl⟩⟩
theorem Lw{α:Type}{x:α}{l:List α}(h:x∈l):∃ r,l.Perm (x :: r):=by
 obtain⟨s,t,rfl⟩:=List.append_of_mem h
 exact⟨s++t,wA⟩
theorem Wh{e f:Tr×Nat}{R R' : FT}(h:R.Perm (f :: R')):(opt e R).Perm (f :: opt e R'):=by
 unfold opt
 split
 . exact h
 . exact(h.cons e).trans (List.Perm.swap _ _ _)
theorem Ex.go{xs0 xs:List Nd}{F0 R:FT}{i below j m:Nat}{B:Tr}(h:Ex xs0 F0 i xs below j m R B)(hj:j≠0) :
 ∃ T q,gO xs T q/\j∈T.mem/\T.mem.Nodup/\T.mem.length<=1000000/\Out xs q T.mem/\∀ ys a b,jB xs ys T [] (.nd a j b) q->(fM ys j).flip=false ->
  (fM (lP ys j below) j).up=q/\(∀ k,k≠j->fM (lP ys j below) k=fM ys k)/\∃ m' R', m=m' + 1/\Ex xs0 F0 i (lP ys j below) j q m' R' (.nd a j B):=by
 cases hd:h.dep with
 | zero=>exact absurd rfl hj
 | @step T q _ m' he hjT _ hk =>
  -- the entry lies in R
  have hR:(T,q)∈R:=by
   rcases oN.1 he with ⟨h0,e⟩|he
   . obtain⟨ρ,_,r2⟩:=h.fo.sv
     cases e
     have:=r2 (B,j) (oN.2 (.inl ⟨h0,rfl⟩)) hj j hjT
     simp at this
   . exact he
  obtain⟨R2,hp⟩:=Lw hR
  have hpo:(opt (B,j) R).Perm ((T,q) :: opt (B,j) R2):=Wh hp
  have hfo:=h.fo.perm hpo
  refine⟨T,q,hfo.rep (T,q) s_,hjT,hfo.split.1,hfo.count,hfo.out,fun ys a b hm hf=>?_⟩
  obtain⟨f1,s1,o1⟩:=hfo.Pa hm
  have hBy:gO ys B j:=by
   by_cases h0:B.root=0
   . rw[h.rep.Aa h0];trivial
   . exact h.rep.rJ hm.kl.len fun k hk' => o1 (B,j) (oN.2 (.inl ⟨h0,rfl⟩)) k hk'
  have c:=Ud (F:=[]) f1 hf (List.Perm.refl _) hBy
  obtain⟨c1,c2,c3,c4,c5,c6,c7⟩:=c
  rw[h.root]at c1 c2 c3 c4 c5 c6 c7
  have hsB:gz ys false B=gz xs false B:=by
   by_cases h0:B.root=0
   . rw[h.rep.Aa h0];rfl
   . exact Iy fun k hk' => o1 (B,j) (oN.2 (.inl ⟨h0,rfl⟩)) k hk'
  have hq0:q<xs.length:=hfo.par (T,q) s_
  have hup:(fM (lP ys j below) j).up=q:=(c1.rep (.nd a j B,q) s_).2.1.2.2
  have hoj:opt (Tr.nd a j B,q) (opt (b,j) R2)=(Tr.nd a j B,q) :: opt (b,j) R2:=if_neg hj
  refine⟨hup,c4,m', opt (b,j) R2,rfl,⟨by rw[hoj];exact c1,c1.rep (.nd a j B,q) s_,rfl,fun e=>absurd e hj,fun _=>?_,?_,fun v u=>?_,fun k=>?_,by rw[c7,hm.kl.len,h.len],by rw[c7,hm.kl.len];exact hq0,fun T0 hT0=>?_⟩⟩
  . rw[c3,hsB]
    by_cases hb:below=0
    . have hB0:B = .nil:=h.rep.Aa (h.root.trans hb)
      rw[hB0,h.start hb]
      simp[gz]
    . have:=h.last hb
      rw[List.getLast?_append,CQ,this]
      simp
  . rw[hoj]
    obtain⟨ρ,r1,r2⟩:=h.fo.sv
    refine tK.mono (c:=ρ j) ⟨r1,r2⟩ (fun e he' hc=>?_) hk ?_
    . rcases zg.1 (hpo.mem_iff.1 he')with rfl|he'
      . exact absurd (hc j hjT) o_
      . rcases oN.1 he' with ⟨h0,rfl⟩|he'
        . have hrt:=h.rep.mV h0
          have h3:=r2 (B,j) (oN.2 (.inl ⟨h0,rfl⟩)) hj _ hrt
          have h4:=hc _ hrt
          simp only at h3
          omega
        . exact mQ _ (oN.2 (.inr he'))
    . by_cases hq:q=0
      . exact .inl hq
      . exact .inr (r2 (T,q) he hq j hjT)
  . rw[hoj,c2,s1,<-h.par]
    exact gX.perm (hpo.symm.map _)
  . rw[c6,hm.kl.key,h.key]
  . rcases h.Ct T0 hT0 with ⟨h1,h2⟩|⟨h1,_⟩
    . rcases zg.1 (hp.mem_iff.1 h1)with e|h3
      . cases e
        refine .inr ⟨rfl,hj,?_⟩
        have e1:gz ys false (.nd a j b)=gz xs false T:=hm.ord false
        have e2:gz ys false (.nd a j b)=gz ys false a++j :: gz ys false b:=by simp only[gz,hf,CZ,cond_false]
        have e3:gz xs false T=gz xs0 false T:=Iy h2
        rw[c3,<-e3,<-e1,e2]
        cases gz ys false a<;>simp
      . refine .inl ⟨oN.2 (.inr h3),fun k hk' => ?_⟩
        have hkT:k∉T.mem:=fun ht=>by
         have hn:=hfo.split.2.2 k ht
         exact hn (nX (oN.2 (.inr h3)) hk')
        rw[c4 k (fun e=>hkT (e▸hjT)),hm.other k hkT,h2 k hk']
    . exact absurd h1 hj
theorem Ex.fin{xs0 xs:List Nd}{F0 R:FT}{i below m:Nat}{B:Tr}(h:Ex xs0 F0 i xs below 0 m R B)(hi:i≠0) :
 gO xs B 0/\i∈B.mem/\B.mem.Nodup/\B.mem.length<=1000000/\Out xs 0 B.mem/\∀ ys a b,jB xs ys B [] (.nd a i b) 0->(fM ys i).flip=false ->
  b = .nil/\Fo ys ((.nd a i .nil,0) :: R)/\(∀ v u,gX (gV ys ((.nd a i .nil,0) :: R)) v u↔gX (gV xs0 F0) v u)/\(∀ k,(fM ys k).key=(fM xs0 k).key)/\ys.length=xs0.length /\
   (∀ T0,(T0,0)∈F0->((T0,0)∈R/\∀ k∈T0.mem,fM ys k=fM xs0 k)\/(gz ys false (.nd a i .nil)).head? = (gz xs0 false T0).head?):=by
 have hb:below≠0:=fun e=>hi (h.start e).symm
 have hB0:B.root≠0:=by rw[h.root];exact hb
 have hoj:opt (B,0) R=(B,0) :: R:=if_neg hB0
 have hfo:=h.fo
 rw[hoj]at hfo
 have hlast:=h.last hb
 have him:i∈B.mem:=(nY xs false B).mem_iff.1 (Ft hlast)
 refine⟨h.rep,him,hfo.split.1,hfo.count,.inl rfl,fun ys a b hm hf=>?_⟩
 obtain⟨f1,s1,o1⟩:=hfo.Pa hm
 have e1:gz ys false (.nd a i b)=gz xs false B:=hm.ord false
 have e2:gz ys false (.nd a i b)=gz ys false a++i :: gz ys false b:=by simp only[gz,hf,CZ,cond_false]
 have hb0:b = .nil:=by
  rw[<-e1,e2,List.getLast?_append,CQ]at hlast
  have hbn:gz ys false b=[]:=by
   cases hl:(gz ys false b).getLast? with
   | none=>exact KM.1 hl
   | some x =>
    rw[hl]at hlast
    simp at hlast
    subst hlast
    have hx:x∈b.mem:=(nY ys false b).mem_iff.1 (Ft hl)
    have hn:=f1.split.1
    simp only[Tr.mem,zw,zx]at hn
    exact absurd hx hn.2.1.1
  have:=(nY ys false b).length_eq
  rw[hbn]at this
  cases b with
  | nil=>rfl
  | nd _ _ _=>simp[Tr.mem]at this
 subst hb0
 refine⟨rfl,f1,fun v u=>?_,fun k=>?_,by rw[hm.kl.len,h.len],fun T0 hT0=>?_⟩
 . rw[s1,<-h.par,hoj]
 . rw[hm.kl.key,h.key]
 . rcases h.Ct T0 hT0 with ⟨h1,h2⟩|⟨_,_,h3⟩
   . exact .inl ⟨h1,fun k hk=>by rw[o1 (T0,0) h1 k hk,h2 k hk]⟩
   . exact .inr (by rw[e1];exact h3)
end Go.Sx
namespace Go.Sx
open Go
theorem It(xs:List Nd):∀ (t:Tr) (φ:Bool),gz xs (!φ) t=(gz xs φ t).reverse
 | .nil,_=>rfl
 | .nd l i r,φ=>by
  have e:xor (!φ) (fM xs i).flip = !(xor φ (fM xs i).flip):=by cases φ<;>cases (fM xs i).flip<;>rfl
  simp only[gz,e,It xs l,It xs r]
  cases xor φ (fM xs i).flip<;>simp
theorem G6{xs:List Nd}{F:FT}(h:(jI F).Nodup):(xC (gV xs F)).Nodup:=by
 have hp:(xC (gV xs F)).Perm (jI F):=by
  unfold xC gV jI
  rw[List.flatMap_map]
  clear h
  induction F with
  | nil=>exact .nil
  | cons e F ih=>simp only[lu];exact((nY xs false e.1).append_right _).trans (ih.append_left _)
 exact hp.nodup_iff.2 h
theorem Fo.rU{xs:List Nd}{F:FT}(h:Fo xs F){v u u' : Nat}(h1:gX (gV xs F) v u)(h2:gX (gV xs F) v u'):u=u' := Go.Sx.rU (G6 h.nodup) h1 h2
theorem Fo.xE{xs:List Nd}{F:FT}(h:Fo xs F){T:Tr}{q:Nat}(he:(T,q)∈F):∀ x∈gz xs false T,x≠0:=fun x hx=>((h.rep (T,q) he).pR x ((nY xs false T).mem_iff.1 hx)).1
theorem Fo.below{xs:List Nd}{F:FT}(h:Fo xs F){T:Tr}(he:(T,0)∈F){v r:Nat}(hv:v∈T.mem)(hr:(gz xs false T).head? = some r):PR (gX (gV xs F)) v r :=
 (PR.EX (q:=0) hr (h.xE he) (fun v u hp=>⟨(gz xs false T,0),jW.2 ⟨(T,0),he,rfl⟩,hp⟩) ((nY xs false T).mem_iff.2 hv)).1 rfl
structure kZ (xs0:List Nd) (F0:FT) (ys:List Nd) (i:Nat) (a:Tr) (R:FT):Prop where
 fo:Fo ys ((.nd a i .nil,0) :: R)
 flip:(fM ys i).flip=false
 par:∀ v u,gX (gV ys ((.nd a i .nil,0) :: R)) v u↔gX (gV xs0 F0) v u
 key:∀ k,(fM ys k).key=(fM xs0 k).key
 len:ys.length=xs0.length
 Ct:∀ T0,(T0,0)∈F0->((T0,0)∈R/\∀ k∈T0.mem,fM ys k=fM xs0 k)\/(gz ys false (.nd a i .nil)).head? = (gz xs0 false T0).head?
theorem kZ.seq{xs0 ys:List Nd}{F0 R:FT}{i:Nat}{a:Tr}(h:kZ xs0 F0 ys i a R):gz ys false (.nd a i .nil)=gz ys false a++[i]:=by
 simp only[gz,h.flip,CZ,cond_false]
theorem kZ.head{xs0 ys:List Nd}{F0 R:FT}{i:Nat}{a:Tr}(h:kZ xs0 F0 ys i a R):∃ r,(gz ys false (.nd a i .nil)).head? = some r/\r∈(Tr.nd a i .nil).mem:=by
 have hm:i∈gz ys false (.nd a i .nil):=by rw[h.seq];simp
 cases hs:gz ys false (.nd a i .nil)with
 | nil=>rw[hs]at hm;simp at hm
 | cons r l=>exact⟨r,rfl,(nY ys false (.nd a i .nil)).mem_iff.1 (by rw[hs];simp)⟩
theorem kZ.top{xs0 ys:List Nd}{F0 R:FT}{i:Nat}{a:Tr}(h:kZ xs0 F0 ys i a R){r:Nat}(hr:(gz ys false (.nd a i .nil)).head? = some r){v:Nat}(hv:v∈(Tr.nd a i .nil).mem):PR (gX (gV xs0 F0)) v r :=
 (h.fo.below (T:=.nd a i .nil) s_ hv hr).mono fun v u hp=>(h.par v u).1 hp
def kE(ys:List Nd)(i:Nat):List Nd:=fR ys i (fun x=>{ x with flip:=true })
theorem Dv{xs0 ys:List Nd}{F0 R:FT}{i:Nat}{a:Tr}(h:kZ xs0 F0 ys i a R) :
 Fo (kE ys i) ((.nd a i .nil,0) :: R)/\gz (kE ys i) false (.nd a i .nil)=(gz ys false (.nd a i .nil)).reverse/\gV (kE ys i) R=gV ys R/\(kE ys i).length=ys.length/\(∀ k,k≠i->fM (kE ys i) k=fM ys k)/\∀ k,(fM (kE ys i) k).key=(fM ys k).key:=by
 obtain⟨n1,n2,n3⟩:=h.fo.split
 have hT:=h.fo.rep (.nd a i .nil,0) s_
 have il:=hT.1.2
 have i0:=hT.1.1
 have ll:(kE ys i).length=ys.length:=gJ
 have oi:fM (kE ys i) i={ fM ys i with flip:=true }:=kQ il
 have oo:∀ k,k≠i->fM (kE ys i) k=fM ys k:=fun k hk=>kM (fun e=>hk e.symm)
 have hf:∀ k,∃ f,fM (kE ys i) k={ fM ys k with flip:=f }:=fun k=>by
  by_cases e:k=i
  . subst e;exact⟨true,oi⟩
  . exact⟨(fM ys k).flip,by rw[oo k e]⟩
 have him:i∈(Tr.nd a i .nil).mem:=by simp[Tr.mem]
 have hR:∀ k∈jI R,fM (kE ys i) k=fM ys k:=fun k hk=>oo k (fun e=>n3 i him (e▸hk))
 obtain⟨ρ,r1,r2⟩:=h.fo.sv
 refine⟨⟨fun e he=>(h.fo.rep e he).FE ll fun k _=>hf k,h.fo.ne,h.fo.nodup,fun k h0 hk=>h.fo.all k h0 (by rw[ll]at hk;exact hk),fun e he=>by rw[ll];exact h.fo.par e he,⟨ρ,r1,r2⟩,by rw[oo 0 (fun e=>i0 e.symm)];exact h.fo.zero,by rw[ll];exact h.fo.pos,by rw[ll];exact h.fo.len⟩,?_,HK hR,ll,oo,fun k=>?_⟩
 . rw[<-It]
   refine LB ?_ fun k hk=>?_
   . rw[oi,h.flip];rfl
   . have:k≠i:=fun e=>by
      subst e
      simp only[Tr.mem,zw,zx]at n1
      have hk' : k∈a.mem:=by simpa[Tr.mem]using hk
      exact n1.2.2 k hk' k s_ rfl
     rw[oo k this]
 . obtain⟨f,e⟩:=hf k
   rw[e]
theorem PR.XX{S:vV}{s s' : List Nat}(hn:(xC ((s,0) :: S)).Nodup)(h0:∀ x∈s', x≠0)(hp:s'.Perm s){a r:Nat}(ha:s'.head? = some a)(hr:r∈s){v:Nat}(k:PR (gX ((s,0) :: S)) v r):PR (gX ((s', 0) :: S)) v a:=by
 have key:∀ v∈s,PR (gX ((s', 0) :: S)) v a:=fun v hv=>(PR.EX (q:=0) ha h0 (fun v u hp' => gX.cons.2 (.inl hp')) (hp.mem_iff.2 hv)).1 rfl
 induction k with
 | top h=>exact key _ hr
 | @step v u r h h0' _ ih =>
  by_cases hv:v∈s
  . exact key v hv
  . rcases gX.cons.1 h with h1|h1
    . exact absurd (vG h1) hv
    . exact .step (gX.cons.2 (.inr h1)) h0' (ih hr)
theorem PR.apart{S:vV}{s s' : List Nat}(hn:(xC ((s,0) :: S)).Nodup)(h0:∀ x∈s,x≠0){r:Nat}(hr:r∉s){v:Nat}(k:PR (gX ((s,0) :: S)) v r):v∉s/\PR (gX ((s', 0) :: S)) v r:=by
 have hin:∀ v∈s,∃ h,h∈s/\PR (gX ((s,0) :: S)) v h:=fun v hv=>by
  cases s with
  | nil=>simp at hv
  | cons x l=>exact⟨x,s_,(PR.EX (q:=0) rfl h0 (fun v u hp' => gX.cons.2 (.inl hp')) hv).1 rfl⟩
 have huq:∀ v u u', gX ((s,0) :: S) v u->gX ((s,0) :: S) v u' -> u=u' := fun v u u' h1 h2=>Go.Sx.rU hn h1 h2
 have hvn:∀ {v},PR (gX ((s,0) :: S)) v r->v∉s:=fun {v} k hv=>by
  obtain⟨h,hh,k'⟩:=hin v hv
  exact hr ((PR.unique huq k k')▸hh)
 refine⟨hvn k,?_⟩
 induction k with
 | top h =>
  rcases gX.cons.1 h with h1|h1
  . exact absurd (vG h1) hr
  . exact .top (gX.cons.2 (.inr h1))
 | step h h0' k ih =>
  rcases gX.cons.1 h with h1|h1
  . exact absurd (vG h1) (hvn (.step h h0' k))
  . exact .step (gX.cons.2 (.inr h1)) h0' (ih hr hvn)
structure Ql (ys:List Nd) (i:Nat) (a:Tr) (R:FT):Prop where
 fo:Fo ys ((.nd a i .nil,0) :: R)
 head:(gz ys false (.nd a i .nil)).head? = some i
theorem kZ.C8{xs0 ys:List Nd}{F0 R:FT}{i:Nat}{a:Tr}(h:kZ xs0 F0 ys i a R):Ql (kE ys i) i a R:=by
 obtain⟨h1,h2,_⟩:=Dv h
 refine⟨h1,?_⟩
 rw[h2,h.seq]
 simp
theorem kZ.X9{xs0 ys:List Nd}{F0 R:FT}{i:Nat}{a:Tr}(h:kZ xs0 F0 ys i a R){v r:Nat}(hv:PR (gX (gV xs0 F0)) v r)(hi:PR (gX (gV xs0 F0)) i r)(hu:∀ v u u', gX (gV xs0 F0) v u->gX (gV xs0 F0) v u' -> u=u') :
 PR (gX (gV (kE ys i) ((.nd a i .nil,0) :: R))) v i:=by
 obtain⟨h1,h2,h3,_⟩:=Dv h
 obtain⟨r', hr', hm⟩:=h.head
 have e:r' = r:=PR.unique hu (h.top hr' (by simp[Tr.mem])) hi
 subst e
 have hS:gV (kE ys i) ((.nd a i .nil,0) :: R)=((gz ys false (.nd a i .nil)).reverse,0) :: gV ys R:=by
  simp only[gV,zy]at h3 ⊢;rw[h2,h3]
 have hS0:gV ys ((.nd a i .nil,0) :: R)=(gz ys false (.nd a i .nil),0) :: gV ys R:=rfl
 rw[hS]
 refine PR.XX (s:=gz ys false (.nd a i .nil)) (by rw[<-hS0];exact G6 h.fo.nodup) (fun x hx=>?_) (List.reverse_perm _) (by rw[h.seq];simp) ((nY ys false (.nd a i .nil)).mem_iff.2 hm) (by rw[<-hS0];exact hv.mono fun v u hp=>(h.par v u).2 hp)
 exact h.fo.xE (T:=.nd a i .nil) (q:=0) s_ x (List.mem_reverse.1 hx)
theorem kZ.Xr{xs0 ys:List Nd}{F0 R:FT}{i:Nat}{a:Tr}(h:kZ xs0 F0 ys i a R){v r r' : Nat}(hv:PR (gX (gV xs0 F0)) v r)(hi:PR (gX (gV xs0 F0)) i r')(hne:r≠r')(hu:∀ v u u', gX (gV xs0 F0) v u->gX (gV xs0 F0) v u' -> u=u') :
 PR (gX (gV (kE ys i) ((.nd a i .nil,0) :: R))) v r/\r∉(Tr.nd a i .nil).mem:=by
 obtain⟨h1,h2,h3,_⟩:=Dv h
 have hrn:r∉(Tr.nd a i .nil).mem:=fun hm=>by
  obtain⟨r2,hr2,_⟩:=h.head
  have e1:r2=r' := PR.unique hu (h.top hr2 (by simp[Tr.mem])) hi
  have e2:r2=r:=PR.unique hu (h.top hr2 hm) (.top hv.root)
  exact hne (e2.symm.trans e1)
 have hS:gV (kE ys i) ((.nd a i .nil,0) :: R)=((gz ys false (.nd a i .nil)).reverse,0) :: gV ys R:=by
  simp only[gV,zy]at h3 ⊢;rw[h2,h3]
 have hS0:gV ys ((.nd a i .nil,0) :: R)=(gz ys false (.nd a i .nil),0) :: gV ys R:=rfl
 rw[hS]
 exact⟨(PR.apart (s:=gz ys false (.nd a i .nil)) (s' := (gz ys false (.nd a i .nil)).reverse) (by rw[<-hS0];exact G6 h.fo.nodup) (h.fo.xE (T:=.nd a i .nil) (q:=0) s_) (fun hm=>hrn ((nY ys false (.nd a i .nil)).mem_iff.1 hm)) (by rw[<-hS0];exact hv.mono fun v u hp=>(h.par v u).2 hp)).2,hrn⟩
def tc(xs:List Nd)(F:FT)(a b:Nat):Prop:=∃ r,PR (gX (gV xs F)) a r/\PR (gX (gV xs F)) b r
theorem kZ.joined{xs0 ys:List Nd}{F0 R:FT}{i:Nat}{a:Tr}(h:kZ xs0 F0 ys i a R)(u v:Nat):tc ys ((.nd a i .nil,0) :: R) u v↔tc xs0 F0 u v :=
 ⟨fun⟨r,h1,h2⟩=>⟨r,h1.mono fun v u=>(h.par v u).1,h2.mono fun v u=>(h.par v u).1⟩,fun⟨r,h1,h2⟩=>⟨r,h1.mono fun v u=>(h.par v u).2,h2.mono fun v u=>(h.par v u).2⟩⟩
theorem L9{xs0 xs ys:List Nd}{F0 R R' : FT}{i j:Nat}{a b:Tr}(h:kZ xs0 F0 xs i a R)(k:kZ xs ((.nd a i .nil,0) :: R) ys j b R')(hij:i≠j):(fM ys i).up≠0↔tc xs0 F0 i j:=by
 have hF:=h.fo
 obtain⟨r,hr,hrm⟩:=h.head
 obtain⟨r', hr', hrm'⟩:=k.head
 have pi:PR (gX (gV xs0 F0)) i r:=h.top hr (by simp[Tr.mem])
 have pj:PR (gX (gV xs0 F0)) j r' := (k.top hr' (by simp[Tr.mem])).mono fun v u=>(h.par v u).1
 have hu:∀ v u u', gX (gV xs0 F0) v u->gX (gV xs0 F0) v u' -> u=u' := fun v u u' h1 h2=>h.fo.rU ((h.par v u).2 h1) ((h.par v u').2 h2)
 constructor
 . intro hup
   rcases k.Ct (.nd a i .nil) s_ with ⟨h1,h2⟩|h1
   . have h3:=k.fo.rep (.nd a i .nil,0) (mQ _ h1)
     exact absurd h3.2.1.2.2 hup
   . rw[hr,hr']at h1
     simp only[Option.some.injEq]at h1
     subst h1
     exact⟨r', pi,pj⟩
 . rintro⟨r2,h1,h2⟩ hup
   have e1:r=r2:=PR.unique hu pi h1
   have e2:r' = r2:=PR.unique hu pj h2
   have vp:i<ys.length:=by rw[k.len];exact(hF.rep (.nd a i .nil,0) s_).1.2
   have i0:i≠0:=(hF.rep (.nd a i .nil,0) s_).1.1
   obtain⟨e,he,hm⟩:=p7.1 (k.fo.all i i0 vp)
   -- i is the root of fP tree,which hangs from nothing
   have hre:=k.fo.rep e he
   obtain⟨c,x,y,hc⟩:=D7 hm
   rw[hc]at hre
   obtain⟨hT,hC⟩:=(xk _ _ _).1 hre
   have hpc:vW c e.2=0:=by rw[<-hT.2.1.2.2];exact hup
   have hc0:c=[]:=by
    cases c with
    | nil=>rfl
    | cons f c' => obtain⟨d,g,s⟩:=f;exact absurd hpc hC.1.1
   subst hc0
   have hq:e.2=0:=hpc
   obtain⟨T,q⟩:=e
   simp only[j7]at hc hq hm
   subst hq
   subst hc
   have hd:∃ z,(gz ys false (.nd x i y)).head? = some z/\z∈(Tr.nd x i y).mem:=by
    have:(gz ys false (.nd x i y)).length=(Tr.nd x i y).mem.length:=(nY ys false _).length_eq
    cases hs:gz ys false (.nd x i y)with
    | nil=>rw[hs]at this;simp[Tr.mem]at this
    | cons z l=>exact⟨z,rfl,(nY ys false (.nd x i y)).mem_iff.1 (by rw[hs];simp)⟩
   obtain⟨z,hz,hzm⟩:=hd
   have pz:PR (gX (gV xs0 F0)) i z:=(k.fo.below he hm hz).mono fun v u hp=>(h.par v u).1 ((k.par v u).1 hp)
   have e3:z=r' := (PR.unique hu pz pi).trans (e1.trans e2.symm)
   have:=k.fo.RY he (zh (a:=(Tr.nd b j .nil,0))) hzm (by rw[e3];exact hrm')
   simp only[Prod.mk.injEq,Tr.nd.injEq]at this
   exact hij this.1.2.1
theorem Uo{xs ys:List Nd}{R R' : FT}{i j:Nat}{a b:Tr}(h:Ql xs i a R)(k:kZ xs ((.nd a i .nil,0) :: R) ys j b R')(hj:PR (gX (gV xs ((.nd a i .nil,0) :: R))) j i):(gz ys false (.nd b j .nil)).head? = some i:=by
 obtain⟨r,hr,_⟩:=k.head
 have:=PR.unique (P:=gX (gV xs ((.nd a i .nil,0) :: R))) (fun v u u' h1 h2=>h.fo.rU h1 h2) (k.top hr (v:=j) (by simp[Tr.mem])) hj
 rw[hr,this]
end Go.Sx
namespace Go.Sx
open Go
theorem gO.one{xs:List Nd}{t:Tr}{p i:Nat}(h:gO xs t p)(hs:t.mem=[i]):t = .nd .nil i .nil:=by
 cases t with
 | nil=>simp[Tr.mem]at hs
 | nd l j r =>
  cases l with
  | nil =>
   cases r with
   | nil=>simp[Tr.mem]at hs;rw[hs]
   | nd _ _ _=>simp[Tr.mem]at hs
  | nd _ _ _ =>
   have:=congrArg List.length hs
   simp[Tr.mem]at this
   omega
theorem W7{xs:List Nd}{t:Tr}{i:Nat}(h:gz xs false t=[i]):t.mem=[i]:=by
 have:=nY xs false t
 rw[h]at this
 exact List.perm_singleton.1 this.symm
theorem Vj{ys zs us:List Nd}{i j:Nat}{b a2 b2:Tr}{R R2 R3:FT}(hF:Fo ys ((.nd b j .nil,0) :: R))(hs:gz ys false (.nd b j .nil)=[i,j])
 (h1:kZ ys ((.nd b j .nil,0) :: R) zs i a2 R2) (h2:kZ (kE zs i) ((.nd a2 i .nil,0) :: R2) us j b2 R3):b2 = .nd .nil i .nil/\a2 = .nil:=by
 have hij:∀ x∈[i,j],x≠0:=fun x hx=>hF.xE (T:=.nd b j .nil) (q:=0) s_ x (by rw[hs];exact hx)
 have i0:=hij i s_
 have p1:gX (gV ys ((.nd b j .nil,0) :: R)) i 0:=⟨(gz ys false (.nd b j .nil),0),by simp[gV],by rw[hs];exact rS.2 (.inl ⟨rfl,rfl⟩)⟩
 have p2:gX (gV ys ((.nd b j .nil,0) :: R)) j i:=⟨(gz ys false (.nd b j .nil),0),by simp[gV],by rw[hs];exact rS.2 (.inr (rS.2 (.inl ⟨rfl,rfl⟩)))⟩
 -- the first exposing
 have hz:gX (gV zs ((.nd a2 i .nil,0) :: R2)) i ((gz zs false a2).getLast?.getD 0):=⟨(gz zs false (.nd a2 i .nil),0),by simp[gV],gz zs false a2,[],h1.seq,rfl⟩
 have e1:=h1.fo.rU hz ((h1.par i 0).2 p1)
 have ha2:gz zs false a2=[]:=by
  cases hl:(gz zs false a2).getLast? with
  | none=>exact KM.1 hl
  | some x =>
   rw[hl]at e1
   simp only[Bp]at e1
   exact absurd e1 (h1.fo.xE (T:=.nd a2 i .nil) (q:=0) s_ x (by rw[h1.seq];exact uO _ (Ft hl)))
 have ha2' : a2 = .nil:=by
  have:=(nY zs false a2).length_eq
  rw[ha2]at this
  cases a2 with
  | nil=>rfl
  | nd _ _ _=>simp[Tr.mem]at this
 obtain⟨l1,l2,l3,_⟩:=Dv h1
 have hseq:gV (kE zs i) ((.nd a2 i .nil,0) :: R2)=gV zs ((.nd a2 i .nil,0) :: R2):=by
  simp only[gV,zy]at l3 ⊢
  rw[l2,l3,h1.seq,ha2]
  rfl
 have q1:gX (gV us ((.nd b2 j .nil,0) :: R3)) i 0:=(h2.par i 0).2 (by rw[hseq];exact(h1.par i 0).2 p1)
 have q2:gX (gV us ((.nd b2 j .nil,0) :: R3)) j i:=(h2.par j i).2 (by rw[hseq];exact(h1.par j i).2 p2)
 have hu:gX (gV us ((.nd b2 j .nil,0) :: R3)) j ((gz us false b2).getLast?.getD 0):=⟨(gz us false (.nd b2 j .nil),0),by simp[gV],gz us false b2,[],h2.seq,rfl⟩
 have e2:=h2.fo.rU hu q2
 have hl:(gz us false b2).getLast? = some i:=by
  cases hl:(gz us false b2).getLast? with
  | none=>rw[hl]at e2;exact absurd e2.symm i0
  | some x=>rw[hl]at e2;simp only[Bp]at e2;rw[e2]
 obtain⟨s,hsp⟩:∃ s,gz us false b2=s++[i]:=by
  obtain⟨s,e⟩:=List.getLast?_eq_some_iff.1 hl
  exact⟨s,e⟩
 have hv:gX (gV us ((.nd b2 j .nil,0) :: R3)) i (s.getLast?.getD 0):=⟨(gz us false (.nd b2 j .nil),0),by simp[gV],s,[j],by rw[h2.seq,hsp];simp,rfl⟩
 have e3:=h2.fo.rU hv q1
 have hs0:s=[]:=by
  cases hl2:s.getLast? with
  | none=>exact KM.1 hl2
  | some x =>
   rw[hl2]at e3
   simp only[Bp]at e3
   exact absurd e3 (h2.fo.xE (T:=.nd b2 j .nil) (q:=0) s_ x (by rw[h2.seq,hsp];simp[Ft hl2]))
 rw[hs0,nC]at hsp
 have hrep:=h2.fo.rep (.nd b2 j .nil,0) s_
 exact⟨gO.one hrep.2.2.2.1 (W7 hsp),ha2'⟩
def ux(us:List Nd)(i j:Nat):List Nd:=iK (fR (fR us i (fun x=>{ x with up:=0 })) j (fun x=>{ x with k0:=0 })) j
theorem Sk{us:List Nd}{i j:Nat}{R:FT}(h:Fo us ((.nd (.nd .nil i .nil) j .nil,0) :: R)):Fo (ux us i j) ((.nd .nil i .nil,0) :: (.nd .nil j .nil,0) :: R)/\(ux us i j).length=us.length/\∀ k,k≠i->k≠j->fM (ux us i j) k=fM us k:=by
 obtain⟨n1,n2,n3⟩:=h.split
 obtain⟨⟨j0,jl⟩,⟨k0,k1,up⟩,v,hi,_⟩:=h.rep (.nd (.nd .nil i .nil) j .nil,0) s_
 have hi' := hi
 obtain⟨⟨i0,il⟩,⟨ik0,ik1,iup⟩,iv,_,_⟩:=hi'
 have hne:i≠j:=by
  simp only[Tr.mem,nC,mD,qc]at n1
  rintro rfl
  simp at n1
 obtain⟨x1,e1⟩:∃ x,x=fR us i (fun x=>{ x with up:=0 }):=⟨_,rfl⟩
 obtain⟨x2,e2⟩:∃ x,x=fR x1 j (fun x=>{ x with k0:=0 }):=⟨_,rfl⟩
 have hcut:ux us i j=iK x2 j:=by rw[e2,e1];rfl
 have l2:x2.length=us.length:=by rw[e2,e1,gJ,gJ]
 have a2:fM x2 i={ fM us i with up:=0 }:=by rw[e2,kM (fun e=>hne e.symm),e1,kQ il]
 have b2:fM x2 j={ fM us j with k0:=0 }:=by rw[e2,kQ (by rw[e1,gJ];exact jl),e1,kM hne]
 have o2:∀ k,k≠i->k≠j->fM x2 k=fM us k:=fun k hk hk' => by rw[e2,kM (fun e=>hk' e.symm),e1,kM (fun e=>hk e.symm)]
 obtain⟨oy,hRj⟩:=zC (xs:=x2) (i:=j) (l:=.nil) (r:=.nil) ⟨j0,o_⟩ trivial trivial (by rw[b2];rfl) (by rw[b2];exact k1) (by simp[Tr.mem]) (by simp[Tr.mem])
 rw[<-hcut]at oy hRj
 rw[show (fM x2 j).up=0 by rw[b2];exact up]at hRj
 have ai:fM (ux us i j) i={ fM us i with up:=0 }:=by rw[oy.other i hne,a2]
 have oo:∀ k,k≠i->k≠j->fM (ux us i j) k=fM us k:=fun k h1 h2=>by rw[oy.other k h2,o2 k h1 h2]
 have ll:(ux us i j).length=us.length:=by rw[oy.len,l2]
 have hRi:gO (ux us i j) (.nd .nil i .nil) 0:=by
  refine⟨⟨i0,by rw[ll];exact il⟩,⟨by rw[ai];exact ik0,by rw[ai];exact ik1,by rw[ai]⟩,?_,trivial,trivial⟩
  simp only[Tr.mem,nC]at iv ⊢
  refine⟨by rw[ai];exact iv.size,?_,?_⟩
  . rw[ai,iv.total];simp[nJ,ai]
  . rw[ai];exact⟨iv.first.1,fun k hk=>.inl (by have h1:=iv.first.1;simp at hk h1;rw[hk,h1])⟩
 have hmi:i∈(Tr.nd (.nd .nil i .nil) j .nil).mem:=by simp[Tr.mem]
 have hmj:j∈(Tr.nd (.nd .nil i .nil) j .nil).mem:=by simp[Tr.mem]
 have nR:∀ e∈R,∀ k∈e.1.mem,k≠i/\k≠j:=fun e he k hk=>⟨fun e' => n3 i hmi (e' ▸ nX he hk),fun e' => n3 j hmj (e' ▸ nX he hk)⟩
 have hnodes:jI ((.nd .nil i .nil,0) :: (.nd .nil j .nil,0) :: R)=jI ((.nd (.nd .nil i .nil) j .nil,0) :: R):=by simp[jI,Tr.mem]
 obtain⟨ρ,r1,r2⟩:=h.sv
 refine⟨⟨fun e he=>?_,fun e he=>?_,by rw[hnodes];exact h.nodup,fun k h0 hk=>by rw[hnodes];exact h.all k h0 (by rw[ll]at hk;exact hk),fun e he=>?_,⟨ρ,fun e he=>?_,fun e he h0=>?_⟩,by rw[oo 0 (fun e=>i0 e.symm) (fun e=>j0 e.symm)];exact h.zero,by rw[ll];exact h.pos,by rw[ll];exact h.len⟩,ll,oo⟩
 . rcases zg.1 he with rfl|he
   . exact hRi
   . rcases zg.1 he with rfl|he
     . exact hRj
     . exact(h.rep e (by simp[he])).rJ ll fun k hk=>oo k (nR e he k hk).1 (nR e he k hk).2
 . rcases zg.1 he with rfl|he
   . exact i0
   . rcases zg.1 he with rfl|he
     . exact j0
     . exact h.ne e (by simp[he])
 . rw[ll]
   rcases zg.1 he with rfl|he
   . exact h.pos
   . rcases zg.1 he with rfl|he
     . exact h.pos
     . exact h.par e (by simp[he])
 . rcases zg.1 he with rfl|he
   . intro x hx y hy;simp[Tr.mem]at hx hy;rw[hx,hy]
   . rcases zg.1 he with rfl|he
     . intro x hx y hy;simp[Tr.mem]at hx hy;rw[hx,hy]
     . exact r1 e (by simp[he])
 . rcases zg.1 he with rfl|he
   . exact absurd rfl h0
   . rcases zg.1 he with rfl|he
     . exact absurd rfl h0
     . exact r2 e (by simp[he]) h0
def qw(zs:List Nd)(a b:Nat):List Nd := 
 let x1:=fR zs a (fun x=>{ x with up:=b })
 iK (fR x1 b (fun x=>{ x with iP:=IntKind.i64.wrap (x.iP+(fM x1 a).total) })) b
theorem TY{zs:List Nd}{a b:Nat}{x y:Tr}{R:FT}(h:Fo zs ((.nd y b .nil,0) :: (.nd x a .nil,0) :: R)):Fo (qw zs a b) ((.nd y b .nil,0) :: (.nd x a .nil,b) :: R)/\(qw zs a b).length=zs.length/\∀ k,k≠a->k≠b->fM (qw zs a b) k=fM zs k:=by
 obtain⟨n1,n2,n3⟩:=h.split
 have hB:=h.rep (.nd y b .nil,0) s_
 have hA:=h.rep (.nd x a .nil,0) s_
 obtain⟨⟨b0,bl⟩,⟨bk0,bk1,bup⟩,bv,hy,_⟩:=hB
 have a0:=hA.1.1
 have al:=hA.1.2
 have hma:a∈(Tr.nd x a .nil).mem:=by simp[Tr.mem]
 have hmb:b∈(Tr.nd y b .nil).mem:=by simp[Tr.mem]
 have dj:∀ k∈(Tr.nd y b .nil).mem,k∉(Tr.nd x a .nil).mem/\k∉jI R:=fun k hk=>by
  have:=n3 k hk
  simp only[jI,lu,zr,not_or]at this
  exact this
 have hne:a≠b:=fun e=>(dj b hmb).1 (e▸hma)
 have nA:(Tr.nd x a .nil).mem.Nodup/\∀ k∈(Tr.nd x a .nil).mem,k∉jI R:=by
  simp only[jI,lu,zw]at n2
  exact⟨n2.1,fun k h1 h2=>n2.2.2 k h1 k h2 rfl⟩
 obtain⟨x1,e1⟩:∃ z,z=fR zs a (fun x=>{ x with up:=b }):=⟨_,rfl⟩
 obtain⟨x2,e2⟩:∃ z,z=fR x1 b (fun x=>{ x with iP:=IntKind.i64.wrap (x.iP+(fM x1 a).total) }):=⟨_,rfl⟩
 have hcut:qw zs a b=iK x2 b:=by rw[e2,e1];rfl
 have l1:x1.length=zs.length:=by rw[e1,gJ]
 have l2:x2.length=zs.length:=by rw[e2,gJ,l1]
 have a2:fM x2 a={ fM zs a with up:=b }:=by rw[e2,kM (fun e=>hne e.symm),e1,kQ al]
 obtain⟨lm,b2⟩:∃ lm,fM x2 b={ fM zs b with iP:=lm }:=⟨_,by rw[e2,kQ (by rw[l1];exact bl),e1,kM hne]⟩
 have o2:∀ k,k≠a->k≠b->fM x2 k=fM zs k:=fun k hk hk' => by rw[e2,kM (fun e=>hk' e.symm),e1,kM (fun e=>hk e.symm)]
 have nby:b∉y.mem:=by
  simp only[Tr.mem,zw,zx]at n1
  exact fun h=>n1.2.2 b h b s_ rfl
 have hy2:gO x2 y b:=hy.rJ l2 fun k hk=>o2 k (fun e=>(dj k (by simp[Tr.mem,hk])).1 (e▸hma)) (fun e=>nby (e▸hk))
 obtain⟨oy,hRb⟩:=zC (xs:=x2) (i:=b) (l:=y) (r:=.nil) ⟨b0,o_⟩ hy2 trivial (by rw[b2];exact bk0) (by rw[b2];exact bk1) n1 h.count
 rw[<-hcut]at oy hRb
 rw[show (fM x2 b).up=0 by rw[b2];exact bup]at hRb
 have oo:∀ k,k≠a->k≠b->fM (qw zs a b) k=fM zs k:=fun k h1 h2=>by rw[oy.other k h2,o2 k h1 h2]
 have ll:(qw zs a b).length=zs.length:=by rw[oy.len,l2]
 have aa:fM (qw zs a b) a={ fM zs a with up:=b }:=by rw[oy.other a hne,a2]
 have hRa:gO (qw zs a b) (.nd x a .nil) b:=by
  obtain⟨⟨_,_⟩,⟨ak0,ak1,_⟩,av,hx,_⟩:=hA
  have nax:a∉x.mem:=by
   have:=nA.1
   simp only[Tr.mem,zw,zx]at this
   exact fun h=>this.2.2 a h a s_ rfl
  have hxk:∀ k∈x.mem,fM (qw zs a b) k=fM zs k:=fun k hk=>oo k (fun e=>nax (e▸hk)) (fun e=>(dj b hmb).1 (e▸by simp[Tr.mem,hk]))
  refine⟨⟨a0,by rw[ll];exact al⟩,⟨by rw[aa];exact ak0,by rw[aa];exact ak1,by rw[aa]⟩,?_,hx.rJ ll hxk,trivial⟩
  have hkl:∀ k∈x.mem++a :: Tr.nil.mem,(fM (qw zs a b) k).key=(fM zs k).key/\(fM (qw zs a b) k).iP=(fM zs k).iP:=fun k hk=>by
   simp only[Tr.mem,zr,zg,sw,or_false]at hk
   rcases hk with hk|rfl
   . rw[hxk k hk];exact⟨rfl,rfl⟩
   . rw[aa];exact⟨rfl,rfl⟩
  refine⟨by rw[aa];exact av.size,?_,?_⟩
  . rw[aa,show nJ (qw zs a b) (x.mem++a :: Tr.nil.mem)=nJ zs (x.mem++a :: Tr.nil.mem) from congrArg List.sum (A8 fun k hk=>by rw[(hkl k hk).2])]
    exact av.total
  . rw[aa]
    refine⟨av.first.1,fun k hk=>?_⟩
    rcases av.first.2 k hk with e|e
    . exact .inl e
    . refine .inr ?_
      rw[<-e]
      simp only[lI,(hkl k hk).1,(hkl _ av.first.1).1]
 have nR:∀ e∈R,∀ k∈e.1.mem,k≠a/\k≠b:=fun e he k hk=>⟨fun e' => nA.2 a hma (e' ▸ nX he hk),fun e' => (dj b hmb).2 (e' ▸ nX he hk)⟩
 have hnodes:jI ((.nd y b .nil,0) :: (.nd x a .nil,b) :: R)=jI ((.nd y b .nil,0) :: (.nd x a .nil,0) :: R):=by simp[jI]
 obtain⟨ρ,r1,r2⟩:=h.sv
 obtain⟨σ,hσ⟩:∃ σ:Nat->Nat,∀ k,σ k=if k∈(Tr.nd y b .nil).mem then ρ k+ρ a+1 else ρ k:=⟨_,fun _=>rfl⟩
 have sin:∀ k∈(Tr.nd y b .nil).mem,σ k=ρ k+ρ a+1:=fun k hk=>by rw[hσ,if_pos hk]
 have sout:∀ k,k∉(Tr.nd y b .nil).mem->σ k=ρ k:=fun k hk=>by rw[hσ,if_neg hk]
 have sge:∀ k,ρ k<=σ k:=fun k=>by rw[hσ];split<;>omega
 have oA:∀ k∈(Tr.nd x a .nil).mem,k∉(Tr.nd y b .nil).mem:=fun k h1 h2=>(dj k h2).1 h1
 have oR:∀ e∈R,∀ k∈e.1.mem,k∉(Tr.nd y b .nil).mem:=fun e he k h1 h2=>(dj k h2).2 (nX he h1)
 refine⟨⟨fun e he=>?_,fun e he=>?_,by rw[hnodes];exact h.nodup,fun k h0 hk=>by rw[hnodes];exact h.all k h0 (by rw[ll]at hk;exact hk),fun e he=>?_,⟨σ,fun e he=>?_,fun e he h0=>?_⟩,by rw[oo 0 (fun e=>a0 e.symm) (fun e=>b0 e.symm)];exact h.zero,by rw[ll];exact h.pos,by rw[ll];exact h.len⟩,ll,oo⟩
 . rcases zg.1 he with rfl|he
   . exact hRb
   . rcases zg.1 he with rfl|he
     . exact hRa
     . exact(h.rep e (by simp[he])).rJ ll fun k hk=>oo k (nR e he k hk).1 (nR e he k hk).2
 . rcases zg.1 he with rfl|he
   . exact b0
   . rcases zg.1 he with rfl|he
     . exact a0
     . exact h.ne e (by simp[he])
 . rw[ll]
   rcases zg.1 he with rfl|he
   . exact h.pos
   . rcases zg.1 he with rfl|he
     . exact bl
     . exact h.par e (by simp[he])
 . rcases zg.1 he with rfl|he
   . intro i hi k hk
     rw[sin i hi,sin k hk,r1 (.nd y b .nil,0) s_ i hi k hk]
   . rcases zg.1 he with rfl|he
     . intro i hi k hk
       rw[sout i (oA i hi),sout k (oA k hk),r1 (.nd x a .nil,0) s_ i hi k hk]
     . intro i hi k hk
       rw[sout i (oR e he i hi),sout k (oR e he k hk),r1 e (by simp[he]) i hi k hk]
 . rcases zg.1 he with rfl|he
   . exact absurd rfl h0
   . rcases zg.1 he with rfl|he
     . intro i hi
       have:=r1 (.nd x a .nil,0) s_ i hi a hma
       rw[sout i (oA i hi),sin b hmb]
       omega
     . intro i hi
       have:=r2 e (by simp[he]) h0 i hi
       have:=sge e.2
       rw[sout i (oR e he i hi)]
       omega
def vU(ys:List Nd)(i:Nat)(k:Int):List Nd:=iK (fR ys i (fun x=>{ x with key:=k })) i
theorem Wa{ys:List Nd}{i:Nat}{a:Tr}{R:FT}{c:Int}(h:Fo ys ((.nd a i .nil,0) :: R)):Fo (vU ys i c) ((.nd a i .nil,0) :: R)/\(vU ys i c).length=ys.length/\(∀ k,k≠i->fM (vU ys i c) k=fM ys k)/\(fM (vU ys i c) i).key=c:=by
 obtain⟨n1,n2,n3⟩:=h.split
 obtain⟨⟨i0,il⟩,⟨k0,k1,up⟩,v,ha,_⟩:=h.rep (.nd a i .nil,0) s_
 obtain⟨x2,e2⟩:∃ z,z=fR ys i (fun x=>{ x with key:=c }):=⟨_,rfl⟩
 have hcut:vU ys i c=iK x2 i:=by rw[e2];rfl
 have l2:x2.length=ys.length:=by rw[e2,gJ]
 have a2:fM x2 i={ fM ys i with key:=c }:=by rw[e2,kQ il]
 have o2:∀ k,k≠i->fM x2 k=fM ys k:=fun k hk=>by rw[e2,kM (fun e=>hk e.symm)]
 have nia:i∉a.mem:=by
  simp only[Tr.mem,zw,zx]at n1
  exact fun h=>n1.2.2 i h i s_ rfl
 obtain⟨oy,hRi⟩:=zC (xs:=x2) (i:=i) (l:=a) (r:=.nil) ⟨i0,o_⟩ (ha.rJ l2 fun k hk=>o2 k (fun e=>nia (e▸hk))) trivial (by rw[a2];exact k0) (by rw[a2];exact k1) n1 h.count
 rw[<-hcut]at oy hRi
 rw[show (fM x2 i).up=0 by rw[a2];exact up]at hRi
 have oo:∀ k,k≠i->fM (vU ys i c) k=fM ys k:=fun k h1=>by rw[oy.other k h1,o2 k h1]
 have ll:(vU ys i c).length=ys.length:=by rw[oy.len,l2]
 have hm:i∈(Tr.nd a i .nil).mem:=by simp[Tr.mem]
 refine⟨⟨fun e he=>?_,h.ne,h.nodup,fun k h0 hk=>h.all k h0 (by rw[ll]at hk;exact hk),fun e he=>by rw[ll];exact h.par e he,h.sv,by rw[oo 0 (fun e=>i0 e.symm)];exact h.zero,by rw[ll];exact h.pos,by rw[ll];exact h.len⟩,ll,oo,by rw[oy.kl.key,a2]⟩
 rcases zg.1 he with rfl|he
 . exact hRi
 . exact(h.rep e (by simp[he])).rJ ll fun k hk=>oo k (fun e' => n3 i hm (e' ▸ nX he hk))
def vu:Nd:=⟨0,0,0,false,0,0,0,0,0⟩
def wN(i:Nat):Nd:=⟨0,0,0,false,0,1,i,0,1⟩
def mN(n k:Nat):List Nd:=(List.range (n+1)).map fun i=>if 1<=i/\i<=k then wN i else vu
theorem pJ(n k:Nat):(mN n k).length=n+1:=by simp[mN]
theorem xy{n k i:Nat}(h:i<n+1):fM (mN n k) i=if 1<=i/\i<=k then wN i else vu:=by
 simp[fM,mN,Bj h]
theorem TP(n:Nat):mN n 0=List.replicate (n+1) vu:=by
 apply List.ext_getElem
 . simp[mN]
 . intro i h1 h2
   simp only[mN,List.getElem_map,List.getElem_range,List.getElem_replicate]
   rw[if_neg o_]
theorem TN{n k:Nat}(h:k<n):iK (mN n k) (k+1)=mN n (k+1):=by
 have hl:k+1<(mN n k).length:=by rw[pJ];omega
 have hat:fM (mN n k) (k+1)=vu:=by rw[xy o_,if_neg o_]
 unfold iK
 rw[hat]
 simp only[vu,mu,if_true]
 apply nE
 intro i
 by_cases hi:i=k+1
 . subst hi
   rw[gA (by rw[gJ];exact hl),kQ hl,hat,gA (by rw[pJ];omega),xy o_,if_pos o_]
   simp only[vu,wN,HI]
   rfl
 . by_cases hlt:i<n+1
   . rw[gA (by rw[gJ,pJ];exact hlt),kM (fun e=>hi e.symm),gA (by rw[pJ];exact hlt),xy hlt,xy hlt]
     by_cases h1:1<=i/\i<=k
     . rw[if_pos h1,if_pos o_]
     . rw[if_neg h1,if_neg o_]
   . rw[nk (by rw[gJ,pJ];omega),nk (by rw[pJ];omega)]
def newF(n:Nat):FT:=(List.range n).map fun v=>(.nd .nil (v+1) .nil,0)
theorem UM{n:Nat}(h:n<=1000000):Fo (mN n n) (newF n):=by
 have hnodes:jI (newF n)=(List.range n).map (· + 1):=by
  unfold jI newF
  rw[List.flatMap_map]
  induction List.range n with
  | nil=>rfl
  | cons x l ih =>
   rw[lu,ih]
   rfl
 refine⟨fun e he=>?_,fun e he=>?_,?_,fun j h0 hj=>?_,fun e he=>?_,⟨fun _=>0,fun _ _ _ _ _ _=>rfl,fun e he h0=>?_⟩,?_,by rw[pJ];omega,by rw[pJ];omega⟩
 . obtain⟨v,hv,rfl⟩:=jW.1 he
   have hv:=ni.1 hv
   have hat:fM (mN n n) (v+1)=wN (v+1):=by rw[xy o_,if_pos o_]
   refine⟨⟨o_,by rw[pJ];omega⟩,⟨by rw[hat];rfl,by rw[hat];rfl,by rw[hat];rfl⟩,⟨by rw[hat];rfl,?_,?_⟩,trivial,trivial⟩
   . rw[hat];simp only[Tr.mem,nC,nJ,zy,yK,hat];rw[HI];rfl
   . rw[hat];exact⟨by simp[wN,Tr.mem],fun j hj=>.inl (by simpa[wN,Tr.mem]using hj)⟩
 . obtain⟨v,hv,rfl⟩:=jW.1 he
   exact Nat.succ_ne_zero v
 . rw[hnodes]
   exact List.Pairwise.map _ (fun a b (h:a≠b)=>by show a+1≠b+1;omega) C4
 . rw[hnodes]
   rw[pJ]at hj
   exact jW.2 ⟨j-1,ni.2 o_,o_⟩
 . obtain⟨v,hv,rfl⟩:=jW.1 he
   rw[pJ];show 0<n+1;omega
 . obtain⟨v,hv,rfl⟩:=jW.1 he
   exact absurd rfl h0
 . rw[xy o_,if_neg o_];exact⟨rfl,rfl,rfl⟩
end Go.Sx
namespace Go.Sx
open Go
theorem NB{α:Type}[Inhabited α]{xs:List α}{i:Nat}{f g:α->α}(h:i<xs.length):fR (fR xs i f) i g=fR xs i (fun x=>g (f x)):=by
 have e:=kQ (f:=f) h
 unfold fR at e ⊢
 rw[e,List.set_set]
theorem RD{xs:List Nd}{i:Nat}(h:i<xs.length):fR (fR (fR xs i (fun x=>{ x with size:=1 })) i (fun x=>{ x with first:=i })) i (fun x=>{ x with total:=IntKind.i64.wrap (1+(fM xs i).iP) })=fR xs i (fun x=>{ x with size:=1,first:=i,total:=IntKind.i64.wrap (1+x.iP) }):=by
 rw[NB h,NB h];rfl
theorem ue{xs y:List Nd}{i:Nat}(hy:y=fR xs i (fun x=>{ x with size:=1,first:=i,total:=IntKind.i64.wrap (1+x.iP) }))(h:i<xs.length):iK xs i=mu (mu y i (fM y i).k0) i (fM y i).k1:=by
 have e0:(fM y i).k0=(fM xs i).k0:=by rw[hy,kQ h]
 have e1:(fM y i).k1=(fM xs i).k1:=by rw[hy,kQ h]
 rw[e0,e1,hy];rfl
theorem sP{xs:List Nd}{i k:Nat}(h:k=0):mu xs i k=xs:=by simp[mu,h]
section
variable {xs y0 y1 y2:List Nd} {i k:Nat}
theorem sU(h:k≠0)(e0:y0=fR xs i (fun x=>{ x with size:=IntKind.i64.wrap ((fM xs i).size+(fM xs k).size) }))(e1:y1=fR y0 i (fun x=>{ x with total:=IntKind.i64.wrap ((fM y0 i).total+(fM y0 k).total) }))
 (hz:lI y1 (fM y1 k).first (fM y1 i).first=true) (e2:y2=fR y1 i (fun x=>{ x with first:=(fM y1 k).first })):mu xs i k=y2:=by
 subst e0 e1 e2
 simp only[mu,if_neg h]
 exact if_pos hz
theorem sV(h:k≠0)(e0:y0=fR xs i (fun x=>{ x with size:=IntKind.i64.wrap ((fM xs i).size+(fM xs k).size) }))(e1:y1=fR y0 i (fun x=>{ x with total:=IntKind.i64.wrap ((fM y0 i).total+(fM y0 k).total) }))
 (hz:lI y1 (fM y1 k).first (fM y1 i).first=false):mu xs i k=y1:=by
 have hz' : ¬ lI y1 (fM y1 k).first (fM y1 i).first=true:=by rw[hz];simp
 subst e0 e1
 simp only[mu,if_neg h]
 exact if_neg hz'
end
theorem Bz(xs:List Nd)(i:Nat):jw xs i=(0,false)\/jw xs i=(0,true)\/jw xs i=(1,true):=by
 unfold jw
 (repeat' split)<;>simp
theorem ga.kS{xs:List Nd}(h:ga xs){i s k:Nat}(hi:i<xs.length)(hk:k<xs.length):ga (iS xs i s k):=by
 have h1:ga (if s=0 then fR xs i (fun x=>{ x with k0:=k })else fR xs i (fun x=>{ x with k1:=k })):=by
  split
  . exact h.iF hi fun x a b c d e=>⟨hk,b,c,d,e⟩
  . exact h.iF hi fun x a b c d e=>⟨a,hk,c,d,e⟩
 have hl:(if s=0 then fR xs i (fun x=>{ x with k0:=k })else fR xs i (fun x=>{ x with k1:=k })).length=xs.length:=by split<;>exact gJ
 by_cases hk0:k=0
 . simp only[iS,if_pos hk0]
   exact h1
 . simp only[iS,if_neg hk0]
   exact h1.iF (by rw[hl];exact hk) fun x a b c d e=>⟨a,b,by rw[hl];exact hi,d,e⟩
theorem Dg(xs:List Nd)(i s k:Nat):(iS xs i s k).length=xs.length:=by
 unfold iS
 simp only
 (repeat' split)<;>simp only[gJ]
theorem GK(xs:List Nd)(i k:Nat):(mu xs i k).length=xs.length:=by
 unfold mu
 simp only
 (repeat' split)<;>simp only[gJ]
theorem De(xs:List Nd)(i:Nat):(iK xs i).length=xs.length:=by
 simp only[iK,GK,gJ]
theorem ga.mu{xs:List Nd}(h:ga xs){i k:Nat}(hi:i<xs.length)(hk:k<xs.length):ga (mu xs i k):=by
 have h0:ga (fR xs i (fun x=>{ x with size:=IntKind.i64.wrap (x.size+(fM xs k).size) })):=h.iF hi fun x a b c d e=>⟨a,b,c,d,e⟩
 have l0:(fR xs i (fun x=>{ x with size:=IntKind.i64.wrap (x.size+(fM xs k).size) })).length=xs.length:=gJ
 unfold Go.Sx.mu
 simp only
 generalize fR xs i (fun x=>{ x with size:=IntKind.i64.wrap (x.size+(fM xs k).size) })=y0 at h0 l0 ⊢
 have h1:ga (fR y0 i (fun x=>{ x with total:=IntKind.i64.wrap (x.total+(fM y0 k).total) })):=h0.iF o_ fun x a b c d e=>⟨a,b,c,d,e⟩
 have l1:(fR y0 i (fun x=>{ x with total:=IntKind.i64.wrap (x.total+(fM y0 k).total) })).length=y0.length:=gJ
 generalize fR y0 i (fun x=>{ x with total:=IntKind.i64.wrap (x.total+(fM y0 k).total) })=y1 at h1 l1 ⊢
 split
 . exact h
 split
 . exact h1.iF o_ fun x a b c d e=>⟨a,b,c,h1.first k o_,e⟩
 . exact h1
theorem ga.lS{xs:List Nd}(h:ga xs){i:Nat}(hi:i<xs.length):ga (iK xs i):=by
 have h0:ga (fR xs i (fun x=>{ x with size:=1,first:=i,total:=IntKind.i64.wrap (1+x.iP) })):=h.iF hi fun x a b c d e=>⟨a,b,c,hi,e⟩
 have l0:(fR xs i (fun x=>{ x with size:=1,first:=i,total:=IntKind.i64.wrap (1+x.iP) })).length=xs.length:=gJ
 have a:=h.k0 i hi
 have b:=h.k1 i hi
 unfold iK
 exact(h0.mu o_ o_).mu (by rw[GK];omega) (by rw[GK];omega)
end Go.Sx
namespace Go.Sx
open Go
theorem om{p:Prop}(h:p:=by first|omega|(simp only[gJ];omega)):p:=h
theorem oa{p:Prop}(h:p:=by first|assumption|omega|(simp only[gJ];omega)):p:=h
theorem o9{p q:Prop}(h9:q)(h:q->p:=by intro h9;first|omega|(simp only[gJ]at h9 ⊢;omega)|(simp only[gJ]at h9;omega)|(simp only[gJ];omega)):p:=h h9
theorem iG{bs:List (World×List Nat)}{A:gh}{nb t m:Nat}{z:List Nd}{w:World}(hI:ga z)(hs:St bs [A,blk nb t (z.flatMap Nd.cells)] w)(hl:z.length=m:=by first|omega|(simp only[gJ];omega)|(rw[Dg];omega)|(rw[De];omega)|omega):∃ y,y=z/\y.length=m/\ga y/\St bs [A,blk nb t (y.flatMap Nd.cells)] w:=⟨z,rfl,hl,hI,hs⟩
section
variable {Γ:Type} {P:Program} {ops:Array Oper} {Q:Exit->Act->World->Prop} {n:Nat} {ds:List Deferred} {s0:List (Nat×Value)} {l0:List Oper} {pre:List (List Nat)} {mem:List Nat} {V:List (Γ->Value)} {bs:List (World×List Nat)} {Ls:List ((Γ->List gh)×(Γ->World->Prop))} {i:Nat} {s:Γ->List (Nat×Value)} {o:Oper} {l:List Oper} {v:Γ->Value} {vs:List (Γ->Value)}
theorem gp(h:∀ g w,(execOp (ev n (s g)) o).run P w = .ok (.value (v g)) w)(K:mq P ops Q n ds s0 l0 pre mem V (kg bs Ls) (i+1) (fun g=>jJ o.dst (v g) (s g)) l vs)(hm:mem.contains i=false:=by exact rfl)(hg:∀ g,gy ops n (s g) o.guard=true:=by exact fun _=>rfl)(hd:nr o.op=true:=by exact rfl) :
 mq P ops Q n ds s0 l0 pre mem V (kg bs Ls) i s (o :: l) (v :: vs):=aaO hm (fun g w C=>qv (hg g) hd (h g w)) K
end
section
variable {P:Program} {bs:List (World×List Nat)} {L LL A A' B:List gh} {R R' : gh} {w w' : World}
theorem St.tn(i:Nat)(h:St bs L w)(ht:gm R w w' R')(hi:L[i]? = some R:=by exact rfl)(hL:L.set i R' = LL:=by first|(dsimp only[List.set];exact rfl)|exact rfl):St bs LL w' := St.v7 i h hi ht hL
theorem St.tu(h:St bs (gF A :: B) w)(ht:gm (gF A) w w' (gF A')):St bs (A' ++ B) w' := (St.v7 0 h rfl ht rfl).unpack
theorem St.eT(h:St bs (R' :: L) w')(hb:(w,R.gT)∈bs:=by exact zh):gm R w w' R' := h.D9 hb
theorem St.eM(h:St bs (R :: L) w')(hb:(w,[])∈bs:=by simp):gm (gF []) w w' R:=h.BS hb
theorem en{f:FuncId}{fn:Func}{c:Code}{n:Nat}{vs:List Value}{R:Ending->World->Prop}(hf:P.funcs[f]? = some fn)(hn:fn.ntmps=n)(h:WP none P c (bodyPost P fn R) (Fr n (uM vs 0) []) w)(hb:fn.body=some c:=by exact rfl)(hs:Nat.ble vs.length n=true:=by exact rfl):Calls P f vs.toArray w R:=enter hf hb hn hs h
variable {ops:Array Oper} {Q:Exit->Act->World->Prop} {n:Nat} {s:List (Nat×Value)} {ds:List Deferred} {r d:Option Nat} {ty:TypeId} {pos:String} {af:Array Edge} {g:Option (Nat×Bool)} {rest:List Oper}
theorem cl{f:FuncId}{az:List Operand}{T:Array TypeId}{vl:List Value}{R:Value->World->Prop}(he:gC P f)(hc:CR P f vl.toArray w R)(K:∀ v w', R v w' -> WL r P ops Q rest (Fr n (jJ d v s) ds) w')(hg:gy ops n s g=true:=by exact rfl)(hvs:az.map (ev n s)=vl:=by exact rfl) :
 WL r P ops Q (⟨d,.call ⟨.value (.func f),az.toArray,T⟩,ty,pos,af,g⟩ :: rest) (Fr n s ds) w:=zA hg hvs he hc K
end
end Go.Sx
namespace Go.Sx
open Go
abbrev iM(k:IntKind)(e:Int×Value×Nat):MapEntry:=⟨.int k e.1,e.2.1,e.2.2⟩
def uI(b:Nat)(k:IntKind)(es:List (Int×Value×Nat))(iQ:Nat):gh where
 gT:=[b]
 holds w:=w.heap[b]? = some (.map (es.map (iM k)).toArray iQ)
 loc w w' h k:=(h b s_).trans k
def i7(ys:List Int):List (Int×Value×Nat):=ys.zipIdx.map fun p=>(p.1,.bool true,p.2)
abbrev iE(b:Nat)(k:IntKind)(ys:List Int):gh:=uI b k (i7 ys) ys.length
def gR(ys:List Int)(x:Int):List Int:=if ys.contains x then ys else ys++[x]
def ry(b:Nat)(k:IntKind)(ys:List Int)(x:Int):gh:=if ys.contains x then iE b k ys else uI b k (i7 ys++[(x,.bool false,ys.length)]) (ys.length+1)
theorem qT{ys:List Int}{j:Nat}{y:Int}(h:ys[j]? = some y):(i7 ys)[j]? = some (y,.bool true,j):=by simp[i7,h]
theorem xd(ys:List Int):(i7 ys).length=ys.length:=by simp[i7]
theorem LN(ys:List Int)(x:Int):i7 (ys++[x])=i7 ys++[(x,.bool true,ys.length)]:=by simp[i7,List.zipIdx_append]
theorem Eg{ys:List Int}{x:Int}(h:x∈ys):ys[ys.idxOf x]? = some x/\∀ (i:Nat) (y:Int),i<ys.idxOf x->ys[i]? = some y->y≠x:=by
 have hlt:=List.idxOf_lt_length_of_mem h
 refine⟨by rw[zo hlt,List.getElem_idxOf],fun i y hi hy e=>?_⟩
 have hil:i<ys.length:=by omega
 have hg:ys[i]=y:=by
  have:=(zb.1 hy).2
  exact this
 have:=List.not_of_lt_findIdx (p:=fun a=>a==x) (xs:=ys) (i:=i) hi
 rw[hg,e]at this
 simp at this
section
variable {P:Program} {k k' : IntKind} {x:Int} {es:List (Int×Value×Nat)}
theorem HQ:∀ {es:List (Int×Value×Nat)} {i:Nat},(∀ e∈es,e.1≠x)->Instr.findNow (.int k') (.int k x) (es.map (iM k)) i=some none:=by
 intro es
 induction es with
 | nil=>intro i _;rfl
 | cons e es ih =>
  intro i h
  have h1:(x==e.1)=false:=by
   have:=h e s_
   simp only[beq_eq_false_iff_ne,ne_eq]
   exact fun e' => this e'.symm
  simp only[zy,Instr.findNow,Instr.sameNow,if_true,h1]
  exact ih fun e he=>h e (by simp[he])
theorem HP:∀ {es:List (Int×Value×Nat)} {j i:Nat} {v:Value} {b:Nat},es[j]? = some (x,v,b)->(∀ (q:Nat) e,q<j->es[q]? = some e->e.1≠x)->Instr.findNow (.int k') (.int k x) (es.map (iM k)) i=some (some (i+j,v)):=by
 intro es
 induction es with
 | nil=>intro j i v b h;simp at h
 | cons e es ih =>
  intro j i v b h hq
  cases j with
  | zero =>
   simp at h
   subst h
   simp[Instr.findNow,Instr.sameNow]
  | succ j =>
   have h1:(x==e.1)=false:=by
    have:=hq 0 e o_ s_
    simp only[beq_eq_false_iff_ne,ne_eq]
    exact fun e' => this e'.symm
   simp only[zy,Instr.findNow,Instr.sameNow,if_true,h1]
   rw[ih (by simpa using h) fun q e hlt he=>hq (q+1) e o_ (by simpa using he)]
   rw[ko,Nat.add_comm 1 j]
theorem pM{kt:TypeId}(hk:P.underlying kt=some (.int k'))(em:Bool)(n:Nat)(v:Value)(w:World):(Instr.checkKey em (n+1) kt v).run P w = .ok () w:=by simp[Instr.checkKey,run_underlying hk]
theorem pP{kt:TypeId}{w:World}(hk:P.underlying kt=some (.int k')){l:List MapEntry}{v:Value}{q:Option (Nat×Value)}(h:Instr.findNow (.int k') v l 0=some q):(Instr.findKey kt v l).run P w = .ok q w:=by simp[Instr.findKey,run_underlying hk,h]
theorem uf{b iQ:Nat}{w:World}(h:(uI b k es iQ).holds w):(getObj b).run P w = .ok (.map (es.map (iM k)).toArray iQ) w:=by
 have h' : w.heap[b]? = some (.map (es.map (iM k)).toArray iQ):=h
 simp[getObj,Sem.run,h']
theorem Hy(x:Int)(w:World):(Instr.keyThatStays (.int k x) (.int k x)).run P w = .ok (.int k x) w:=by simp[Instr.keyThatStays,Instr.sameBits]
theorem GN{α:Type}{a:Array α}{i:Nat}{f:α->α}(h:∀ x,a[i]? = some x->f x=x):a.modify i f=a:=by
 apply Array.ext'
 apply nE
 intro j
 simp only[Bq,yF]
 by_cases hj:i=j
 . subst hj
   cases hx:a.toList[i]? with
   | none=>simp
   | some x=>simp[h x (by simpa using hx)]
 . simp[hj]
theorem Xh{b:Nat}(w:World)(o:Obj):gB [b] w { w with heap:=w.heap.setIfInBounds b o } :=
 ⟨rfl,rfl,rfl,s_,fun c hc hne=>by
  have:b≠c:=fun e=>hne (by simp[e])
  simp[Array.getElem?_setIfInBounds,this]⟩
theorem BT{b:Nat}(w:World)(o:Obj):gB [b] w (w.putObj b o) :=
 ⟨rfl,rfl,rfl,by simp[World.putObj],fun c hc hne=>by
  have:b≠c:=fun e=>hne (by simp[e])
  simp[World.putObj,Array.getElem?_setIfInBounds,this]⟩
theorem sW{b:Nat}{w:World}{o:Obj}{m0:Array MapEntry}{c0:Nat}(h:w.heap[b]? = some (.map m0 c0)):(setObj b o).run P w = .ok () (w.putObj b o)/\(w.putObj b o).heap[b]? = some o:=by
 have hlt:=(z8.1 h).1
 exact⟨by simp only[setObj,Sem.run,h,World.putObj],World.putObj_heap_same hlt⟩
end
section
variable {r:Option Nat} {P:Program} {ops:Array Oper} {Q:Exit->Act->World->Prop} {rest l:List Oper} {n:Nat} {s s0:List (Nat×Value)} {ds:List Deferred} {w w0:World} {Nx:Value->World->Prop}
variable {d:Nat} {dd:Option Nat} {ty:TypeId} {pos:String} {af:Array Edge} {g:Option (Nat×Bool)} {x y m:Operand} {bs:List (World×List Nat)} {L L' : List gh} {t e kt:TypeId} {b:Nat} {k k' : IntKind} {ys:List Int} {a:Int}
theorem St.tA{i:Nat}{R R' : gh}{o:Obj}(h:St bs L w)(hi:L[i]? = some R)(hf:R.gT=[b])(hf' : R'.gT=[b])(ho:∀ w' : World,w'.heap[b]? = some o->R'.holds w')(hlt:b<w.heap.size):St bs (L.set i R') (w.putObj b o):=by
 refine h.iF hi (by rw[hf];exact BT w o) (fun c hc=>.inl (by rw[hf];rwa [hf']at hc)) (by rw[hf'];simp) (fun c hc=>?_) (ho _ (World.putObj_heap_same hlt))
 rw[hf']at hc
 simp only[mj]at hc
 subst hc
 simpa[World.putObj]using hlt
theorem Q7{r' : Option Operand}(hg:gy ops n s g=true)(hr:r' = none)(hst:St bs L w)
 (K:∀ b w', w.heap.size<=b->gB [] w w' -> St bs (iE b k [] :: L) w' -> WL r P ops Q rest (Fr n ((d,.map (some b)) :: s) ds) w') :
 WL r P ops Q (⟨some d,.makeMap t r', ty,pos,af,g⟩ :: rest) (Fr n s ds) w:=by
 subst hr
 refine pv (v:=.map (some w.heap.size)) (w' := w.alloc (.map #[] 0)) hg rfl ?_ (K _ _ (zp _) (gB.alloc [] w _) ?_)
 . simp only[execOp,xY,Instr.makeMap]
   rfl
 . exact hst.q5 (gB.alloc [] w _) (fun b hb=>by simp[uI]at hb;omega) (by simp[uI]) (fun b hb=>by simp[uI]at hb;simp;omega) (heap_alloc_new w _)
theorem aak{by_:Nat}(i:Nat)(hm:ev n s m = .map (some b))(hx:ev n s x = .int k a)(ht:P.underlying t=some (.map kt e))(hk:P.underlying kt=some (.int k'))(he:TI P e 1 by_ (.bool false))(hst:St bs L w)(hL:L[i]? = some (iE b k ys)) :
 (execOp (ev n s) ⟨dd,.lookup t m x false,ty,pos,af,g⟩).run P w = .ok (.value (.bool (ys.contains a))) w:=by
 have hh:(iE b k ys).holds w:=hst.own _ (ze hL)
 cases hc:ys.contains a with
 | true =>
  have hin:=sO.1 hc
  obtain⟨h1,h2⟩:=Eg hin
  have hf:=pP (P:=P) (w:=w) hk (HP (k:=k) (k' := k') (i:=0) (qT h1) fun q e' hq he' => by
   cases hy:ys[q]? with
   | none=>simp[i7,hy]at he'
   | some y =>
    rw[qT hy]at he'
    cases he'
    exact h2 q y hq hy)
  simp only[execOp,hm,hx,Instr.lookup,zj,run_underlying ht,zd,zm,uf hh,pM hk,hf]
  simp
 | false =>
  have hf:=pP (P:=P) (w:=w) hk (HQ (k:=k) (k' := k') (x:=a) (es:=i7 ys) (i:=0) fun e' he' => by
   simp only[i7,jW]at he'
   obtain⟨p,hp,rfl⟩:=he'
   intro h9
   have:p.1∈ys:=(List.mem_zipIdx hp).2.2▸FH _
   rw[h9]at this
   rw[sO.2 this]at hc
   cases hc)
  simp only[execOp,hm,hx,Instr.lookup,zj,run_underlying ht,zd,zm,uf hh,pM hk,hf,he.s6]
  simp
theorem B3(i:Nat)(hx:ev n s x = .map (some b))(ht:P.underlying t=some (.map kt e))(hst:St bs L w)(hL:L[i]? = some (iE b k ys)) :
 (execOp (ev n s) ⟨dd,.call ⟨.builtin .len,#[x],#[t]⟩,ty,pos,af,g⟩).run P w = .ok (.value (.int .i64 (ys.length:Int))) w:=by
 have hh:(iE b k ys).holds w:=hst.own _ (ze hL)
 simp[execOp,resolve,invoke,builtin,hx,Builtin.len_,run_underlying ht,uf hh,i7,goInt]
theorem aaU(i:Nat)(hg:gy ops n s g=true)(hx:ev n s x = .map (some b))(ht:P.underlying t=some (.map kt e))(hst:St bs L w)(hL:L[i]? = some (iE b k ys))
 (K:WL r P ops Q rest (Fr n ((d,.int .i64 (ys.length:Int)) :: s) ds) w):WL r P ops Q (⟨some d,.call ⟨.builtin .len,#[x],#[t]⟩,ty,pos,af,g⟩ :: rest) (Fr n s ds) w:=pv hg rfl (B3 i hx ht hst hL) K
theorem map_lt{i:Nat}{es:List (Int×Value×Nat)}{iQ:Nat}(hst:St bs L w)(hL:L[i]? = some (uI b k es iQ)):b<w.heap.size:=hst.lt b (qm hL (by simp[uI]))
theorem ZO(i:Nat)(hm:ev n s m = .map (some b))(hx:ev n s x = .int k a)(hy:ev n s y = .bool true)(ht:P.underlying t=some (.map kt e))(hk:P.underlying kt=some (.int k'))(hst:St bs L w)(hL:L[i]? = some (iE b k ys))(hL' : L.set i (iE b k (gR ys a))=L') :
 ∃ w', (execOp (ev n s) ⟨dd,.mapUpdate t m x y,ty,pos,af,g⟩).run P w = .ok .skip w' /\ St bs L' w' := by
 subst hL'
 have hh:(iE b k ys).holds w:=hst.own _ (ze hL)
 have hlt:=map_lt hst hL
 cases hc:ys.contains a with
 | true =>
  have hin:=sO.1 hc
  obtain⟨h1,h2⟩:=Eg hin
  have hf:=pP (P:=P) (w:=w) hk (HP (k:=k) (k' := k') (i:=0) (qT h1) fun q e' hq he' => by
   cases hy:ys[q]? with
   | none=>simp[i7,hy]at he'
   | some y =>
    rw[qT hy]at he'
    cases he'
    exact h2 q y hq hy)
  refine⟨w.putObj b (.map ((i7 ys).map (iM k)).toArray ys.length),?_,hst.tA hL rfl rfl (fun w' h=>by simp only[gR,hc,if_true];exact h) hlt⟩
  have hg1:((i7 ys).map (iM k)).toArray[List.idxOf a ys]? = some (iM k (a,.bool true,List.idxOf a ys)):=by simp[qT h1]
  have hmod:(((i7 ys).map (iM k)).toArray.modify (0+List.idxOf a ys) fun e=>{ e with key:=.int k a,val:=.bool true })=((i7 ys).map (iM k)).toArray:=GN fun z hz=>by
   rw[jF,hg1]at hz
   cases hz
   rfl
  have hold:((((i7 ys).map (iM k)).toArray[0+List.idxOf a ys]?).map (·.key)).getD (.int k a) = .int k a:=by rw[jF,hg1];rfl
  simp only[execOp,hm,hx,hy,Instr.mapUpdate,zj,run_underlying ht,zd,zm,uf hh,pM hk,hf,hold,Hy,hmod,(sW hh).1]
 | false =>
  have hf:=pP (P:=P) (w:=w) hk (HQ (k:=k) (k' := k') (x:=a) (es:=i7 ys) (i:=0) fun e' he' => by
   simp only[i7,jW]at he'
   obtain⟨p,hp,rfl⟩:=he'
   intro h9
   have:p.1∈ys:=(List.mem_zipIdx hp).2.2▸FH _
   rw[h9]at this
   rw[sO.2 this]at hc
   cases hc)
  refine⟨w.putObj b (.map ((i7 (ys++[a])).map (iM k)).toArray (ys.length+1)),?_,hst.tA hL rfl rfl (fun w' h=>by simp only[gR,hc];show w'.heap[b]? = _;rw[h];simp) hlt⟩
  have hp:(((i7 ys).map (iM k)).toArray.push ⟨.int k a,.bool true,ys.length⟩)=((i7 (ys++[a])).map (iM k)).toArray:=by rw[LN];simp
  simp only[execOp,hm,hx,hy,Instr.mapUpdate,zj,run_underlying ht,zd,zm,uf hh,pM hk,hf,hp,(sW hh).1]
theorem Y3(i:Nat)(hg:gy ops n s g=true)(hm:ev n s m = .map (some b))(hx:ev n s x = .int k a)(hy:ev n s y = .bool true)(ht:P.underlying t=some (.map kt e))(hk:P.underlying kt=some (.int k'))(hst:St bs L w)(hL:L[i]? = some (iE b k ys))(hL' : L.set i (iE b k (gR ys a))=L')
 (K:∀ w', St bs L' w' -> Nx undef w'):lB P ops Q n ds s0 l ⟨none,.mapUpdate t m x y,ty,pos,af,g⟩ s Nx w:=by
 obtain⟨w', h1,h2⟩:=ZO (dd:=none) (ty:=ty) (pos:=pos) (af:=af) (g:=g) i hm hx hy ht hk hst hL hL'
 exact A7 hg rfl h1 (K w' h2)
abbrev q7(ys:List Int)(a:Int):Int:=((gR ys a).idxOf a:Nat)
theorem PN{by_:Nat}(i:Nat)(hg:gy ops n s g=true)(hm:ev n s m = .map (some b))(hx:ev n s x = .int k a)(ht:P.underlying t=some (.map kt e))(hk:P.underlying kt=some (.int k'))(he:TI P e 1 by_ (.bool false))(hst:St bs L w)(hL:L[i]? = some (iE b k ys))(hL' : L.set i (ry b k ys a)=L')
 (K:∀ w', St bs L' w' -> Nx (.tuple #[.bool (ys.contains a),.int .i64 (q7 ys a)]) w'):lB P ops Q n ds s0 l ⟨dd,.mapEntry t m x,ty,pos,af,g⟩ s Nx w:=by
 subst hL'
 have hh:(iE b k ys).holds w:=hst.own _ (ze hL)
 have hlt:=map_lt hst hL
 cases hc:ys.contains a with
 | true =>
  rw[hc]at K
  have hin:=sO.1 hc
  obtain⟨h1,h2⟩:=Eg hin
  have hf:=pP (P:=P) (w:=w) hk (HP (k:=k) (k' := k') (i:=0) (qT h1) fun q e' hq he' => by
   cases hy:ys[q]? with
   | none=>simp[i7,hy]at he'
   | some y =>
    rw[qT hy]at he'
    cases he'
    exact h2 q y hq hy)
  have hg1:((i7 ys).map (iM k)).toArray[List.idxOf a ys]? = some (iM k (a,.bool true,List.idxOf a ys)):=by simp[qT h1]
  have hmod:(((i7 ys).map (iM k)).toArray.modify (0+List.idxOf a ys) fun e=>{ e with key:=.int k a })=((i7 ys).map (iM k)).toArray:=GN fun z hz=>by
   rw[jF,hg1]at hz
   cases hz
   rfl
  have hold:((((i7 ys).map (iM k)).toArray[0+List.idxOf a ys]?).map (·.key)).getD (.int k a) = .int k a:=by rw[jF,hg1];rfl
  have hborn:((((i7 ys).map (iM k)).toArray[0+List.idxOf a ys]?).map (fun x=>(x.born:Int))).getD 0=((List.idxOf a ys:Nat):Int):=by rw[jF,hg1];rfl
  refine wB (v:=.tuple #[.bool true,.int .i64 (q7 ys a)]) (w' := w.putObj b (.map ((i7 ys).map (iM k)).toArray ys.length)) hg rfl ?_ (K _ (hst.tA hL rfl (by simp only[ry,hc,if_true];rfl) (fun w' h=>by simp only[ry,hc,if_true];exact h) hlt))
  simp only[execOp,hm,hx,Instr.mapEntry,zj,run_underlying ht,zd,zm,uf hh,pM hk,hf,hold,hborn,Hy,hmod,(sW hh).1,goInt,q7,gR,hc,if_true]
 | false =>
  rw[hc]at K
  have hnot:a∉ys:=fun h=>by rw[sO.2 h]at hc;cases hc
  have hf:=pP (P:=P) (w:=w) hk (HQ (k:=k) (k' := k') (x:=a) (es:=i7 ys) (i:=0) fun e' he' => by
   simp only[i7,jW]at he'
   obtain⟨p,hp,rfl⟩:=he'
   intro h9
   have:p.1∈ys:=(List.mem_zipIdx hp).2.2▸FH _
   rw[h9]at this
   exact hnot this)
  refine wB (v:=.tuple #[.bool false,.int .i64 (q7 ys a)]) (w' := w.putObj b (.map ((i7 ys++[(a,Value.bool false,ys.length)]).map (iM k)).toArray (ys.length+1))) hg rfl ?_ (K _ (hst.tA hL rfl (by simp only[ry,hc];rfl) (fun w' h=>by simp only[ry,hc];exact h) hlt))
  have hp:(((i7 ys).map (iM k)).toArray.push ⟨.int k a,.bool false,ys.length⟩)=((i7 ys++[(a,Value.bool false,ys.length)]).map (iM k)).toArray:=by simp
  have hsx:(List.idxOf a (ys++[a]):Nat)=ys.length:=by simp[List.idxOf_append,hnot]
  simp only[execOp,hm,hx,Instr.mapEntry,zj,run_underlying ht,zd,zm,uf hh,pM hk,hf,he.s6,hp,(sW hh).1,goInt,q7,gR,hc]
  simp[hsx]
theorem Uv{ys:List Int}{j:Nat}(h:j<ys.length)(v:Value)(rest:List (Int×Value×Nat)):((i7 ys++rest).map (iM k)).toArray.findIdx? (fun e=>(e.born:Int)==(j:Int))=some j:=by
 rw[K5,List.findIdx?_map,List.findIdx?_eq_some_iff_getElem]
 have hl:j<(i7 ys++rest).length:=by simp[xd];omega
 refine⟨hl,?_,fun i hi=>?_⟩
 . obtain⟨y,hy⟩:=ov h
   have:=(zb.1 (qT hy)).2
   simp[FX (show j<(i7 ys).length by rw[xd];exact h),this]
 . obtain⟨y,hy⟩:=ov (show i<ys.length by omega)
   have:=(zb.1 (qT hy)).2
   simp[FX (show i<(i7 ys).length by rw[xd];omega),this]
   omega
theorem O7(i:Nat)(hg:gy ops n s g=true)(hm:ev n s m = .map (some b))(hx:ev n s x = .int .i64 (q7 ys a))(hy:ev n s y = .bool true)(hst:St bs L w)(hL:L[i]? = some (ry b k ys a))(hL' : L.set i (iE b k (gR ys a))=L')
 (K:∀ w', St bs L' w' -> Nx undef w'):lB P ops Q n ds s0 l ⟨none,.entryStore t m x y,ty,pos,af,g⟩ s Nx w:=by
 subst hL'
 cases hc:ys.contains a with
 | true =>
  simp only[ry,hc,if_true]at hL
  have hin:=sO.1 hc
  obtain⟨h1,h2⟩:=Eg hin
  have hh:(iE b k ys).holds w:=hst.own _ (ze hL)
  have hlt:=map_lt hst hL
  have hj:ys.idxOf a<ys.length:=List.idxOf_lt_length_of_mem hin
  have hf:=Uv (k:=k) hj (.bool true) []
  rw[mD]at hf
  have hg1:((i7 ys).map (iM k)).toArray[List.idxOf a ys]? = some (iM k (a,.bool true,List.idxOf a ys)):=by simp[qT h1]
  have hmod:(((i7 ys).map (iM k)).toArray.modify (List.idxOf a ys) fun e=>{ e with val:=.bool true })=((i7 ys).map (iM k)).toArray:=GN fun z hz=>by
   rw[hg1]at hz
   cases hz
   rfl
  refine A7 (w' := w.putObj b (.map ((i7 ys).map (iM k)).toArray ys.length)) hg rfl ?_ (K _ (hst.tA hL rfl rfl (fun w' h=>by simp only[gR,hc,if_true];exact h) hlt))
  simp only[q7,gR,hc,if_true]at hx
  simp only[execOp,hm,hx,hy,Instr.entryStore,zj,zd,zm,uf hh,asInt,asIntOf,hf,hmod,(sW hh).1]
 | false =>
  simp only[ry,hc]at hL
  have hnot:a∉ys:=fun h=>by rw[sO.2 h]at hc;cases hc
  have hh:(uI b k (i7 ys++[(a,Value.bool false,ys.length)]) (ys.length+1)).holds w:=hst.own _ (ze hL)
  have hlt:=map_lt hst hL
  have hsx:(List.idxOf a (ys++[a]):Nat)=ys.length:=by simp[List.idxOf_append,hnot]
  have hf:((i7 ys++[(a,Value.bool false,ys.length)]).map (iM k)).toArray.findIdx? (fun e=>(e.born:Int)==((ys.length:Nat):Int))=some ys.length:=by
   rw[K5,List.findIdx?_map,List.findIdx?_eq_some_iff_getElem]
   refine⟨by simp[xd],by simp[List.getElem_append_right,xd],fun i hi=>?_⟩
   obtain⟨y,hy⟩:=ov hi
   have:=(zb.1 (qT hy)).2
   simp[FX (show i<(i7 ys).length by rw[xd];omega),this]
   omega
  have hmod:(((i7 ys++[(a,Value.bool false,ys.length)]).map (iM k)).toArray.modify ys.length fun e=>{ e with val:=.bool true })=((i7 (ys++[a])).map (iM k)).toArray:=by
   rw[LN]
   apply Array.ext'
   apply nE
   intro j
   simp only[Bq,yF,kX,qM,yQ,zu,xd]
   by_cases hj:ys.length=j
   . subst hj;simp
   . simp only[if_neg hj]
     by_cases hlt:j<ys.length
     . simp[hlt]
     . have:j-ys.length≠0:=by omega
       simp[hlt,this]
  refine A7 (w' := w.putObj b (.map ((i7 (ys++[a])).map (iM k)).toArray (ys.length+1))) hg rfl ?_ (K _ (hst.tA hL rfl rfl (fun w' h=>by simp only[gR,hc];show w'.heap[b]? = _;rw[h];simp) hlt))
  simp only[q7,gR,hc]at hx
  simp only[rN,if_false,hsx]at hx
  simp only[execOp,hm,hx,hy,Instr.entryStore,zj,zd,zm,uf hh,asInt,asIntOf,hf,hmod,(sW hh).1]
end
end Go.Sx
namespace Go.Sx
open Go
section
variable {γ:Type}
def ig:List (Int×γ)->Int->Option γ
 | [],_=>none
 | (b,y) :: m,a=>if b=a then some y else ig m a
def gi:List (Int×γ)->Int->γ->List (Int×γ)
 | [],a,x=>[(a,x)]
 | (b,y) :: m,a,x=>if b=a then(a,x) :: m else(b,y) :: gi m a x
def gH:List (Int×γ)->Int->List (Int×γ)
 | [],_=>[]
 | (b,y) :: m,a=>if b=a then m else(b,y) :: gH m a
def fU[Inhabited γ](m:List (Int×γ))(a:Int):γ:=(ig m a).getD default
def gQ(b:Nat)(k:IntKind)(enc:γ->Value)(m:List (Int×γ)):gh where
 gT:=[b]
 holds w:=∃ (es:List (Int×Value×Nat)) (iQ:Nat),w.heap[b]? = some (.map (es.map (iM k)).toArray iQ)/\es.map (fun e=>(e.1,e.2.1))=m.map (fun p=>(p.1,enc p.2))/\(es.map (fun e=>e.2.2)).Nodup/\∀ e∈es,e.2.2<iQ
 loc w w' h hh:=by
  obtain⟨es,iQ,h1,h2⟩:=hh
  exact⟨es,iQ,(h b s_).trans h1,h2⟩
theorem zJ(m:List (Int×γ))(a c:Int)(x:γ):ig (gi m a x) c=if a=c then some x else ig m c:=by
 induction m with
 | nil=>simp[gi,ig]
 | cons p m ih =>
  obtain⟨b,y⟩:=p
  simp only[gi]
  by_cases h:b=a
  . subst h
    rw[if_pos rfl]
    simp only[ig]
    split<;>rfl
  . rw[if_neg h]
    simp only[ig,ih]
    by_cases h1:b=c
    . rw[if_pos h1,if_neg (fun e=>h (h1.trans e.symm)),if_pos h1]
    . rw[if_neg h1,if_neg h1]
theorem Hw{m:List (Int×γ)}(hn:(m.map Prod.fst).Nodup)(a c:Int):ig (gH m a) c=if a=c then none else ig m c:=by
 induction m with
 | nil=>simp[gH,ig]
 | cons p m ih =>
  obtain⟨b,y⟩:=p
  simp only[zy,zx]at hn
  simp only[gH]
  by_cases h:b=a
  . subst h
    rw[if_pos rfl]
    by_cases h1:b=c
    . subst h1
      rw[if_pos rfl]
      have:∀ (l:List (Int×γ)),b∉l.map Prod.fst->ig l b=none:=by
       intro l
       induction l with
       | nil=>intro _;rfl
       | cons q l ih2 =>
        intro hq
        simp only[zy,zg,not_or]at hq
        simp only[ig]
        rw[if_neg (fun e=>hq.1 e.symm)]
        exact ih2 hq.2
      exact this m hn.1
    . rw[if_neg h1]
      simp only[ig]
      rw[if_neg h1]
  . rw[if_neg h]
    simp only[ig,ih hn.2]
    by_cases h1:b=c
    . rw[if_pos h1,if_neg (fun e=>h (h1.trans e.symm)),if_pos h1]
    . rw[if_neg h1,if_neg h1]
theorem Nv{m:List (Int×γ)}{a:Int}{x:γ}(h:ig m a=some x):(a,x)∈m:=by
 induction m with
 | nil=>simp[ig]at h
 | cons p m ih =>
  obtain⟨b,y⟩:=p
  simp only[ig]at h
  split at h
  . rename_i e
    cases h
    subst e
    simp
  . exact mQ _ (ih h)
theorem Dw{m:List (Int×γ)}{a:Int}:ig m a=none↔a∉m.map Prod.fst:=by
 induction m with
 | nil=>simp[ig]
 | cons p m ih =>
  obtain⟨b,y⟩:=p
  simp only[ig,zy,zg,not_or]
  split
  . rename_i e
    simp[e]
  . rename_i e
    rw[ih]
    exact⟨fun h=>⟨fun e' => e e'.symm,h⟩,fun h=>h.2⟩
theorem Lp{m:List (Int×γ)}(hn:(m.map Prod.fst).Nodup){a:Int}{x:γ}(h:(a,x)∈m):ig m a=some x:=by
 induction m with
 | nil=>simp at h
 | cons p m ih =>
  obtain⟨b,y⟩:=p
  simp only[zy,zx]at hn
  simp only[ig]
  rcases zg.1 h with e|h
  . cases e
    simp
  . rw[if_neg (fun e=>hn.1 (by rw[e];exact jW.2 ⟨_,h,rfl⟩))]
    exact ih hn.2 h
theorem Us(m:List (Int×γ))(a:Int)(x:γ):(gi m a x).map Prod.fst=if a∈m.map Prod.fst then m.map Prod.fst else m.map Prod.fst++[a]:=by
 induction m with
 | nil=>simp[gi]
 | cons p m ih =>
  obtain⟨b,y⟩:=p
  simp only[gi]
  by_cases h:b=a
  . subst h
    simp
  . rw[if_neg h]
    simp only[zy,ih,zg]
    by_cases h1:a∈m.map Prod.fst
    . rw[if_pos h1,if_pos (.inr h1)]
    . rw[if_neg h1,if_neg (fun h2=>h2.elim (fun e=>h e.symm) h1)]
      rfl
theorem Dl{m:List (Int×γ)}(hn:(m.map Prod.fst).Nodup)(a:Int)(x:γ):((gi m a x).map Prod.fst).Nodup:=by
 rw[Us]
 split
 . exact hn
 . rename_i h
   rw[zw]
   exact⟨hn,s_,fun c hc d hd e=>by simp at hd;subst hd;subst e;exact h hc⟩
theorem HM(m:List (Int×γ))(a:Int):(gH m a).Sublist m:=by
 induction m with
 | nil=>exact List.Sublist.slnil
 | cons p m ih =>
  obtain⟨b,y⟩:=p
  simp only[gH]
  split
  . exact Kk _ _
  . exact List.Sublist.cons_cons _ ih
theorem LQ{m:List (Int×γ)}(hn:(m.map Prod.fst).Nodup)(a:Int):((gH m a).map Prod.fst).Nodup:=hn.sublist ((HM m a).map _)
end
section
variable {γ:Type} {enc:γ->Value} {P:Program} {k k' : IntKind} {a:Int}
theorem Dt(k k' : IntKind)(a:Int):∀ (es:List (Int×Value×Nat)) (m:List (Int×γ)) (i:Nat),es.map (fun e=>(e.1,e.2.1))=m.map (fun p=>(p.1,enc p.2)) ->
 (ig m a=none/\Instr.findNow (.int k') (.int k a) (es.map (iM k)) i=some none/\(∀ y,gi m a y=m++[(a,y)])/\gH m a=m) \/
 (∃ j x e,ig m a=some x/\es[j]? = some e/\e.1=a/\Instr.findNow (.int k') (.int k a) (es.map (iM k)) i=some (some (i+j,enc x)) /\
  (∀ y,(es.set j (a,enc y,e.2.2)).map (fun e=>(e.1,e.2.1))=(gi m a y).map (fun p=>(p.1,enc p.2)))/\(es.eraseIdx j).map (fun e=>(e.1,e.2.1))=(gH m a).map (fun p=>(p.1,enc p.2))):=by
 intro es
 induction es with
 | nil =>
  intro m i h
  cases m with
  | cons p m=>simp at h
  | nil=>exact .inl ⟨rfl,rfl,fun _=>rfl,rfl⟩
 | cons e es ih =>
  intro m i h
  cases m with
  | nil=>simp at h
  | cons p m =>
   obtain⟨b,y⟩:=p
   simp only[zy,List.cons.injEq]at h
   obtain⟨h0,h1⟩:=h
   have h2:e.1=b:=congrArg Prod.fst h0
   have h3:e.2.1=enc y:=congrArg Prod.snd h0
   by_cases hb:b=a
   . refine .inr ⟨0,y,e,by simp[ig,hb],rfl,h2.trans hb,?_,fun y' => ?_,?_⟩
     . have:(a==e.1)=true:=by rw[h2,hb];simp
       simp only[zy,Instr.findNow,Instr.sameNow,if_true,this,h3,nF]
     . simp[gi,hb,h1]
     . simp[gH,hb,h1]
   . have hne:(a==e.1)=false:=by
      rw[h2]
      simp only[beq_eq_false_iff_ne,ne_eq]
      exact fun e' => hb e'.symm
     rcases ih m (i+1) h1 with ⟨g1,g2,g3,g4⟩|⟨j,x,e', g1,g2,g3,g4,g5,g6⟩
     . refine .inl ⟨by simp[ig,hb,g1],?_,fun y' => by simp[gi,hb,g3],by simp[gH,hb,g4]⟩
       simp only[zy,Instr.findNow,Instr.sameNow,if_true,hne]
       exact g2
     . refine .inr ⟨j+1,x,e', by simp[ig,hb,g1],by simpa using g2,g3,?_,fun y' => ?_,?_⟩
       . simp only[zy,Instr.findNow,Instr.sameNow,if_true,hne]
         rw[g4,ko,Nat.add_comm 1 j]
       . simp only[List.set_cons_succ,zy,g5,gi,if_neg hb,h2,h3]
       . simp only[List.eraseIdx_cons_succ,zy,g6,gH,if_neg hb,h2,h3]
theorem SZ{es:List (Int×Value×Nat)}{j:Nat}{e:Int×Value×Nat}{v:Value}(h:es[j]? = some e)(he:e.1=a) :
 ((es.map (iM k)).toArray.modify j fun q=>{ q with key:=.int k a,val:=v })=((es.set j (a,v,e.2.2)).map (iM k)).toArray:=by
 apply Array.ext'
 apply nE
 intro q
 simp only[Bq,yF,kX,sG]
 by_cases hq:j=q
 . subst hq
   obtain⟨hl,rfl⟩:=zb.1 h
   simp[hl]
 . simp[hq]
theorem Dd{α β:Type}(f:α->β):∀ (l:List α) (j:Nat),(l.map f).eraseIdx j=(l.eraseIdx j).map f
 | [],_=>rfl
 | _ :: _,0=>rfl
 | a :: l,j+1=>by simp[Dd f l j]
theorem TJ{es:List (Int×Value×Nat)}{j:Nat}:((es.map (iM k)).toArray.eraseIdxIfInBounds j)=((es.eraseIdx j).map (iM k)).toArray:=by
 by_cases h:j<es.length
 . rw[Array.eraseIdxIfInBounds,dif_pos (by simpa using h)]
   simp[Dd]
 . rw[Array.eraseIdxIfInBounds,dif_neg (by simpa using h),List.eraseIdx_of_length_le o_]
end
section
variable {γ:Type} {enc:γ->Value}
variable {r:Option Nat} {P:Program} {ops:Array Oper} {Q:Exit->Act->World->Prop} {rest l:List Oper} {n:Nat} {s s0:List (Nat×Value)} {ds:List Deferred} {w w0:World} {Nx:Value->World->Prop}
variable {d:Nat} {dd:Option Nat} {ty:TypeId} {pos:String} {af:Array Edge} {g:Option (Nat×Bool)} {x y m:Operand} {bs:List (World×List Nat)} {L L' : List gh} {t e kt:TypeId} {b sz by_:Nat} {k k' : IntKind} {mm:List (Int×γ)} {a:Int} {z v:Value} {c:γ}
theorem IB{i:Nat}(hst:St bs L w)(hL:L[i]? = some (gQ b k enc mm)):b<w.heap.size:=hst.lt b (qm hL (by simp[gQ]))
theorem vC{es:List (Int×Value×Nat)}{iQ:Nat}(h:w.heap[b]? = some (.map (es.map (iM k)).toArray iQ)):(getObj b).run P w = .ok (.map (es.map (iM k)).toArray iQ) w:=by
 simp[getObj,Sem.run,h]
theorem mkV{r' : Option Operand}(enc:γ->Value)(k:IntKind)(hg:gy ops n s g=true)(hr:r' = none)(hst:St bs L w)
 (K:∀ b w', w.heap.size<=b->gB [] w w' -> St bs (gQ b k enc [] :: L) w' -> WL r P ops Q rest (Fr n ((d,.map (some b)) :: s) ds) w') :
 WL r P ops Q (⟨some d,.makeMap t r', ty,pos,af,g⟩ :: rest) (Fr n s ds) w:=by
 subst hr
 refine pv (v:=.map (some w.heap.size)) (w' := w.alloc (.map #[] 0)) hg rfl ?_ (K _ _ (zp _) (gB.alloc [] w _) ?_)
 . simp only[execOp,xY,Instr.makeMap]
   rfl
 . exact hst.q5 (gB.alloc [] w _) (fun b hb=>by simp[gQ]at hb;omega) (by simp[gQ]) (fun b hb=>by simp[gQ]at hb;simp;omega) ⟨[],0,heap_alloc_new w _,rfl,s_,s_⟩
section
variable [Inhabited γ]
theorem X3(i:Nat)(hm:ev n s m = .map (some b))(hx:ev n s x = .int k a)(ht:P.underlying t=some (.map kt e))(hk:P.underlying kt=some (.int k'))(he:TI P e sz by_ z)(hz:enc default=z)(hst:St bs L w)(hL:L[i]? = some (gQ b k enc mm)) :
 (execOp (ev n s) ⟨dd,.lookup t m x true,ty,pos,af,g⟩).run P w = .ok (.value (.tuple #[enc (fU mm a),.bool (ig mm a).isSome])) w:=by
 obtain⟨es,iQ,h1,h2,h3,h4⟩:(gQ b k enc mm).holds w:=hst.own _ (ze hL)
 rcases Dt k k' a es mm 0 h2 with ⟨g1,g2,_⟩|⟨j,x', e', g1,_,_,g4,_⟩
 . have hf:=pP (P:=P) (w:=w) hk g2
   simp only[execOp,hm,hx,Instr.lookup,zj,run_underlying ht,zd,zm,vC h1,pM hk,hf,he.s6]
   simp[fU,g1,hz]
 . have hf:=pP (P:=P) (w:=w) hk g4
   simp only[execOp,hm,hx,Instr.lookup,zj,run_underlying ht,zd,zm,vC h1,pM hk,hf]
   simp[fU,g1]
theorem tq(i:Nat)(hm:ev n s m = .map (some b))(hx:ev n s x = .int k a)(ht:P.underlying t=some (.map kt e))(hk:P.underlying kt=some (.int k'))(he:TI P e sz by_ z)(hz:enc default=z)(hst:St bs L w)(hL:L[i]? = some (gQ b k enc mm)) :
 (execOp (ev n s) ⟨dd,.lookup t m x false,ty,pos,af,g⟩).run P w = .ok (.value (enc (fU mm a))) w:=by
 obtain⟨es,iQ,h1,h2,h3,h4⟩:(gQ b k enc mm).holds w:=hst.own _ (ze hL)
 rcases Dt k k' a es mm 0 h2 with ⟨g1,g2,_⟩|⟨j,x', e', g1,_,_,g4,_⟩
 . have hf:=pP (P:=P) (w:=w) hk g2
   simp only[execOp,hm,hx,Instr.lookup,zj,run_underlying ht,zd,zm,vC h1,pM hk,hf,he.s6]
   simp[fU,g1,hz]
 . have hf:=pP (P:=P) (w:=w) hk g4
   simp only[execOp,hm,hx,Instr.lookup,zj,run_underlying ht,zd,zm,vC h1,pM hk,hf]
   simp[fU,g1]
theorem aaI(i:Nat)(hg:gy ops n s g=true)(hm:ev n s m = .map (some b))(hx:ev n s x = .int k a)(ht:P.underlying t=some (.map kt e))(hk:P.underlying kt=some (.int k'))(he:TI P e sz by_ z)(hz:enc default=z)(hst:St bs L w)(hL:L[i]? = some (gQ b k enc mm))
 (K:WL r P ops Q rest (Fr n ((d,.tuple #[enc (fU mm a),.bool (ig mm a).isSome]) :: s) ds) w):WL r P ops Q (⟨some d,.lookup t m x true,ty,pos,af,g⟩ :: rest) (Fr n s ds) w:=pv hg rfl (X3 i hm hx ht hk he hz hst hL) K
theorem AR(i:Nat)(hg:gy ops n s g=true)(hm:ev n s m = .map (some b))(hx:ev n s x = .int k a)(ht:P.underlying t=some (.map kt e))(hk:P.underlying kt=some (.int k'))(he:TI P e sz by_ z)(hz:enc default=z)(hst:St bs L w)(hL:L[i]? = some (gQ b k enc mm))
 (K:WL r P ops Q rest (Fr n ((d,enc (fU mm a)) :: s) ds) w):WL r P ops Q (⟨some d,.lookup t m x false,ty,pos,af,g⟩ :: rest) (Fr n s ds) w:=pv hg rfl (tq i hm hx ht hk he hz hst hL) K
end
theorem PA(i:Nat)(hm:ev n s m = .map (some b))(hx:ev n s x = .int k a)(hy:ev n s y=enc c)(ht:P.underlying t=some (.map kt e))(hk:P.underlying kt=some (.int k'))(hst:St bs L w)(hL:L[i]? = some (gQ b k enc mm))(hL' : L.set i (gQ b k enc (gi mm a c))=L') :
 ∃ w', (execOp (ev n s) ⟨dd,.mapUpdate t m x y,ty,pos,af,g⟩).run P w = .ok .skip w' /\ St bs L' w' /\ gB [b] w w' := by
 subst hL'
 obtain⟨es,iQ,h1,h2,h3,h4⟩:(gQ b k enc mm).holds w:=hst.own _ (ze hL)
 have hlt:=IB hst hL
 rcases Dt k k' a es mm 0 h2 with ⟨g1,g2,g3,_⟩|⟨j,x', e', g1,g2,g3,g4,g5,_⟩
 . have hf:=pP (P:=P) (w:=w) hk g2
   have hp:((es.map (iM k)).toArray.push ⟨.int k a,enc c,iQ⟩)=((es++[(a,enc c,iQ)]).map (iM k)).toArray:=by simp
   refine⟨w.putObj b (.map ((es++[(a,enc c,iQ)]).map (iM k)).toArray (iQ+1)),?_,hst.tA hL rfl rfl (fun w' h=>⟨_,_,h,by rw[g3];simp[h2],?_,?_⟩) hlt,BT w _⟩
   . simp only[execOp,hm,hx,hy,Instr.mapUpdate,zj,run_underlying ht,zd,zm,vC h1,pM hk,hf,hp,(sW h1).1]
   . rw[qM,zw]
     refine⟨h3,s_,fun q hq q' hq' e'' => ?_⟩
     simp at hq'
     subst hq' e''
     obtain⟨p,hp,hpe⟩:=jW.1 hq
     have:=h4 p hp
     omega
   . intro p hp
     rcases zr.1 hp with hp|hp
     . have:=h4 p hp;omega
     . simp at hp;subst hp;simp
 . have hf:=pP (P:=P) (w:=w) hk g4
   have hg1:((es.map (iM k)).toArray[j]?).map (·.key)=some (.int k a):=by simp[g2,g3]
   refine⟨w.putObj b (.map ((es.set j (a,enc c,e'.2.2)).map (iM k)).toArray iQ),?_,hst.tA hL rfl rfl (fun w' h=>⟨_,_,h,g5 c,?_,?_⟩) hlt,BT w _⟩
   . simp only[execOp,hm,hx,hy,Instr.mapUpdate,zj,run_underlying ht,zd,zm,vC h1,pM hk,hf,jF,hg1,Bp,Hy]
     rw[SZ g2 g3]
     simp only[(sW h1).1,zm,zd]
   . have:(es.set j (a,enc c,e'.2.2)).map (fun e=>e.2.2)=es.map (fun e=>e.2.2):=by
      rw[List.map_set]
      have hj:=(zb.1 g2).1
      apply nE
      intro q
      rw[sG]
      split
      . rename_i e''
        subst e''
        rw[if_pos (by simpa using hj),kX,g2]
        rfl
      . rfl
     rw[this]
     exact h3
   . intro p hp
     rcases KP hp with hp|hp
     . exact h4 p hp
     . subst hp
       exact h4 e' (ze g2)
theorem Gv(i:Nat)(hg:gy ops n s g=true)(hm:ev n s m = .map (some b))(hx:ev n s x = .int k a)(hy:ev n s y=enc c)(ht:P.underlying t=some (.map kt e))(hk:P.underlying kt=some (.int k'))(hst:St bs L w)(hL:L[i]? = some (gQ b k enc mm))(hL' : L.set i (gQ b k enc (gi mm a c))=L')
 (K:∀ w', St bs L' w' -> WL r P ops Q rest (Fr n s ds) w'):WL r P ops Q (⟨none,.mapUpdate t m x y,ty,pos,af,g⟩ :: rest) (Fr n s ds) w:=by
 obtain⟨w', h1,h2,_⟩:=PA (dd:=none) (ty:=ty) (pos:=pos) (af:=af) (g:=g) i hm hx hy ht hk hst hL hL'
 exact zQ hg rfl h1 (K w' h2)
theorem xG(i:Nat)(hg:gy ops n s g=true)(hm:ev n s m = .map (some b))(hx:ev n s x = .int k a)(hy:ev n s y=enc c)(ht:P.underlying t=some (.map kt e))(hk:P.underlying kt=some (.int k'))(hst:St bs L w)(hL:L[i]? = some (gQ b k enc mm))(hL' : L.set i (gQ b k enc (gi mm a c))=L')
 (K:∀ w', St bs L' w' -> Nx undef w'):lB P ops Q n ds s0 l ⟨none,.mapUpdate t m x y,ty,pos,af,g⟩ s Nx w:=by
 obtain⟨w', h1,h2,_⟩:=PA (dd:=none) (ty:=ty) (pos:=pos) (af:=af) (g:=g) i hm hx hy ht hk hst hL hL'
 exact A7 hg rfl h1 (K w' h2)
theorem Po{t' : TypeId}(i:Nat)(hm:ev n s m = .map (some b))(hx:ev n s x = .int k a)(ht:P.underlying t=some (.map kt e))(hk:P.underlying kt=some (.int k'))(hst:St bs L w)(hL:L[i]? = some (gQ b k enc mm))(hL' : L.set i (gQ b k enc (gH mm a))=L') :
 ∃ w', (execOp (ev n s) ⟨dd,.call ⟨.builtin .delete,#[m,x],#[t,t']⟩,ty,pos,af,g⟩).run P w = .ok (.value (.tuple #[])) w' /\ St bs L' w' /\ gB [b] w w' := by
 subst hL'
 obtain⟨es,iQ,h1,h2,h3,h4⟩:(gQ b k enc mm).holds w:=hst.own _ (ze hL)
 have hlt:=IB hst hL
 rcases Dt k k' a es mm 0 h2 with ⟨g1,g2,_,g3⟩|⟨j,x', e', g1,g2,g3,g4,_,g5⟩
 . have hf:=pP (P:=P) (w:=w) hk g2
   refine⟨w.putObj b (.map (es.map (iM k)).toArray iQ),?_,hst.tA hL rfl rfl (fun w' h=>⟨_,_,h,by rw[g3];exact h2,h3,h4⟩) hlt,BT w _⟩
   simp only[execOp,resolve,invoke,builtin,zj,zm,zd,FR,zy,yK,hm,hx]
   simp only[Builtin.delete_]
   simp only[rH,List.getElem?_cons_zero,List.getElem?_cons_succ,zj,run_underlying ht,zd,vC h1,pM hk,hf,(sW h1).1,zm]
 . have hf:=pP (P:=P) (w:=w) hk g4
   refine⟨w.putObj b (.map ((es.eraseIdx j).map (iM k)).toArray iQ),?_,hst.tA hL rfl rfl (fun w' h=>⟨_,_,h,g5,h3.sublist ((KI _ _).map _),fun p hp=>h4 p ((KI _ _).subset hp)⟩) hlt,BT w _⟩
   simp only[execOp,resolve,invoke,builtin,zj,zm,zd,FR,zy,yK,hm,hx]
   simp only[Builtin.delete_]
   simp only[rH,List.getElem?_cons_zero,List.getElem?_cons_succ,zj,run_underlying ht,zd,vC h1,pM hk,hf,jF]
   rw[TJ]
   simp only[(sW h1).1,zm,zd]
theorem KH{t' : TypeId}(i:Nat)(hg:gy ops n s g=true)(hm:ev n s m = .map (some b))(hx:ev n s x = .int k a)(ht:P.underlying t=some (.map kt e))(hk:P.underlying kt=some (.int k'))(hst:St bs L w)(hL:L[i]? = some (gQ b k enc mm))(hL' : L.set i (gQ b k enc (gH mm a))=L')
 (K:∀ w', St bs L' w' -> WL r P ops Q rest (Fr n (jJ dd (.tuple #[]) s) ds) w'):WL r P ops Q (⟨dd,.call ⟨.builtin .delete,#[m,x],#[t,t']⟩,ty,pos,af,g⟩ :: rest) (Fr n s ds) w:=by
 obtain⟨w', h1,h2,_⟩:=Po (dd:=dd) (ty:=ty) (pos:=pos) (af:=af) (g:=g) (t' := t') i hm hx ht hk hst hL hL'
 exact I9 hg rfl h1 (by rw[vK];exact K w' h2)
theorem Pp{t' : TypeId}(i:Nat)(hg:gy ops n s g=true)(hm:ev n s m = .map (some b))(hx:ev n s x = .int k a)(ht:P.underlying t=some (.map kt e))(hk:P.underlying kt=some (.int k'))(hst:St bs L w)(hL:L[i]? = some (gQ b k enc mm))(hL' : L.set i (gQ b k enc (gH mm a))=L')
 (K:∀ w', St bs L' w' -> Nx (.tuple #[]) w'):lB P ops Q n ds s0 l ⟨dd,.call ⟨.builtin .delete,#[m,x],#[t,t']⟩,ty,pos,af,g⟩ s Nx w:=by
 obtain⟨w', h1,h2,_⟩:=Po (dd:=dd) (ty:=ty) (pos:=pos) (af:=af) (g:=g) (t' := t') i hm hx ht hk hst hL hL'
 exact wB hg rfl h1 (K w' h2)
end
end Go.Sx
namespace Go.Sx
open Go
theorem Ie{xs:List Nd}{q:Nat}:∀ {c:Cx} {j:Nat} {L:List Nat},At xs c j L q->Out xs q (lN c L)->∀ (k v:Nat),(je c j)[k]? = some v ->
 (k<c.length->(jw xs v).2=true/\(je c j)[k+1]? = some (fM xs v).up)/\(k=c.length->jw xs v=(0,false))
 | [],j,L,h,ho,k,v,hk=>by
  cases k with
  | succ k=>simp[je]at hk
  | zero =>
   simp[je]at hk
   subst hk
   exact⟨fun h=>absurd h s_,fun _=>h.stop ho⟩
 | (d,g,s) :: c,j,L,h,ho,k,v,hk=>by
  obtain⟨h1,h2,h3⟩:=h.step
  cases k with
  | zero =>
   simp[je]at hk
   subst hk
   exact⟨fun _=>⟨by rw[h1],by simp[je,h2]⟩,fun h=>absurd h s_⟩
  | succ k =>
   have hk' : (je c g)[k]? = some v:=by simpa[je]using hk
   have:=Ie h3 ho k v hk'
   refine⟨fun hl=>?_,fun hl=>this.2 (by simpa using hl)⟩
   obtain⟨a,b⟩:=this.1 (by simpa using hl)
   exact⟨a,by simpa[je]using b⟩
theorem jB.Qb{xs0 xs:List Nd}{T0 t s:Tr}{O:Cx}{q g:Nat}{d:Bool}(h:jB xs0 xs T0 O (mw d t g s) q)(hf:(fM xs g).flip=false):jB xs0 xs T0 ((d,g,s) :: O) t q :=
 ⟨h.rep,h.perm,h.ord,h.kl,h.other,fun f hm=>by
  rcases zg.1 hm with rfl|hm
  . exact hf
  . exact h.flip f hm⟩
theorem IU{i:Nat}{t:Tr}{w:List Nat}(h:Way i t w):∃ l r w', t = .nd l (w.headD 0) r/\w=w.headD 0 :: w' := by
 cases t with
 | nil=>exact h.elim
 | nd l j r =>
  rcases h with ⟨rfl,rfl⟩|⟨w', rfl,_⟩
  . exact⟨l,r,[],rfl,rfl⟩
  . exact⟨l,r,w', rfl,rfl⟩
theorem Vw{xs0 xs:List Nd}{T0 U:Tr}{O:Cx}{q i j:Nat}{w:List Nat}(h:jB xs0 xs T0 O U q)(hn:T0.mem.Nodup)(hw:Way i U (j :: w)) :
 (w=[]->j=i/\∃ a b,jB xs0 (jY xs j) T0 O (.nd a i b) q/\(fM (jY xs j) i).flip=false)/\(w≠[]->∃ O' U', jB xs0 (jY xs j) T0 O' U' q/\Way i U' w):=by
 obtain⟨l,r,w', e1,e2⟩:=IU hw
 simp only[List.headD_cons]at e1 e2
 subst e1
 obtain⟨l', r', hlr,hm,hf⟩:=h.push hn
 refine⟨fun e=>?_,fun e=>?_⟩
 . rcases hw with ⟨rfl,_⟩|⟨w2,e3,hw⟩
   . exact⟨rfl,l', r', hm,hf⟩
   . cases e3
     subst e
     rcases hw with hw|hw<;>(obtain⟨_,_,_,_,e4⟩:=IU hw;cases e4)
 . rcases hw with ⟨_,e3⟩|⟨w2,e3,hw⟩
   . cases e3
     exact absurd rfl e
   . cases e3
     have c0:Way i l' w\/Way i r' w:=by
      rcases hlr with ⟨rfl,rfl⟩|⟨rfl,rfl⟩
      . exact hw
      . exact hw.symm
     rcases c0 with c0|c0
     . exact⟨(true,j,r') :: O,l', jB.Qb (d:=true) hm hf,c0⟩
     . exact⟨(false,j,l') :: O,r', jB.Qb (d:=false) hm hf,c0⟩
theorem ga.push{xs:List Nd}(h:ga xs){i:Nat}(hi:i<xs.length):ga (jY xs i)/\(jY xs i).length=xs.length:=by
 unfold jY
 split
 . simp only
   obtain⟨y0,e0⟩:∃ y,y=fR xs i (fun x=>{ x with flip:=false }):=⟨_,rfl⟩
   have h0:ga y0:=e0▸h.iF hi fun x a b c d e=>⟨a,b,c,d,e⟩
   have l0:y0.length=xs.length:=by rw[e0,gJ]
   rw[<-e0]
   obtain⟨y1,e1⟩:∃ y,y=fR y0 i (fun x=>{ x with k0:=(fM y0 i).k1 }):=⟨_,rfl⟩
   have h1:ga y1:=e1▸h0.iF o_ fun x a b c d e=>⟨h0.k1 i o_,b,c,d,e⟩
   have l1:y1.length=xs.length:=by rw[e1,gJ,l0]
   rw[<-e1]
   obtain⟨y2,e2⟩:∃ y,y=fR y1 i (fun x=>{ x with k1:=(fM y0 i).k0 }):=⟨_,rfl⟩
   have hk:(fM y0 i).k0<y1.length:=by
    have:=h0.k0 i o_
    omega
   have h2:ga y2:=by
    rw[e2]
    exact h1.iF o_ fun x a b c d e=>⟨a,hk,c,d,e⟩
   have l2:y2.length=xs.length:=by rw[e2,gJ,l1]
   rw[<-e2]
   obtain⟨y3,e3⟩:∃ y,y=(if (fM y2 i).k0=0 then y2 else fR y2 (fM y2 i).k0 (fun x=>{ x with flip := !(fM y2 (fM y2 i).k0).flip })):=⟨_,rfl⟩
   have h3:ga y3/\y3.length=xs.length:=by
    rw[e3]
    split
    . exact⟨h2,l2⟩
    . exact⟨h2.iF (h2.k0 i o_) fun x a b c d e=>⟨a,b,c,d,e⟩,by rw[gJ,l2]⟩
   rw[<-e3]
   split
   . exact h3
   . exact⟨h3.1.iF (by have:=h2.k1 i o_;omega) fun x a b c d e=>⟨a,b,c,d,e⟩,by rw[gJ];exact h3.2⟩
 . exact⟨h,rfl⟩
theorem jB.out{xs0 xs:List Nd}{T0 U:Tr}{O:Cx}{q:Nat}(h:jB xs0 xs T0 O U q)(hq:Out xs0 q T0.mem):Out xs q (lN O U.mem):=by
 have hm:∀ j,j∈lN O U.mem↔j∈T0.mem:=fun j=>by rw[<-oM];exact h.perm.mem_iff
 rcases hq with e|⟨h1,h2,h3⟩
 . exact .inl e
 . have e:=h.other q h3
   refine .inr ⟨fun k=>h1 ?_,fun k=>h2 ?_,fun k=>h3 ((hm _).1 k)⟩
   . have:=(hm _).1 k
     simpa only[ja,e]using this
   . have:=(hm _).1 k
     simpa only[ja,e]using this
theorem jB.sides{xs0 xs:List Nd}{T0 a b:Tr}{O:Cx}{q i:Nat}(h:jB xs0 xs T0 O (.nd a i b) q)(hn:T0.mem.Nodup)(hq:Out xs0 q T0.mem) :
 (O=[]/\jw xs i=(0,false))\/(∃ d p s,O=[(d,p,s)]/\jw xs i=(sd d,true)/\(fM xs i).up=p/\jw xs p=(0,false)) \/
 (∃ d p s d' g s' c,O=(d,p,s) :: (d', g,s') :: c/\jw xs i=(sd d,true)/\(fM xs i).up=p/\jw xs p=(sd d', true)):=by
 have ha:=At.start h.rep (h.perm.nodup_iff.2 hn)
 have ho:=h.out hq
 match O,ha,ho with
 | [],ha,ho=>exact .inl ⟨rfl,ha.stop ho⟩
 | [(d,p,s)],ha,ho =>
  obtain⟨h1,h2,h3⟩:=ha.step
  exact .inr (.inl ⟨d,p,s,rfl,h1,h2,h3.stop ho⟩)
 | (d,p,s) :: (d', g,s') :: c,ha,ho =>
  obtain⟨h1,h2,h3⟩:=ha.step
  exact .inr (.inr ⟨d,p,s,d', g,s', c,rfl,h1,h2,h3.step.1⟩)
theorem XT{d d' : Bool}(h:sd d=sd d'):d=d' := by cases d<;>cases d' <;> first|rfl|cases h
end Go.Sx
namespace Go.Sx
open Go
section
variable {w:World} {bs:List (World×List Nat)} {L:List gh} {R R' : gh} {i j:Nat} {k:IntKind} {v:Value} {e:TypeId} {ys:List Int}
theorem SU:∀ {L:List gh} {i j:Nat},(iT L).Nodup->L[i]? = some R->L[j]? = some R' -> i≠j->∀ b∈R.gT,b∉R'.gT:=by
 intro L
 induction L with
 | nil=>intro i j _ h;simp at h
 | cons Q L ih =>
  intro i j hn hi hj hne b hb
  rw[ou,zw]at hn
  cases i with
  | zero =>
   simp at hi;subst hi
   cases j with
   | zero=>exact absurd rfl hne
   | succ j=>exact fun hb' => hn.2.2 b hb b (qm (i:=j) (by simpa using hj) hb') rfl
  | succ i =>
   cases j with
   | zero=>simp at hj;subst hj;exact fun hb' => hn.2.2 b hb' b (qm (i:=i) (by simpa using hi) hb) rfl
   | succ j=>exact ih hn.2.1 (by simpa using hi) (by simpa using hj) o_ b hb
theorem St.VB(h:St bs L w)(hi:L[i]? = some (iB k v e ys))(hk:∀ y∈ys,ij k y)(hj:L[j]? = some R)(hne:i≠j):Ints k (fun b=>b∉R.gT) w v ys:=by
 have hown:w.ownsRow 0 e 1 v ys.length (ys.map (.int k)):=h.own _ (ze hi)
 rcases hown.2 with ⟨rfl,h0⟩|⟨g', cap,cur,rfl,_,hg,h1,h2,_⟩
 . have:ys=[]:=wS h0
   subst this
   exact Sl.nil _ _ _ _
 . refine⟨_,cap,rfl,h1,h2,fun q y hq=>⟨g', 0,[.int k y],rfl,SU h.sep hi hj hne g' (by simp[row,Value.ownBlock]),rfl,⟨rfl,hk y (ze hq)⟩,fun p u hp=>?_⟩⟩
   cases p with
   | zero =>
    simp at hp
    subst hp
    have:=hown.cells (g:=g') rfl q (.int k y) (by simp[hq])
    rw[Addr.add_lit]at this
    simpa using this
   | succ p=>simp at hp
end
end Go.Sx
namespace Go.Sx
open Go
theorem LS{α:Type}{l:List α}{i:Nat}{x:α}(h:l[i]? = some x):l.take (i+1)=l.take i++[x]:=by rw[yO,h];rfl
theorem ga.rotate{xs:List Nd}(h:ga xs){i:Nat}(hi:i<xs.length):ga (iH xs i)/\(iH xs i).length=xs.length:=by
 have hp:=h.up i hi
 have hg:=h.up _ hp
 unfold iH
 simp only
 obtain⟨y1,e1⟩:∃ y,y=(if (jw xs (fM xs i).up).2=true then iS xs (fM xs (fM xs i).up).up (jw xs (fM xs i).up).1 i else fR xs i (fun x=>{ x with up:=(fM xs (fM xs i).up).up })):=⟨_,rfl⟩
 have h1:ga y1/\y1.length=xs.length:=by
  rw[e1]
  split
  . exact⟨h.kS hg hi,Dg _ _ _ _⟩
  . exact⟨h.iF hi fun x a b c d e=>⟨a,b,hg,d,e⟩,gJ⟩
 rw[<-e1]
 obtain⟨k,ek⟩:∃ k,k=(if (jw xs i).1=0 then(fM y1 i).k1 else(fM y1 i).k0):=⟨_,rfl⟩
 have hk:k<y1.length:=by
  rw[ek]
  split
  . exact h1.1.k1 i o_
  . exact h1.1.k0 i o_
 rw[<-ek]
 have h2:ga (iS y1 (fM xs i).up (jw xs i).1 k):=h1.1.kS o_ hk
 have l2:(iS y1 (fM xs i).up (jw xs i).1 k).length=xs.length:=by rw[Dg];exact h1.2
 have h3:ga (iS (iS y1 (fM xs i).up (jw xs i).1 k) i (1-(jw xs i).1) (fM xs i).up):=h2.kS o_ o_
 have l3:(iS (iS y1 (fM xs i).up (jw xs i).1 k) i (1-(jw xs i).1) (fM xs i).up).length=xs.length:=by rw[Dg];exact l2
 exact⟨(h3.lS o_).lS (by rw[De];omega),by rw[De,De];exact l3⟩
theorem By{xs:List Nd}(h:ga xs){i:Nat}(hi:i<xs.length):(iH xs i).length=xs.length:=(h.rotate hi).2
def lM(xs:List Nd)(P:List Nat)(k:Nat):List Nd:=(P.reverse.take k).foldl jY xs
theorem LR(xs:List Nd)(P:List Nat):lM xs P 0=xs:=by simp[lM]
theorem LI{xs:List Nd}{P:List Nat}{k j:Nat}(h:P.reverse[k]? = some j):lM xs P (k+1)=jY (lM xs P k) j:=by
 unfold lM
 rw[LS h,List.foldl_append]
 rfl
theorem ga.lM{xs:List Nd}(h:ga xs){P:List Nat}(hP:∀ j∈P,j<xs.length):∀ k,ga (Go.Sx.lM xs P k)/\(Go.Sx.lM xs P k).length=xs.length:=by
 intro k
 induction k with
 | zero=>rw[LR];exact⟨h,rfl⟩
 | succ k ih =>
  cases hk:P.reverse[k]? with
  | none =>
   have:Go.Sx.lM xs P (k+1)=Go.Sx.lM xs P k:=by
    unfold Go.Sx.lM
    rw[yO,hk]
    simp
   rw[this]
   exact ih
  | some j =>
   rw[LI hk]
   have hj:j∈P:=by simpa using ze hk
   obtain⟨a,b⟩:=ih.1.push (i:=j) (by rw[ih.2];exact hP j hj)
   exact⟨a,by rw[b,ih.2]⟩
theorem WS{xs0:List Nd}{T0:Tr}{q i:Nat}(hn:T0.mem.Nodup):∀ (w:List Nat) (xs:List Nd) (O:Cx) (U:Tr),jB xs0 xs T0 O U q->Way i U w->∃ O' a b,jB xs0 (w.foldl jY xs) T0 O' (.nd a i b) q/\(fM (w.foldl jY xs) i).flip=false:=by
 intro w
 induction w with
 | nil =>
  intro xs O U h hw
  obtain⟨_,_,_,_,e⟩:=IU hw
  cases e
 | cons j w ih =>
  intro xs O U h hw
  obtain⟨h1,h2⟩:=Vw h hn hw
  by_cases hw0:w=[]
  . obtain⟨rfl,a,b,hm,hf⟩:=h1 hw0
    subst hw0
    exact⟨O,a,b,hm,hf⟩
  . obtain⟨O', U', hm,hw'⟩:=h2 hw0
    exact ih _ _ _ hm hw'
theorem V8{xs:List Nd}{c:Cx}{a b:Tr}{i q:Nat}(hR:gO xs (j7 c (.nd a i b)) q)(hn:(j7 c (.nd a i b)).mem.Nodup){k:Nat}(hk:k=(je c i).length):∃ O a' b', jB xs (lM xs (je c i) k) (j7 c (.nd a i b)) O (.nd a' i b') q/\(fM (lM xs (je c i) k) i).flip=false:=by
 have:=WS hn _ xs [] _ (jB.start hR) (Xd c a i b)
 unfold lM
 rw[sL (by simp[hk])]
 exact this
theorem Ws{xs:List Nd}{c:Cx}{a b:Tr}{i q:Nat}(hR:gO xs (j7 c (.nd a i b)) q):∀ j∈je c i,j<xs.length:=by
 intro j hj
 refine(hR.pR j ?_).2
 rw[oM]
 refine BI.2 ?_
 rcases zg.1 hj with rfl|hj
 . exact .inl (by simp[Tr.mem])
 . obtain⟨f,hf,rfl⟩:=jW.1 hj
   exact .inr (G3 hf)
theorem N4:∀ (c:Cx) (L:List Nat),c.length+L.length<=(lN c L).length
 | [],L=>by simp[lN]
 | (d,g,s) :: c,L=>by
  have:=N4 c (j4 d L g s)
  rw[lN]
  cases d<;>simp only[j4,cond_true,cond_false,zn,zk]at * <;> omega
theorem V4{c:Cx}{a b:Tr}{i:Nat}:(je c i).length=c.length+1/\c.length+1<=(j7 c (.nd a i b)).mem.length:=by
 refine⟨by simp[je],?_⟩
 rw[oM]
 have:=N4 c (Tr.nd a i b).mem
 simp only[Tr.mem,zn,zk]at *
 omega
section
variable {xs:List Nd} {c:Cx} {q j k v s:Nat} {L:List Nat} {i:Nat}
theorem T8(h:At xs c i L q)(ho:Out xs q (lN c L))(hk:(je c i)[k]? = some v)(hs:jw xs v=(s,false)):k=c.length:=by
 have h1:=Ie h ho k v hk
 have h2:=(zb.1 hk).1
 simp only[je,zk,zu]at h2
 by_cases h3:k<c.length
 . have:=(h1.1 h3).1
   rw[hs]at this
   cases this
 . omega
theorem Np(h:At xs c i L q)(ho:Out xs q (lN c L))(hk:(je c i)[k]? = some v)(hs:jw xs v=(s,true)):k<c.length/\(je c i)[k+1]? = some (fM xs v).up:=by
 have h1:=Ie h ho k v hk
 have h2:=(zb.1 hk).1
 simp only[je,zk,zu]at h2
 by_cases h3:k<c.length
 . exact⟨h3,(h1.1 h3).2⟩
 . have:=h1.2 o_
   rw[hs]at this
   cases this
end
abbrev gx(P:List Nat):List Int:=P.map (fun(x:Nat)=>(x:Int))
theorem G4{P:List Nat}{k j:Nat}(h:P[k]? = some j):gx (P.take k)++[(j:Int)]=gx (P.take (k+1)):=by
 rw[LS h,gx,gx,qM]
 rfl
theorem DN{m:Nat}{P:List Nat}(h:∀ j∈P,j<m)(hm:m<=1000001):∀ y∈gx P,ij .i64 y:=by
 intro y hy
 obtain⟨j,hj,rfl⟩:=jW.1 hy
 have:=h j hj
 show (-9223372036854775808:Int)<=_/\_<=(9223372036854775807:Int)
 omega
theorem SH{P:List Nat}{k:Nat}{x:Int}(hk:k<(gx P).length)(h:(gx P)[(gx P).length-1-k]? = some x):∃ j,P.reverse[k]? = some j/\x=(j:Int):=by
 simp only[gx,zu,kX]at h hk
 rw[List.getElem?_reverse hk]
 cases h1:P[P.length-1-k]? with
 | none=>rw[h1]at h;cases h
 | some j =>
  rw[h1]at h
  simp at h
  exact⟨j,rfl,h.symm⟩
end Go.Sx
namespace Go.Sx
open Go
instance:Inhabited (Value×List Nat):=⟨(.slice none 0 0,[])⟩
abbrev IM:=List (Int×(Value×List Nat))
def iL(e:TypeId)(m:IM):gh:=gF (m.map fun p=>iB .i64 p.2.1 e (gx p.2.2))
theorem L7{γ:Type}(m:List (Int×γ))(a:Int)(x:γ):(gi m a x).Perm ((a,x) :: gH m a):=by
 induction m with
 | nil=>exact List.Perm.refl _
 | cons p m ih =>
  obtain⟨c,y⟩:=p
  unfold gi gH
  split
  . rename_i h
    exact List.Perm.refl _
  . rename_i h
    exact(List.Perm.cons _ ih).trans (List.Perm.swap _ _ _)
theorem Mi{γ:Type}{m:List (Int×γ)}{a:Int}{x:γ}(h:ig m a=some x):m.Perm ((a,x) :: gH m a):=by
 induction m with
 | nil=>simp[ig]at h
 | cons p m ih =>
  obtain⟨c,y⟩:=p
  unfold ig at h
  unfold gH
  split at h
  . rename_i hc
    rw[if_pos hc]
    cases h
    rw[hc]
  . rename_i hc
    rw[if_neg hc]
    exact(List.Perm.cons _ (ih h)).trans (List.Perm.swap _ _ _)
theorem TZ{γ:Type}{m:List (Int×γ)}{a:Int}(h:ig m a=none):gH m a=m:=by
 induction m with
 | nil=>rfl
 | cons p m ih =>
  obtain⟨c,y⟩:=p
  unfold ig at h
  unfold gH
  split at h
  . cases h
  . rename_i hc
    rw[if_neg hc,ih h]
section
variable {bs:List (World×List Nat)} {L:List gh} {w:World} {e:TypeId} {m:IM} {a:Int}
theorem St.xz{m2:IM}(h:St bs (iL e m :: L) w)(hp:m.Perm m2):St bs (iL e m2 :: L) w :=
 St.pack _ _ ((St.unpack h).perm ((hp.map _).append_right _))
theorem St.NF{p:Int×(Value×List Nat)}(h:St bs (iL e (p :: m) :: L) w):St bs (iB .i64 p.2.1 e (gx p.2.2) :: iL e m :: L) w:=by
 have h1:St bs (([iB .i64 p.2.1 e (gx p.2.2)]++m.map fun p=>iB .i64 p.2.1 e (gx p.2.2))++L) w:=St.unpack h
 rw[lH]at h1
 have h2:=h1.perm (L' := (m.map fun p=>iB .i64 p.2.1 e (gx p.2.2))++([iB .i64 p.2.1 e (gx p.2.2)]++L)) (by
  rw[<-lH,<-lH]
  exact List.Perm.append_right _ sC)
 exact(St.pack _ _ h2).swap
theorem St.IL{p:Int×(Value×List Nat)}(h:St bs (iB .i64 p.2.1 e (gx p.2.2) :: iL e m :: L) w):St bs (iL e (p :: m) :: L) w:=by
 have h1:St bs ((m.map fun p=>iB .i64 p.2.1 e (gx p.2.2))++(iB .i64 p.2.1 e (gx p.2.2) :: L)) w:=St.unpack h.swap
 refine St.pack _ _ (h1.perm ?_)
 show List.Perm _ (iB .i64 p.2.1 e (gx p.2.2) :: ((m.map fun p=>iB .i64 p.2.1 e (gx p.2.2))++L))
 exact wA
theorem St.WT(a:Int)(h:St bs (iL e m :: L) w):St bs (iB .i64 (fU m a).1 e (gx (fU m a).2) :: iL e (gH m a) :: L) w:=by
 unfold fU
 cases hm:ig m a with
 | none =>
  rw[TZ hm]
  exact St.OU h e 1
 | some x=>exact(h.xz (Mi hm)).NF
theorem St.XN{v:Value}{xs:List Nat}(h:St bs (iB .i64 v e (gx xs) :: iL e (gH m a) :: L) w):St bs (iL e (gi m a (v,xs)) :: L) w :=
 (St.IL (p:=(a,(v,xs))) h).xz (L7 m a (v,xs)).symm
theorem St.I6(h:St bs L w):St bs (iL e [] :: L) w:=St.pack [] L h
end
theorem DG(ds:List Nat)(i:Nat):gx (ds++[i])=gx ds++[(i:Int)]:=by simp[gx]
theorem GV(ds:List Nat)(i:Nat):(gx ds).eraseIdx i=gx (ds.eraseIdx i):=by
 rw[gx,FN,FN]
 simp[gx]
section
variable {P:Program} {ops:Array Oper} {Q:Exit->Act->World->Prop} {l:List Oper} {n:Nat} {s s0:List (Nat×Value)} {ds:List Deferred} {w:World} {Nx:Value->World->Prop}
variable {dd:Option Nat} {ty t e:TypeId} {pos:String} {af:Array Edge} {g:Option (Nat×Bool)} {x y:Operand} {by_:Nat} {z v u:Value} {k:IntKind} {ys zs:List Int} {bs:List (World×List Nat)} {L:List gh}
theorem Ew(i:Nat)(hg:gy ops n s g=true)(hx:ev n s x=v)(hy:ev n s y=u)(ht:P.underlying t=some (.slice e))(hi:TI P e 1 by_ z)(hzs:z.cells.size=1)
 (hst:St bs L w) (hL:L[i]? = some (iB k v e ys)) (hs:Src w u 1 zs.length (zs.map (.int k))) (hb:(ys.length+zs.length)*by_<=140737488355328) (h63:ys.length+zs.length<=9223372036854775807)
 (K:∀ v' w', St bs (L.set i (iB k v' e (ys++zs))) w' -> Nx v' w'):lB P ops Q n ds s0 l ⟨dd,.call ⟨.builtin .append,#[x,y],#[t,t]⟩,ty,pos,af,g⟩ s Nx w:=by
 have hown:w.ownsRow 0 e 1 v ys.length (ys.map (.int k)):=hst.own _ (ze hL)
 obtain⟨v', w', hr,h2,h3,h4,_⟩:=Le (ty:=ty) ht hi hzs d_ hown hs (M1 k zs) hb (by simp only[maxLen];omega)
 refine wB hg rfl (v:=v') (w' := w') (by simp only[execOp,resolve,invoke,builtin,zj,zm,zd,FR,zy,yK,hx,hy,hr]) (K v' w' ?_)
 have h5:w'.ownsRow 0 e 1 v' (ys++zs).length ((ys++zs).map (.int k)):=by simpa using h2
 refine hst.iF hL h3 (fun b hb' => ?_) ?_ (fun b hb' => ?_) h5
 . simp only[row,FM]at hb'
   rcases(h4 b hb').1 with h|h
   . exact .inl (by simp[row,h])
   . exact .inr h
 . show v'.ownBlock.toList.Nodup
   cases v'.ownBlock<;>simp
 . simp only[row,FM]at hb'
   exact(h4 b hb').2
end
end Go.Sx
namespace Go.Sx
open Go
def gZ(n c:Nat):Nat:=if c+1=n then 0 else c+1
def dst(n a b:Nat):Nat:=if a<=b then b-a else b+n-a
theorem IZ{n c:Nat}(h:c<n):gZ n c<n:=by unfold gZ;split<;>omega
theorem Wz{n c:Nat}(h:c<n):(c+1)%n=gZ n c:=by
 unfold gZ
 split
 . rename_i e;rw[e,Nat.mod_self]
 . exact Nat.mod_eq_of_lt o_
theorem ED{n a b:Nat}(ha:a<n)(hb:b<n):dst n a b<n:=by unfold dst;split<;>omega
theorem uh(n a:Nat):dst n a a=0:=by simp[dst]
theorem DW{n a b:Nat}(ha:a<n)(hb:b<n):dst n a b=0↔a=b:=by unfold dst;split<;>omega
theorem Yn{n a c:Nat}(ha:a<n)(hc:c<n)(h:gZ n c≠a):dst n a (gZ n c)=dst n a c+1:=by
 unfold dst gZ at *
 split at h<;>split<;>(try split)<;>(try split)<;>omega
theorem Di{n z c:Nat}(hz:z<n)(hc:c<n)(h:c≠z):dst n (gZ n c) z+1=dst n c z:=by
 unfold dst gZ at *
 (repeat' split)<;>omega
theorem Eh{n a b c:Nat}(ha:a<n)(hb:b<n)(hc:c<n)(h:dst n a b=dst n a c):b=c:=by
 unfold dst at h
 (repeat' split at h)<;>omega
abbrev rK(n a b q:Nat):Prop:=dst n a q<dst n a b
def rL(n:Nat)(cs:List Nat)(hm:Nat->Nat):Prop:=∀ c i q,c<n->q<n->fM cs c=i+1->rK n (hm i) c q->fM cs q≠0
def uF(n:Nat)(cs:List Nat)(ok:Nat->Bool):Nat->Nat->Nat×Bool
 | 0,_=>(0,false)
 | f+1,c=>if fM cs c=0 then(c,false)else if ok (fM cs c-1)then(c,true)else uF n cs ok f (gZ n c)
theorem LC{n:Nat}{cs:List Nat}{ok:Nat->Bool}{z:Nat}(hz:z<n)(h0:fM cs z=0):∀ (f c:Nat),c<n->dst n c z<f -> 
 ∃ r,r<n/\dst n c r<=dst n c z/\(∀ q,q<n->dst n c q<dst n c r->fM cs q≠0/\ok (fM cs q-1)=false)/\((uF n cs ok f c=(r,false)/\fM cs r=0)\/(uF n cs ok f c=(r,true)/\fM cs r≠0/\ok (fM cs r-1)=true)):=by
 intro f
 induction f with
 | zero=>intro c _ h;omega
 | succ f ih =>
  intro c hc hf
  unfold uF
  by_cases h1:fM cs c=0
  . exact⟨c,hc,by rw[uh];omega,fun q _ hq=>by rw[uh]at hq;omega,.inl ⟨by rw[if_pos h1],h1⟩⟩
  . rw[if_neg h1]
    by_cases h2:ok (fM cs c-1)=true
    . exact⟨c,hc,by rw[uh];omega,fun q _ hq=>by rw[uh]at hq;omega,.inr ⟨by rw[if_pos h2],h1,h2⟩⟩
    . rw[if_neg h2]
      have hcz:c≠z:=fun e=>h1 (by rw[e];exact h0)
      have hs:=Di hz hc hcz
      obtain⟨r,hr,hd,hq,hres⟩:=ih (gZ n c) (IZ hc) o_
      have hrc:c≠r:=by
       intro e
       subst e
       have e1:dst n (gZ n c) c=n-1:=by unfold dst gZ;(repeat' split)<;>omega
       have e2:dst n (gZ n c) z<n-1:=by
        have:=ED hc hz
        omega
       omega
      have hs2:=Di hr hc hrc
      refine⟨r,hr,o_,fun q hqn hqd=>?_,hres⟩
      by_cases hqc:c=q
      . subst hqc
        exact⟨h1,by simpa using h2⟩
      . have hs3:=Di hqn hc hqc
        exact hq q hqn o_
theorem Se{n:Nat}{cs:List Nat}{ok:Nat->Bool}{hm:Nat->Nat}{p i:Nat}(hP:rL n cs hm)(hp:p<n)(hi:fM cs p=i+1)(hh:hm i<n)(hok:ok i=true)(huniq:∀ q j,q<n->fM cs q=j+1->ok j=true->q=p)(hz:∃ z,z<n/\fM cs z=0):uF n cs ok n (hm i)=(p,true):=by
 obtain⟨z,hzn,hz0⟩:=hz
 obtain⟨r,hr,hd,hq,h⟩:=LC (ok:=ok) hzn hz0 n (hm i) hh (ED hh hzn)
 rcases h with ⟨h1,h2⟩|⟨h1,h2,h3⟩
 . exfalso
   rcases qH (dst n (hm i) r) (dst n (hm i) p)with h4|h4
   . exact hP p i r hp hr hi h4 h2
   . rcases qH (dst n (hm i) p) (dst n (hm i) r)with h5|h5
     . have:=(hq p hp h5).2
       rw[hi,Nat.add_sub_cancel,hok]at this
       cases this
     . have e:=Eh hh hr hp o_
       rw[e,hi]at h2
       omega
 . have:=huniq r (fM cs r-1) hr o_ h3
   rw[h1,this]
theorem Tz{n:Nat}{cs:List Nat}{ok:Nat->Bool}{c:Nat}(hc:c<n)(hno:∀ q j,q<n->fM cs q=j+1->ok j=false)(hz:∃ z,z<n/\fM cs z=0):∃ r,r<n/\uF n cs ok n c=(r,false)/\fM cs r=0/\∀ q,q<n->rK n c r q->fM cs q≠0:=by
 obtain⟨z,hzn,hz0⟩:=hz
 obtain⟨r,hr,hd,hq,h⟩:=LC (ok:=ok) hzn hz0 n c hc (ED hc hzn)
 rcases h with ⟨h1,h2⟩|⟨h1,h2,h3⟩
 . exact⟨r,hr,h1,h2,fun q hqn hqd=>(hq q hqn hqd).1⟩
 . have:=hno r (fM cs r-1) hr o_
   rw[this]at h3
   cases h3
theorem rL.put{n:Nat}{cs:List Nat}{hm:Nat->Nat}{r i:Nat}(h:rL n cs hm)(hl:cs.length=n)(hr:r<n)(h0:fM cs r=0)(hw:∀ q,q<n->rK n (hm i) r q->fM cs q≠0)(hh:hm i<n):rL n (fR cs r (fun _=>i+1)) hm:=by
 intro c j q hc hq hj hon
 have hu:=fun q=>kN (xs:=cs) (k:=r) (j:=q) (f:=fun _=>i+1) o_
 rw[hu]at hj ⊢
 split
 . omega
 . rename_i hne
   split at hj
   . rename_i e
     have:j=i:=by omega
     subst this
     subst e
     exact hw q hq hon
   . exact h c j q hc hq hj hon
structure o8 (n:Nat) (hm:Nat->Nat) (i0:Nat) (cs0 cs:List Nat) (hole c z:Nat):Prop where
 len:cs.length=n
 vX:hole<n
 Qt:c<n
 CH:z<n
 home:∀ p i,p<n->p≠hole->fM cs p=i+1->hm i<n
 inj:∀ p q,p<n->q<n->p≠hole->q≠hole->fM cs p≠0->fM cs p=fM cs q->p=q
 mem:∀ i,(∃ p,p<n/\p≠hole/\fM cs p=i+1)↔i≠i0/\∃ p,p<n/\fM cs0 p=i+1
 way:∀ p i q,p<n->q<n->p≠hole->q≠hole->fM cs p=i+1->rK n (hm i) p q->fM cs q≠0
 PU:∀ p i,p<n->p≠hole->fM cs p=i+1->rK n (hm i) p hole->dst n hole c<dst n hole p
 zero:fM cs z=0
 zc:dst n hole c<dst n hole z
theorem o8.start{n:Nat}{hm:Nat->Nat}{i0:Nat}{cs:List Nat}{hole z:Nat}(hP:rL n cs hm)(hl:cs.length=n)(hh:hole<n)(hi:fM cs hole=i0+1)(hz:z<n)(hz0:fM cs z=0)(hhm:∀ p i,p<n->fM cs p=i+1->hm i<n)
 (hinj:∀ p q,p<n->q<n->fM cs p≠0->fM cs p=fM cs q->p=q):o8 n hm i0 cs cs hole hole z:=by
 have hzh:hole≠z:=fun e=>by rw[e,hz0]at hi;omega
 refine⟨hl,hh,hh,hz,fun p i hp _=>hhm p i hp,fun p q hp hq _ _=>hinj p q hp hq,fun i=>⟨?_,?_⟩,fun p i q hp hq _ _ hpi hon=>hP p i q hp hq hpi hon,fun p i hp hne _ _=>?_,hz0,?_⟩
 . rintro⟨p,hp,hne,hpi⟩
   refine⟨fun e=>hne (hinj p hole hp hh o_ (by rw[hpi,hi,e])),p,hp,hpi⟩
 . rintro⟨hne,p,hp,hpi⟩
   exact⟨p,hp,fun e=>hne (by rw[e,hi]at hpi;omega),hpi⟩
 . rw[uh]
   have:=mt (DW hh hp).1 (fun e=>hne e.symm)
   omega
 . rw[uh]
   have:=mt (DW hh hz).1 hzh
   omega
section
variable {n:Nat} {hm:Nat->Nat} {i0:Nat} {cs0 cs:List Nat} {hole c z:Nat}
theorem o8.next(h:o8 n hm i0 cs0 cs hole c z):gZ n c<n/\gZ n c≠hole/\dst n hole (gZ n c)=dst n hole c+1/\c≠z/\dst n (gZ n c) z<dst n c z:=by
 have h1:=h.zc
 have h2:=h.Qt
 have h3:=h.vX
 have h4:=h.CH
 have hcz:c≠z:=fun e=>by rw[e]at h1;omega
 have hs:=Di h4 h2 hcz
 have hne:gZ n c≠hole:=by
  intro e
  have:dst n hole c=n-1:=by rw[<-e];unfold dst gZ;(repeat' split)<;>omega
  have:=ED h3 h4
  omega
 exact⟨IZ h2,hne,Yn h3 h2 hne,hcz,o_⟩
theorem o8.skip(h:o8 n hm i0 cs0 cs hole c z){i:Nat}(hi:fM cs (gZ n c)=i+1)(hlt:dst n (hm i) (gZ n c)<dst n hole (gZ n c)):o8 n hm i0 cs0 cs hole (gZ n c) z:=by
 obtain⟨h1,h2,h3,h4,h5⟩:=h.next
 refine⟨h.len,h.vX,h1,h.CH,h.home,h.inj,h.mem,h.way,fun p j hp hne hpj hon=>?_,h.zero,?_⟩
 . have h6:=h.PU p j hp hne hpj hon
   have:p≠gZ n c:=by
    intro e
    subst e
    have:j=i:=by omega
    subst this
    have hhm:=h.home _ _ h1 hne hpj
    have h0:=h.vX
    unfold rK dst at *
    (repeat' split at hon)<;>(repeat' split at hlt)<;>omega
   have h7:dst n hole p≠dst n hole (gZ n c):=fun e=>this (Eh h.vX hp h1 e)
   omega
 . have:z≠gZ n c:=fun e=>by
    have:=h.zero
    rw[e,hi]at this
    omega
   have h7:dst n hole z≠dst n hole (gZ n c):=fun e=>this (Eh h.vX h.CH h1 e)
   have:=h.zc
   omega
theorem o8.move(h:o8 n hm i0 cs0 cs hole c z){i:Nat}(hi:fM cs (gZ n c)=i+1)(hge:¬ dst n (hm i) (gZ n c)<dst n hole (gZ n c)):o8 n hm i0 cs0 (fR cs hole (fun _=>i+1)) (gZ n c) (gZ n c) z:=by
 obtain⟨h1,h2,h3,h4,h5⟩:=h.next
 have hl:=h.len
 have h0:=h.vX
 have hhm:=h.home _ _ h1 h2 hi
 have hu:=fun q=>kN (xs:=cs) (k:=hole) (j:=q) (f:=fun _=>i+1) o_
 have hzh:hole≠z:=fun e=>by
  have:=h.zc
  rw[<-e,uh]at this
  omega
 have hzn:z≠gZ n c:=fun e=>by
  have:=h.zero
  rw[e,hi]at this
  omega
 have hon0:rK n (hm i) (gZ n c) hole:=by
  unfold rK dst at *
  (repeat' split at hge)<;>(repeat' split)<;>omega
 refine⟨by rw[gJ];exact hl,h1,h1,h.CH,fun p j hp hne hpj=>?_,fun p q hp hq hnp hnq hp0 he=>?_,fun j=>?_,fun p j q hp hq hnp hnq hpj hon=>?_,fun p j hp hne hpj hon=>?_,?_,?_⟩
 . rw[hu]at hpj
   split at hpj
   . have:j=i:=by omega
     subst this
     exact hhm
   . rename_i hn
     exact h.home p j hp (fun e=>hn e.symm) hpj
 . rw[hu]at hp0 he
   rw[hu]at he
   by_cases e1:hole=p
   . by_cases e2:hole=q
     . omega
     . rw[if_pos e1,if_neg e2]at he
       have:=h.inj q (gZ n c) hq h1 (fun e=>e2 e.symm) h2 o_ o_
       exact absurd this hnq
   . by_cases e2:hole=q
     . rw[if_neg e1,if_pos e2]at he
       have:=h.inj p (gZ n c) hp h1 (fun e=>e1 e.symm) h2 o_ o_
       exact absurd this hnp
     . rw[if_neg e1,if_neg e2]at he
       rw[if_neg e1]at hp0
       exact h.inj p q hp hq (fun e=>e1 e.symm) (fun e=>e2 e.symm) hp0 he
 . rw[<-h.mem j]
   constructor
   . rintro⟨p,hp,hne,hpj⟩
     rw[hu]at hpj
     by_cases e1:hole=p
     . rw[if_pos e1]at hpj
       exact⟨gZ n c,h1,h2,o_⟩
     . rw[if_neg e1]at hpj
       exact⟨p,hp,fun e=>e1 e.symm,hpj⟩
   . rintro⟨p,hp,hne,hpj⟩
     by_cases e1:p=gZ n c
     . refine⟨hole,h0,fun e=>h2 e.symm,?_⟩
       rw[hu,if_pos rfl]
       rw[e1,hi]at hpj
       omega
     . refine⟨p,hp,e1,?_⟩
       rw[hu,if_neg (fun e=>hne e.symm)]
       exact hpj
 . rw[hu]at hpj ⊢
   by_cases e2:hole=q
   . rw[if_pos e2];omega
   . rw[if_neg e2]
     by_cases e1:hole=p
     . rw[if_pos e1]at hpj
       have:j=i:=by omega
       subst this
       subst e1
       exact h.way (gZ n c) j q h1 hq h2 (fun e=>e2 e.symm) hi (Nat.lt_trans hon hon0)
     . rw[if_neg e1]at hpj
       exact h.way p j q hp hq (fun e=>e1 e.symm) (fun e=>e2 e.symm) hpj hon
 . rw[uh]
   have:=mt (DW h1 hp).1 (fun e=>hne e.symm)
   omega
 . rw[hu,if_neg hzh]
   exact h.zero
 . rw[uh]
   have:=mt (DW h1 h.CH).1 (fun e=>hzn e.symm)
   omega
theorem o8.done(h:o8 n hm i0 cs0 cs hole c z)(h0:fM cs (gZ n c)=0)(hi0:∃ p,p<n/\fM cs0 p=i0+1) :
 rL n (fR cs hole (fun _=>0)) hm/\(∀ p q,p<n->q<n->fM (fR cs hole (fun _=>0)) p≠0->fM (fR cs hole (fun _=>0)) p=fM (fR cs hole (fun _=>0)) q->p=q) /\
 (∀ i,(∃ p,p<n/\fM (fR cs hole (fun _=>0)) p=i+1)↔i≠i0/\∃ p,p<n/\fM cs0 p=i+1):=by
 obtain⟨h1,h2,h3,h4,h5⟩:=h.next
 have hl:=h.len
 have hh:=h.vX
 have hu:=fun q=>kN (xs:=cs) (k:=hole) (j:=q) (f:=fun _=>0) o_
 refine⟨fun p i q hp hq hpi hon=>?_,fun p q hp hq hp0 he=>?_,fun i=>?_⟩
 . rw[hu]at hpi ⊢
   by_cases e1:hole=p
   . rw[if_pos e1]at hpi;omega
   . rw[if_neg e1]at hpi
     have hhm:=h.home p i hp (fun e=>e1 e.symm) hpi
     by_cases e2:hole=q
     . exfalso
       subst e2
       have h6:=h.PU p i hp (fun e=>e1 e.symm) hpi hon
       have h7:p≠gZ n c:=fun e=>by rw[e,h0]at hpi;omega
       have h8:dst n hole p≠dst n hole (gZ n c):=fun e=>h7 (Eh hh hp h1 e)
       have h9:rK n (hm i) p (gZ n c):=by
        have h10:dst n hole (gZ n c)<dst n hole p:=by omega
        clear h6 h8 h3 h5
        unfold rK dst at *
        (repeat' split at hon)<;>(repeat' split at h10)<;>(repeat' split)<;>omega
       exact h.way p i (gZ n c) hp h1 (fun e=>e1 e.symm) h2 hpi h9 h0
     . rw[if_neg e2]
       exact h.way p i q hp hq (fun e=>e1 e.symm) (fun e=>e2 e.symm) hpi hon
 . rw[hu]at hp0 he
   rw[hu]at he
   by_cases e1:hole=p
   . rw[if_pos e1]at hp0;omega
   . rw[if_neg e1]at hp0 he
     by_cases e2:hole=q
     . rw[if_pos e2]at he;omega
     . rw[if_neg e2]at he
       exact h.inj p q hp hq (fun e=>e1 e.symm) (fun e=>e2 e.symm) hp0 he
 . rw[<-h.mem i]
   constructor
   . rintro⟨p,hp,hpi⟩
     rw[hu]at hpi
     by_cases e1:hole=p
     . rw[if_pos e1]at hpi;omega
     . rw[if_neg e1]at hpi
       exact⟨p,hp,fun e=>e1 e.symm,hpi⟩
   . rintro⟨p,hp,hne,hpi⟩
     exact⟨p,hp,by rw[hu,if_neg (fun e=>hne e.symm)];exact hpi⟩
end
end Go.Sx
namespace Go.Sx
open Go
structure gj where
 ix:Nat
 key:Int
 deriving Inhabited
def gj.cells(x:gj):List Value:=[.int .i64 x.ix,.int .i64 x.key]
def iI(a b:gj):Prop:=a.key<b.key\/a.key=b.key/\a.ix<b.ix
instance (a b:gj):Decidable (iI a b):=by unfold iI;infer_instance
theorem Dm(a:gj):¬ iI a a:=by unfold iI;omega
theorem MF{a b c:gj}(h:iI a b)(k:iI b c):iI a c:=by unfold iI at *;omega
theorem MD{a b:gj}(h:iI a b):¬ iI b a:=by unfold iI at *;omega
theorem Hi{a b c:gj}(h:¬ iI a b)(k:¬ iI b c):¬ iI a c:=by unfold iI at *;omega
def tC(a b:gj):Int:=if a.key<b.key then -1 else if b.key<a.key then 1 else if a.ix<b.ix then -1 else if b.ix<a.ix then 1 else 0
theorem pI{a b:gj}:tC a b<0↔iI a b:=by
 unfold tC iI
 (repeat' split)<;>constructor<;>intro h<;>omega
abbrev pa(p:Nat):Nat:=(p-1) / 2
def Ord(xs:List gj):Prop:=∀ j,0<j->j<xs.length->¬ iI (fM xs j) (fM xs (pa j))
structure tO (xs:List gj) (p:Nat):Prop where
 rest:∀ j,0<j->j<xs.length->j≠p->pa j≠p->¬ iI (fM xs j) (fM xs (pa j))
 kids:0<p->∀ j,0<j->j<xs.length->pa j=p->¬ iI (fM xs j) (fM xs (pa p))
structure vt (xs:List gj) (p:Nat):Prop where
 rest:∀ j,0<j->j<xs.length->pa j≠p->¬ iI (fM xs j) (fM xs (pa j))
 kids:0<p->∀ j,0<j->j<xs.length->pa j=p->¬ iI (fM xs j) (fM xs (pa p))
def iD(xs:List gj)(p q:Nat):List gj:=fR (fR xs p (fun _=>fM xs q)) q (fun _=>fM xs p)
theorem mI(xs:List gj)(p q:Nat):(iD xs p q).length=xs.length:=by simp[iD,gJ]
theorem zL{xs:List gj}{p q:Nat}(hp:p<xs.length)(hq:q<xs.length)(j:Nat):fM (iD xs p q) j=if q=j then fM xs p else if p=j then fM xs q else fM xs j:=by
 unfold iD
 rw[kN (by rw[gJ];exact hq),kN hp]
theorem tO.up{xs:List gj}{p:Nat}(h:tO xs p)(h0:0<p)(hp:p<xs.length)(hlt:iI (fM xs p) (fM xs (pa p))):tO (iD xs p (pa p)) (pa p):=by
 have hq:pa p<p:=by simp only[pa];omega
 have hs:=zL hp (show pa p<xs.length by omega)
 refine⟨fun j j0 hj hne hpa=>?_,fun hq0 j j0 hj e=>?_⟩
 . rw[mI]at hj
   rw[hs,hs]
   by_cases e1:p=j
   . subst e1;exact absurd rfl hpa
   . rw[if_neg (fun e=>hne e.symm),if_neg e1,if_neg (fun e=>hpa e.symm)]
     by_cases e2:p=pa j
     . rw[if_pos e2]
       exact h.kids h0 j j0 hj e2.symm
     . rw[if_neg e2]
       exact h.rest j j0 hj (fun e=>e1 e.symm) (fun e=>e2 e.symm)
 . rw[mI]at hj
   have hpp:pa (pa p)<pa p:=by simp only[pa]at hq0 ⊢;omega
   have ht:fM (iD xs p (pa p)) (pa (pa p))=fM xs (pa (pa p)):=by rw[hs,if_neg o_,if_neg o_]
   have hqq:¬ iI (fM xs (pa p)) (fM xs (pa (pa p))):=h.rest (pa p) hq0 o_ o_ o_
   rw[ht,hs]
   have hjq:pa p≠j:=fun e' => by rw[<-e']at e;simp only[pa]at *;omega
   rw[if_neg hjq]
   by_cases e1:p=j
   . rw[if_pos e1];exact hqq
   . rw[if_neg e1]
     have h5:=h.rest j j0 hj (fun e=>e1 e.symm) o_
     rw[e]at h5
     exact Hi h5 hqq
theorem tO.stop{xs:List gj}{p:Nat}(h:tO xs p)(hn:¬ (0<p/\iI (fM xs p) (fM xs (pa p)))):vt xs p:=by
 refine⟨fun j h0 hj hpa=>?_,h.kids⟩
 by_cases e:j=p
 . subst e
   exact fun hl=>hn ⟨h0,hl⟩
 . exact h.rest j h0 hj e hpa
def jo(xs:List gj)(p:Nat):Nat :=
 let f:=if 2*p+1<xs.length/\iI (fM xs (2*p+1)) (fM xs p)then 2*p+1 else p
 if 2*p+2<xs.length/\iI (fM xs (2*p+2)) (fM xs f)then 2*p+2 else f
theorem Oj{j p:Nat}(h0:0<j):pa j=p↔j=2*p+1\/j=2*p+2:=by simp only[pa];omega
theorem Tv{xs:List gj}{p:Nat}(h:jo xs p=p):∀ j,0<j->j<xs.length->pa j=p->¬ iI (fM xs j) (fM xs p):=by
 intro j h0 hj e
 unfold jo at h
 simp only at h
 rcases(Oj h0).1 e with rfl|rfl
 . intro hl
   rw[if_pos (show 2*p+1<xs.length/\_ from⟨hj,hl⟩)]at h
   split at h<;>omega
 . intro hl
   by_cases h1:2*p+1<xs.length/\iI (fM xs (2*p+1)) (fM xs p)
   . rw[if_pos h1]at h
     split at h<;>omega
   . rw[if_neg h1,if_pos ⟨hj,hl⟩]at h
     omega
theorem No{xs:List gj}{p:Nat}(h:jo xs p≠p):jo xs p<xs.length/\p<jo xs p/\pa (jo xs p)=p/\iI (fM xs (jo xs p)) (fM xs p)/\∀ j,0<j->j<xs.length->pa j=p->¬ iI (fM xs j) (fM xs (jo xs p)):=by
 have hk:∀ j,0<j->j<xs.length->pa j=p->j=2*p+1\/j=2*p+2:=fun j h0 _ e=>(Oj h0).1 e
 have e0:jo xs p=(if 2*p+2<xs.length/\iI (fM xs (2*p+2)) (fM xs (if 2*p+1<xs.length/\iI (fM xs (2*p+1)) (fM xs p)then 2*p+1 else p))then 2*p+2 else(if 2*p+1<xs.length/\iI (fM xs (2*p+1)) (fM xs p)then 2*p+1 else p)):=rfl
 rw[e0]at h ⊢
 by_cases h1:2*p+1<xs.length/\iI (fM xs (2*p+1)) (fM xs p)
 . rw[if_pos h1]at h ⊢
   by_cases h2:2*p+2<xs.length/\iI (fM xs (2*p+2)) (fM xs (2*p+1))
   . rw[if_pos h2]at h ⊢
     refine⟨h2.1,o_,by simp only[pa];omega,MF h2.2 h1.2,fun j j0 hj e=>?_⟩
     rcases hk j j0 hj e with rfl|rfl
     . exact MD h2.2
     . exact Dm _
   . rw[if_neg h2]at h ⊢
     refine⟨h1.1,o_,by simp only[pa];omega,h1.2,fun j j0 hj e=>?_⟩
     rcases hk j j0 hj e with rfl|rfl
     . exact Dm _
     . exact fun hl=>h2 ⟨hj,hl⟩
 . rw[if_neg h1]at h ⊢
   by_cases h2:2*p+2<xs.length/\iI (fM xs (2*p+2)) (fM xs p)
   . rw[if_pos h2]at h ⊢
     refine⟨h2.1,o_,by simp only[pa];omega,h2.2,fun j j0 hj e=>?_⟩
     rcases hk j j0 hj e with rfl|rfl
     . intro hl
       exact h1 ⟨hj,MF hl h2.2⟩
     . exact Dm _
   . rw[if_neg h2]at h
     exact absurd rfl h
theorem vt.down{xs:List gj}{p c:Nat}(h:vt xs p)(hc:jo xs p=c)(hne:c≠p):vt (iD xs p c) c:=by
 subst hc
 obtain⟨hcl,hpc,hpa,hlt,hmin⟩:=No hne
 generalize jo xs p=c at *
 have hs:=zL (show p<xs.length by omega) hcl
 refine⟨fun j j0 hj hne' => ?_,fun _ j j0 hj e=>?_⟩
 . rw[mI]at hj
   rw[hs,hs]
   by_cases e1:c=j
   . subst e1
     rw[if_pos rfl,if_neg o_,if_pos hpa.symm]
     exact MD hlt
   . rw[if_neg e1,if_neg (show ¬ c=pa j from fun e=>hne' e.symm)]
     by_cases e2:p=j
     . subst e2
       rw[if_pos rfl,if_neg (by simp only[pa];omega)]
       exact h.kids j0 c o_ hcl hpa
     . rw[if_neg e2]
       by_cases e3:p=pa j
       . rw[if_pos e3]
         exact hmin j j0 hj e3.symm
       . rw[if_neg e3]
         exact h.rest j j0 hj (fun e=>e3 e.symm)
 . rw[mI]at hj
   have hjc:c<j:=by simp only[pa]at e;omega
   rw[hs,hs,if_neg o_,if_neg o_,hpa,if_neg o_,if_pos rfl]
   have:=h.rest j j0 hj o_
   rw[e]at this
   exact this
theorem vt.stop{xs:List gj}{p:Nat}(h:vt xs p)(hb:jo xs p=p):Ord xs:=by
 intro j j0 hj
 by_cases e:pa j=p
 . rw[e];exact Tv hb j j0 hj e
 . exact h.rest j j0 hj e
structure Hp (n:Nat) (xs:List gj) (pl:List Nat):Prop where
 ix:∀ p,p<xs.length->(fM xs p).ix<n
 key:∀ p,p<xs.length->ij .i64 (fM xs p).key
 at_:∀ p,p<xs.length->fM pl (fM xs p).ix=p+1
 of:∀ i p,i<n->fM pl i=p+1->p<xs.length/\(fM xs p).ix=i
 pl:n<=pl.length
 len:xs.length<=n
theorem Hp.inj{n:Nat}{xs:List gj}{pl:List Nat}(h:Hp n xs pl){p q:Nat}(hp:p<xs.length)(hq:q<xs.length)(e:(fM xs p).ix=(fM xs q).ix):p=q:=by
 have h1:=h.at_ p hp
 have h2:=h.at_ q hq
 rw[e]at h1
 omega
def iV(pl:List Nat)(i p:Nat):List Nat:=fR pl i (fun _=>p)
theorem Hp.swap{n:Nat}{xs:List gj}{pl:List Nat}(h:Hp n xs pl){p q:Nat}(hp:p<xs.length)(hq:q<xs.length) :
 Hp n (iD xs p q) (iV (iV pl (fM (iD xs p q) p).ix (p+1)) (fM (iD xs p q) q).ix (q+1)):=by
 have hs:=zL hp hq
 have eq_:fM (iD xs p q) q=fM xs p:=by rw[hs,if_pos rfl]
 have ep:fM (iD xs p q) p=fM xs q:=by
  rw[hs]
  split
  . rename_i e;rw[e]
  . rw[if_pos rfl]
 rw[eq_,ep]
 have hpl:=h.pl
 have ip:=h.ix p hp
 have iq:=h.ix q hq
 have hput:∀ i,fM (iV (iV pl (fM xs q).ix (p+1)) (fM xs p).ix (q+1)) i=if (fM xs p).ix=i then q+1 else if (fM xs q).ix=i then p+1 else fM pl i:=fun i=>by
  unfold iV
  rw[kN (by rw[gJ];omega),kN o_]
 refine⟨fun j hj=>?_,fun j hj=>?_,fun j hj=>?_,fun i j hi hij=>?_,by simp[iV,gJ];exact hpl,by rw[mI];exact h.len⟩
 . rw[mI]at hj
   rw[hs]
   split
   . exact ip
   . split
     . exact iq
     . exact h.ix j hj
 . rw[mI]at hj
   rw[hs]
   split
   . exact h.key p hp
   . split
     . exact h.key q hq
     . exact h.key j hj
 . rw[mI]at hj
   rw[hput,hs]
   by_cases e1:q=j
   . rw[if_pos e1,if_pos rfl,e1]
   . rw[if_neg e1]
     by_cases e2:p=j
     . rw[if_pos e2]
       subst e2
       by_cases e3:(fM xs p).ix=(fM xs q).ix
       . exact absurd (h.inj hp hq e3).symm e1
       . rw[if_neg e3,if_pos rfl]
     . rw[if_neg e2,if_neg (fun e=>e2 (h.inj hp hj e)),if_neg (fun e=>e1 (h.inj hq hj e))]
       exact h.at_ j hj
 . rw[hput]at hij
   rw[mI,hs]
   by_cases e1:(fM xs p).ix=i
   . rw[if_pos e1]at hij
     have:j=q:=by omega
     subst this
     exact⟨hq,by rw[if_pos rfl];exact e1⟩
   . rw[if_neg e1]at hij
     by_cases e2:(fM xs q).ix=i
     . rw[if_pos e2]at hij
       have:j=p:=by omega
       subst this
       refine⟨hp,?_⟩
       split
       . rename_i e;subst e;exact absurd e2 e1
       . rw[if_pos rfl];exact e2
     . rw[if_neg e2]at hij
       obtain⟨a,b⟩:=h.of i j hi hij
       refine⟨a,?_⟩
       rw[if_neg (fun e=>e1 (by rw[e]at hq;subst e;exact absurd b (fun b=>e2 b))),if_neg (fun e=>e1 (by subst e;exact b))]
       exact b
theorem Hp.push{n:Nat}{xs:List gj}{pl:List Nat}(h:Hp n xs pl){i:Nat}{k:Int}(hi:i<n)(h0:fM pl i=0)(hk:ij .i64 k):Hp n (xs++[⟨i,k⟩]) (iV pl i (xs.length+1)):=by
 have hpl:=h.pl
 have hput:∀ j,fM (iV pl i (xs.length+1)) j=if i=j then xs.length+1 else fM pl j:=fun j=>kN o_
 have hn:∀ p,fM (xs++[⟨i,k⟩]) p=if p<xs.length then fM xs p else if p=xs.length then⟨i,k⟩else default:=fun p=>by
  unfold fM
  rw[yQ]
  split
  . rfl
  . split
    . rename_i e;subst e;simp
    . rw[nk (by simp;omega)];rfl
 have hnew:∀ p,p<xs.length->(fM xs p).ix≠i:=fun p hp e=>by
  have:=h.at_ p hp
  rw[e,h0]at this
  omega
 refine⟨fun p hp=>?_,fun p hp=>?_,fun p hp=>?_,fun j p hj hp=>?_,by simp[iV,gJ];exact hpl,?_⟩
 . rw[hn]
   split
   . rename_i h1;exact h.ix p h1
   . rw[if_pos (by simp at hp;omega)];exact hi
 . rw[hn]
   split
   . rename_i h1;exact h.key p h1
   . rw[if_pos (by simp at hp;omega)];exact hk
 . rw[hput,hn]
   by_cases h1:p<xs.length
   . rw[if_pos h1,if_neg (fun e=>hnew p h1 e.symm)]
     exact h.at_ p h1
   . simp at hp
     have hpe:p=xs.length:=by omega
     subst hpe
     rw[if_neg h1,if_pos rfl,if_pos rfl]
 . rw[hput]at hp
   rw[hn]
   split at hp
   . rename_i e
     have:p=xs.length:=by omega
     subst this
     refine⟨s_,?_⟩
     rw[if_neg o_,if_pos rfl]
     exact e
   . obtain⟨a,b⟩:=h.of j p hj hp
     exact⟨by simp;omega,by rw[if_pos a];exact b⟩
 . -- places of different indexes: no more entries than indexes
   have hnd:((xs++[(⟨i,k⟩:gj)]).map gj.ix).Nodup:=by
    rw[qM,zw]
    refine⟨?_,s_,fun a ha b hb e=>?_⟩
    . refine yP.2 fun a b ha hb hlt hab=>?_
      simp only[zu]at ha hb
      refine absurd (h.inj ha hb ?_) o_
      have e1:(fM xs a).ix=xs[a].ix:=by simp[fM,ha]
      have e2:(fM xs b).ix=xs[b].ix:=by simp[fM,hb]
      rw[e1,e2]
      simpa using hab
    . simp at hb
      subst hb e
      obtain⟨x,hx,hxe⟩:=jW.1 ha
      obtain⟨p,hp,rfl⟩:=Ge.1 hx
      exact hnew p hp (by rw[<-hxe];simp[fM,hp])
   have:=nodup_len n _ hnd fun j hj=>by
    obtain⟨x,hx,rfl⟩:=jW.1 hj
    rcases zr.1 hx with hx|hx
    . obtain⟨p,hp,rfl⟩:=Ge.1 hx
      have:=h.ix p hp
      simpa[fM,hp]using this
    . simp at hx
      subst hx
      exact hi
   simpa using this
where
 nodup_len:∀ (n:Nat) (L:List Nat),L.Nodup->(∀ j∈L,j<n)->L.length<=n
  | 0,L,_,h=>by
   cases L with
   | nil=>simp
   | cons x L=>exact absurd (h x s_) o_
  | n+1,L,hn,h=>by
   have h1:=nodup_len n (L.erase n) (hn.erase n) (fun j hj=>by
    have h2:=h j (List.mem_of_mem_erase hj)
    have h3:j≠n:=fun e=>by subst e;exact(List.Nodup.not_mem_erase hn) hj
    omega)
   have:=List.length_erase_le (a:=n) (l:=L)
   by_cases hm:n∈L
   . have:=KN hm
     have:=Kx hm
     omega
   . rw[List.erase_of_not_mem hm]at h1;omega
theorem q6{α:Type}[Inhabited α]{xs:List α}{e:α}:e∈xs↔∃ p,p<xs.length/\fM xs p=e:=by
 constructor
 . intro h
   obtain⟨p,hp,rfl⟩:=Ge.1 h
   exact⟨p,hp,by simp[fM,hp]⟩
 . rintro⟨p,hp,rfl⟩
   exact ze (gA hp)
theorem Hr{xs:List gj}{p q:Nat}(hp:p<xs.length)(hq:q<xs.length)(e:gj):e∈iD xs p q↔e∈xs:=by
 have hs:=zL hp hq
 rw[q6,q6,mI]
 constructor
 . rintro⟨j,hj,rfl⟩
   rw[hs]
   split
   . exact⟨p,hp,rfl⟩
   . split
     . exact⟨q,hq,rfl⟩
     . exact⟨j,hj,rfl⟩
 . rintro⟨j,hj,rfl⟩
   by_cases e1:j=p
   . subst e1;exact⟨q,hq,by rw[hs,if_pos rfl]⟩
   . by_cases e2:j=q
     . subst e2
       refine⟨p,hp,?_⟩
       rw[hs]
       split
       . rename_i e;exact absurd e e1
       . rw[if_pos rfl]
     . exact⟨j,hj,by rw[hs,if_neg (fun e=>e2 e.symm),if_neg (fun e=>e1 e.symm)]⟩
theorem Ord.first{xs:List gj}(h:Ord xs):∀ p,p<xs.length->¬ iI (fM xs p) (fM xs 0):=by
 intro p
 induction p using Nat.strongRecOn with
 | _ p ih =>
  intro hp
  by_cases h0:p=0
  . subst h0;exact Dm _
  . have h1:pa p<p:=by simp only[pa];omega
    exact Hi (h p o_ hp) (ih (pa p) h1 o_)
theorem Ord.min{xs:List gj}(h:Ord xs){e:gj}(he:e∈xs):¬ iI e (fM xs 0):=by
 obtain⟨p,hp,rfl⟩:=q6.1 he
 exact h.first p hp
theorem qY{α:Type}[Inhabited α]{xs:List α}{m j:Nat}(h:j<m):fM (xs.take m) j=fM xs j:=by
 unfold fM
 rw[qN,if_pos h]
theorem Hp.cut{n:Nat}{xs:List gj}{pl:List Nat}{m:Nat}(h:Hp n xs pl)(hm:xs.length=m+1):Hp n (xs.take m) (iV pl (fM xs m).ix 0):=by
 have hpl:=h.pl
 have hlm:=h.ix m o_
 have hput:∀ j,fM (iV pl (fM xs m).ix 0) j=if (fM xs m).ix=j then 0 else fM pl j:=fun j=>kN o_
 have hl:(xs.take m).length=m:=by rw[l5];omega
 refine⟨fun p hp=>?_,fun p hp=>?_,fun p hp=>?_,fun i p hi hp=>?_,by simp[iV,gJ];exact hpl,by have:=h.len;omega⟩
 . rw[hl]at hp;rw[qY hp];exact h.ix p o_
 . rw[hl]at hp;rw[qY hp];exact h.key p o_
 . rw[hl]at hp
   rw[qY hp,hput,if_neg (fun e=>by have:=h.inj (p:=m) (q:=p) o_ o_ e;omega)]
   exact h.at_ p o_
 . rw[hput]at hp
   split at hp
   . omega
   . rename_i hne
     obtain⟨a,b⟩:=h.of i p hi hp
     have hpm:p<m:=by
      have:p≠m:=fun e=>hne (by rw[<-e];exact b)
      omega
     rw[hl,qY hpm]
     exact⟨hpm,b⟩
theorem Wt{n:Nat}{xs:List gj}{pl:List Nat}{m:Nat}(h:Hp n xs pl)(hm:xs.length=m+1)(e:gj):e∈xs.take m↔e∈xs/\e.ix≠(fM xs m).ix:=by
 have hl:(xs.take m).length=m:=by rw[l5];omega
 rw[q6,q6,hl]
 constructor
 . rintro⟨j,hj,rfl⟩
   rw[qY hj]
   exact⟨⟨j,o_,rfl⟩,fun e=>by have:=h.inj (p:=j) (q:=m) o_ o_ e;omega⟩
 . rintro⟨⟨j,hj,rfl⟩,hne⟩
   have:j≠m:=fun e=>hne (by rw[e])
   exact⟨j,o_,qY o_⟩
theorem Ord.cut{xs:List gj}{p m:Nat}(h:Ord xs)(hm:xs.length=m+1)(hp:p<m):tO ((iD xs p m).take m) p:=by
 have hl:((iD xs p m).take m).length=m:=by rw[l5,mI];omega
 have hs:=zL (xs:=xs) (show p<xs.length by omega) (show m<xs.length by omega)
 refine⟨fun j h0 hj hne hpa=>?_,fun h0 j hj0 hj e=>?_⟩
 . rw[hl]at hj
   have h1:pa j<m:=by simp only[pa];omega
   rw[qY hj,qY h1,hs,hs,if_neg o_,if_neg (fun e=>hne e.symm),if_neg o_,if_neg (fun e=>hpa e.symm)]
   exact h j h0 o_
 . rw[hl]at hj
   have h1:pa p<p:=by simp only[pa];omega
   have h2:j≠p:=by rintro rfl;omega
   rw[qY hj,qY o_,hs,hs,if_neg o_,if_neg (fun e=>h2 e.symm),if_neg o_,if_neg o_]
   exact Hi (h j hj0 o_) (by rw[e];exact h p h0 o_)
theorem Ord.Xi{xs:List gj}{m:Nat}(h:Ord xs)(hm:m<=xs.length):Ord (xs.take m):=by
 intro j h0 hj
 rw[l5]at hj
 have h1:pa j<m:=by simp only[pa];omega
 rw[qY o_,qY h1]
 exact h j h0 o_
theorem UA{xs:List gj}{p:Nat}(hp:p<xs.length):iD xs p p=xs:=by
 have e:∀ (l:List gj),p<l.length->fR l p (fun _=>fM l p)=l:=fun l hl=>by
  apply nE
  intro j
  unfold fR
  rw[sG]
  split
  . rename_i e;subst e;rw[gA hl]
  . rfl
 have e1:=e xs hp
 unfold iD
 rw[e1,e1]
theorem VH{xs:List gj}(h:Ord xs)(e:gj):tO (xs++[e]) xs.length:=by
 have hn:∀ p,p<xs.length->fM (xs++[e]) p=fM xs p:=fun p hp=>by
  unfold fM
  rw[tS hp]
 refine⟨fun j h0 hj hne hpa=>?_,fun h0 j hj0 hj e' => ?_⟩
 . simp at hj
   have h1:pa j<j:=by simp only[pa];omega
   rw[hn j o_,hn (pa j) o_]
   exact h j h0 o_
 . simp at hj
   have h1:pa j<j:=by simp only[pa];omega
   omega
end Go.Sx
namespace Go.Sx
open Go
section
variable {r:Option Nat} {P:Program} {ops:Array Oper} {Q:Exit->Act->World->Prop} {rest:List Oper} {n:Nat} {s:List (Nat×Value)} {ds:List Deferred} {w:World}
variable {d:Nat} {dd:Option Nat} {ty t t' e:TypeId} {pos:String} {af:Array Edge} {g:Option (Nat×Bool)} {x y:Operand} {a:Addr} {sz by_:Nat} {z:Value}
theorem Rt(k:Nat)(ht:P.underlying t=some (.pointer e))(hi:TI P e (sz+1) by_ z):(Op.equalIn (k+1) t (.pointer (some a)) (.pointer (some a))).run P w = .ok true w:=by
 simp[Op.equalIn,run_underlying ht,hi.size,sameAddr]
theorem XF(hx:ev n s x = .pointer (some a))(hy:ev n s y = .pointer (some a))(ht:P.underlying t=some (.pointer e))(hi:TI P e (sz+1) by_ z) :
 (execOp (ev n s) ⟨dd,.binOp .eql t x y t', ty,pos,af,g⟩).run P w = .ok (.value (.bool true)) w:=by
 simp[execOp,hx,hy,eqGuard,binOp,Op.equal,Op.maxDepth,Rt 9999 ht hi]
theorem Fj(hg:gy ops n s g=true)(hx:ev n s x = .pointer (some a))(hy:ev n s y = .pointer (some a))(ht:P.underlying t=some (.pointer e))(hi:TI P e (sz+1) by_ z)
 (K:WL r P ops Q rest (Fr n ((d,.bool true) :: s) ds) w):WL r P ops Q (⟨some d,.binOp .eql t x y t', ty,pos,af,g⟩ :: rest) (Fr n s ds) w:=pv hg rfl (XF hx hy ht hi) K
end
end Go.Sx
namespace Go.Sx
open Go
theorem we(b:Nat){a:Nat}(h:a<=9223372036854775807):IntKind.i64.wrap ((a:Int).tdiv (b:Int))=((a / b:Nat):Int):=by
 have:a / b<=a:=Nat.div_le_self _ _
 rw[Int.tdiv_eq_ediv_of_nonneg o_,show (a:Int) / (b:Int)=((a / b:Nat):Int) from rfl]
 generalize a / b=c at this
 rw[IntKind.wrap_i64]
 omega
theorem Cp(b:Nat){a:Nat}:(a:Int).tmod (b:Int)=((a%b:Nat):Int):=by
 rw[Br o_];rfl
def mP(x y:Int):Int:=if x<y then -1 else if y<x then 1 else 0
theorem Wu(x y:Int):ij .i64 (mP x y):=by
 show (-9223372036854775808:Int)<=_/\_<=(9223372036854775807:Int)
 unfold mP
 (repeat' split)<;>omega
def pe:List Int->Int
 | []=>0
 | x :: l=>if x=0 then pe l else x
theorem Nc{xs:List Int}{k:Nat}(h:∀ j x,j<k->xs[j]? = some x->x=0):pe xs=pe (xs.drop k):=by
 induction xs generalizing k with
 | nil=>simp[pe]
 | cons y xs ih =>
  cases k with
  | zero=>rfl
  | succ k =>
   have h0:=h 0 y o_ rfl
   simp only[pe,if_pos h0,List.drop_succ_cons]
   exact ih fun j x hj hx=>h (j+1) x o_ (by simpa using hx)
theorem Ym{xs:List Int}{k:Nat}{x:Int}(h:∀ j x,j<k->xs[j]? = some x->x=0)(hx:xs[k]? = some x)(h0:x≠0):pe xs=x:=by
 rw[Nc h]
 have:=(zb.1 hx)
 obtain⟨hl,e⟩:=this
 rw[x8 hl,e]
 simp[pe,h0]
theorem Xy{xs:List Int}{k:Nat}(h:∀ j x,j<k->xs[j]? = some x->x=0)(hk:k=xs.length):pe xs=0:=by
 rw[Nc h,hk]
 simp[pe]
theorem Wn{xs:List Int}{k:Nat}{y:Int}(h:∀ j x,j<k->xs[j]? = some x->x=0)(hx:xs[k]? = some y)(h0:y=0):∀ j x,j<k+1->xs[j]? = some x->x=0:=by
 intro j x hj hjx
 by_cases e:j=k
 . subst e
   rw[hx]at hjx
   cases hjx
   exact h0
 . exact h j x o_ hjx
theorem Xn(a b:gj):pe [mP a.key b.key,mP a.ix b.ix]=tC a b:=by
 unfold pe pe pe mP tC
 (repeat' split)<;>omega
structure js (n:Nat) (ps:List (Option Nat)) (pl:List Nat):Prop where
 len:pl.length=64*ps.length
 room:n<=pl.length
 zero:∀ j,ps[j]? = some none->∀ i,i / 64=j->fM pl i=0
 val:∀ i,fM pl i<=65536
 n:n<=65536
 top:ps.length<=1000000
theorem js.at{n:Nat}{ps:List (Option Nat)}{pl:List Nat}(h:js n ps pl){i:Nat}(hi:i<n):i / 64<ps.length:=by
 have h1:=h.len
 have h2:=h.room
 omega
theorem js.Yp{n:Nat}{ps:List (Option Nat)}{pl:List Nat}(h:js n ps pl){j:Nat}(hj:ps[j]? = some none):List.replicate 64 (Value.int .i64 0)=((pl.drop (64*j)).take 64).flatMap (fun(x:Nat)=>[.int .i64 (x:Int)]):=by
 have hjl:=(zb.1 hj).1
 have hl:=h.len
 have e:(pl.drop (64*j)).take 64=List.replicate 64 0:=by
  rw[List.eq_replicate_iff]
  refine⟨by rw[l5,wU];omega,fun x hx=>?_⟩
  obtain⟨q,hq,rfl⟩:=Ge.1 hx
  rw[l5,wU]at hq
  have h1:=h.zero j hj (64*j+q) o_
  have h2:64*j+q<pl.length:=by omega
  simp only[fM,zo h2,Bp]at h1
  simp[h1]
 rw[e]
 rfl
theorem js.set{n:Nat}{ps:List (Option Nat)}{pl:List Nat}(h:js n ps pl){i p b:Nat}(hi:i<n)(hp:p<=65536)(hb:ps[i / 64]? = some (some b)):js n ps (iV pl i p):=by
 have hr:=h.room
 refine⟨by simp only[iV,gJ];exact h.len,by simp only[iV,gJ];exact hr,fun j hj q hq=>?_,fun q=>?_,h.n,h.top⟩
 . unfold iV
   rw[kN o_,if_neg (fun e=>by subst e;rw[hq]at hb;rw[hj]at hb;cases hb)]
   exact h.zero j hj q hq
 . unfold iV
   rw[kN o_]
   split
   . exact hp
   . exact h.val q
theorem js.made{n:Nat}{ps:List (Option Nat)}{pl:List Nat}(h:js n ps pl){j b:Nat}:js n (ps.set j (some b)) pl:=by
 refine⟨by rw[List.length_set];exact h.len,h.room,fun q hq=>?_,h.val,h.n,by rw[List.length_set];exact h.top⟩
 rw[sG]at hq
 split at hq
 . split at hq<;>cases hq
 . exact h.zero q hq
instance:Inhabited (Option Nat):=⟨none⟩
abbrev gP(x:Nat):List Value:=[.int .i64 (x:Int)]
theorem paN{p:Nat}(h:p<=65536):IntKind.i64.wrap (((p:Int)-1).tdiv 2)=((pa p:Nat):Int):=by
 cases p with
 | zero=>rfl
 | succ p =>
  have e:((p+1:Nat):Int)-1=(p:Int):=by omega
  rw[e]
  have:=we 2 (a:=p) o_
  exact this
def rj(xs:List gj)(p:Nat):Int:=if 0<p/\iI (fM xs p) (fM xs (pa p))then(pa p:Int)else -1
def nH(xs:List gj)(p:Nat):Int:=if jo xs p=p then -1 else(jo xs p:Int)
theorem TV{xs:List gj}{p:Nat}(h:rj xs p ≠ -1):rj xs p=((pa p:Nat):Int)/\0<p/\iI (fM xs p) (fM xs (pa p)):=by
 unfold rj at h ⊢
 split
 . rename_i h1;exact⟨rfl,h1⟩
 . rename_i h1;rw[if_neg h1]at h;exact absurd rfl h
theorem Sw{xs:List gj}{p:Nat}(h:rj xs p = -1):¬ (0<p/\iI (fM xs p) (fM xs (pa p))):=by
 intro h1
 unfold rj at h
 rw[if_pos h1]at h
 omega
theorem Uw{xs:List gj}{p:Nat}(h:nH xs p ≠ -1):nH xs p=((jo xs p:Nat):Int)/\jo xs p≠p:=by
 unfold nH at h ⊢
 split
 . rename_i h1;rw[if_pos h1]at h;exact absurd rfl h
 . rename_i h1;exact⟨rfl,h1⟩
theorem SC{xs:List gj}{p:Nat}(h:nH xs p = -1):jo xs p=p:=by
 unfold nH at h
 split at h
 . assumption
 . omega
structure mg (n:Nat) (xs ys:List gj) (ps qs:List (Option Nat)) (pl:List Nat):Prop where
 hp:Hp n ys pl
 kG:js n qs pl
 len:ys.length=xs.length
 mem:∀ e,e∈ys↔e∈xs
 oF:qs.length=ps.length
theorem mg.swap{n:Nat}{xs ys:List gj}{ps qs rs:List (Option Nat)}{pl:List Nat}{p q:Nat}(h:mg n xs ys ps qs pl)(hp:p<ys.length)(hq:q<ys.length)(hl:rs.length=qs.length)
 (hP:js n rs (iV (iV pl (fM (iD ys p q) p).ix (p+1)) (fM (iD ys p q) q).ix (q+1))):mg n xs (iD ys p q) ps rs (iV (iV pl (fM (iD ys p q) p).ix (p+1)) (fM (iD ys p q) q).ix (q+1)) :=
 ⟨h.hp.swap hp hq,hP,by rw[mI,h.len],fun e=>(Hr hp hq e).trans (h.mem e),hl.trans h.oF⟩
theorem mg.refl{n:Nat}{xs:List gj}{ps:List (Option Nat)}{pl:List Nat}(h:Hp n xs pl)(hP:js n ps pl):mg n xs xs ps ps pl:=⟨h,hP,rfl,fun _=>Iff.rfl,rfl⟩
theorem mg.trans{n:Nat}{xs ys zs:List gj}{ps qs rs:List (Option Nat)}{pl ql:List Nat}(h:mg n xs ys ps qs pl)(k:mg n ys zs qs rs ql):mg n xs zs ps rs ql :=
 ⟨k.hp,k.kG,k.len.trans h.len,fun e=>(k.mem e).trans (h.mem e),k.oF.trans h.oF⟩
theorem js.copy{n k:Nat}{ps qs:List (Option Nat)}{pl:List Nat}(h:js n ps pl)(c:qQ ps qs k)(hk:k=ps.length):js n qs pl :=
 ⟨by rw[c.len];exact h.len,h.room,fun j hj i hi=>h.zero j (c.done j (by have:=(zb.1 hj).1;have:=c.len;omega) hj) i hi,h.val,h.n,by rw[c.len];exact h.top⟩
theorem js.new{n m:Nat}(hn:n<=65536)(hm:m=(n+63) / 64):js n (List.replicate m none) (List.replicate (64*m) 0):=by
 have h0:∀ i,fM (List.replicate (64*m) 0) i=0:=fun i=>by
  unfold fM
  rw[AT]
  split<;>rfl
 exact⟨s_,by simp;omega,fun j _ i _=>h0 i,fun i=>by rw[h0];omega,hn,by simp;omega⟩
theorem Hp.new{n m:Nat}(hm:m=(n+63) / 64):Hp n [] (List.replicate (64*m) 0):=by
 have h0:∀ i,fM (List.replicate (64*m) 0) i=0:=fun i=>by
  unfold fM
  rw[AT]
  split<;>rfl
 exact⟨fun p hp=>by simp at hp,fun p hp=>by simp at hp,fun p hp=>by simp at hp,fun i p _ hp=>by rw[h0]at hp;omega,by simp;omega,s_⟩
theorem Ord.nil:Ord []:=fun j _ hj=>by simp at hj
end Go.Sx
namespace Go.Sx
open Go
structure gM where
 st:Int
 after:Int
 times:Int
 deriving Inhabited
def gM.cells(x:gM):List Value:=[.int .i64 x.st,.int .i64 x.after,.int .u64 x.times]
structure As where
 n:Nat
 begun:Nat
 used:Nat
 last:Int
 sl:List gM
 fl:List Nat
 ps:List (Option Nat)
def CP(sl:List gM):Int->List Nat->Prop
 | l,[]=>l = -1
 | l,i :: r=>l=(i:Int)/\CP sl (fM sl i).after r
def As.ia(A:As)(i:Nat):Prop:=i<A.begun/\i∉A.fl
structure As.ok (A:As):Prop where
 n:A.n<=65536
 le:A.begun<=A.n
 oF:A.ps.length=(A.begun+63) / 64
 ps:∀ j,j<A.ps.length->∃ b,A.ps[j]? = some (some b)
 sl:A.sl.length=64*A.ps.length
 nodup:A.fl.Nodup
 fl:∀ i∈A.fl,i<A.begun
 chain:CP A.sl A.last A.fl
 st:∀ i,i<A.begun->(fM A.sl i).st=if i∈A.fl then 2 else 1
 used:A.used+A.fl.length=A.begun
theorem DB:∀ (L M:List Nat),L.Nodup->(∀ j∈L,j∈M)->L.length<=M.length
 | [],_,_,_=>by simp
 | x :: L,M,hn,h=>by
  have hx:=h x s_
  have h1:=DB L (M.erase x) (zx.1 hn).2 (fun j hj=>(List.mem_erase_of_ne (fun e=>(zx.1 hn).1 (by rw[<-e];exact hj))).2 (h j (by simp[hj])))
  rw[KN hx]at h1
  have:=Kx hx
  simp only[zk]
  omega
theorem BN(n:Nat)(L:List Nat)(hn:L.Nodup)(h:∀ j∈L,j<n):L.length<=n:=by
 have:=DB L (List.range n) hn (fun j hj=>ni.2 (h j hj))
 simpa using this
theorem As.ok.room{A:As}(h:A.ok){i:Nat}(hi:i<A.begun):i<A.sl.length/\i / 64<A.ps.length:=by
 have h1:=h.sl
 have h2:=h.oF
 omega
theorem As.ok.at{A:As}(h:A.ok){i:Nat}(hi:i<A.begun):∃ b,A.ps[i / 64]? = some (some b):=h.ps _ (h.room hi).2
theorem CP.congr{sl sl' : List gM}:∀ {r:List Nat} {l:Int},CP sl l r->(∀ i∈r,(fM sl' i).after=(fM sl i).after)->CP sl' l r
 | [],_,h,_=>h
 | i :: r,l,h,he=>⟨h.1,by rw[he i s_];exact h.2.congr fun j hj=>he j (by simp[hj])⟩
def tk(x:gM):gM:=⟨1,-1,IntKind.u64.wrap (x.times+1)⟩
theorem Kn{sl:List gM}{i:Nat}(hi:i<sl.length){t:Int}(ht:t=IntKind.u64.wrap ((fM sl i).times+1)):fR (fR (fR sl i (fun x=>{ x with st:=1 })) i (fun x=>{ x with after := -1 })) i (fun x=>{ x with times:=t })=fR sl i tk:=by
 subst ht
 have e:∀ (l:List gM) (f g:gM->gM),i<l.length->fR (fR l i f) i g=fR l i (fun x=>g (f x)):=fun l f g h=>by
  have e:=kQ (f:=f) h
  unfold fR at e ⊢
  rw[e,List.set_set]
 rw[e _ _ _ hi,e _ _ _ hi]
 rfl
theorem As.ok.pop{A:As}(h:A.ok){i:Nat}{r:List Nat}(hf:A.fl=i :: r) :
 As.ok ⟨A.n,A.begun,A.used+1,(fM A.sl i).after,fR A.sl i tk,r,A.ps⟩/\(∀ j,As.ia ⟨A.n,A.begun,A.used+1,(fM A.sl i).after,fR A.sl i tk,r,A.ps⟩ j↔A.ia j\/j=i)/\¬ A.ia i/\i<A.begun/\A.last=(i:Int):=by
 have hc:=h.chain
 have hn:=h.nodup
 rw[hf]at hc hn
 rw[zx]at hn
 have hib:i<A.begun:=h.fl i (by rw[hf];simp)
 have hil:=(h.room hib).1
 have hu:=fun j=>kN (xs:=A.sl) (k:=i) (j:=j) (f:=tk) hil
 refine⟨⟨h.n,h.le,h.oF,h.ps,by simp only[gJ];exact h.sl,hn.2,fun j hj=>h.fl j (by rw[hf];simp[hj]),?_,fun j hj=>?_,?_⟩,fun j=>?_,fun hu=>hu.2 (by rw[hf];simp),hib,hc.1⟩
 . refine hc.2.congr fun j hj=>?_
   rw[hu,if_neg (fun e=>hn.1 (by rw[e];exact hj))]
 . simp only
   rw[hu]
   split
   . rename_i e
     subst e
     rw[if_neg hn.1]
     rfl
   . rename_i e
     have:=h.st j hj
     rw[this,hf]
     simp only[zg]
     by_cases h1:j∈r
     . rw[if_pos (.inr h1),if_pos h1]
     . rw[if_neg (fun h2=>h2.elim (fun h3=>e h3.symm) h1),if_neg h1]
 . have:=h.used
   rw[hf]at this
   simp only[zk]at this
   show A.used+1+r.length=A.begun
   omega
 . simp only[As.ia,hf,zg,not_or]
   constructor
   . rintro⟨a,b⟩
     by_cases e:j=i
     . exact .inr e
     . exact .inl ⟨a,e,b⟩
   . rintro(⟨a,b,c⟩|rfl)
     . exact⟨a,c⟩
     . exact⟨hib,hn.1⟩
theorem As.ok.fresh{A:As}(h:A.ok)(hf:A.fl=[])(hlt:A.begun<A.n){ps2:List (Option Nat)}{sl2:List gM}{b:Nat}(hb:(A.begun%64=0/\ps2=A.ps++[some b]/\sl2=A.sl++List.replicate 64 ⟨0,0,0⟩)\/(A.begun%64≠0/\ps2=A.ps/\sl2=A.sl)) :
 As.ok ⟨A.n,A.begun+1,A.used+1,A.last,fR sl2 A.begun tk,[],ps2⟩/\(∀ j,As.ia ⟨A.n,A.begun+1,A.used+1,A.last,fR sl2 A.begun tk,[],ps2⟩ j↔A.ia j\/j=A.begun)/\¬ A.ia A.begun/\A.last = -1/\A.begun<sl2.length/\∃ c,ps2[A.begun / 64]? = some (some c):=by
 have hc:=h.chain
 have h1:=h.sl
 have h2:=h.oF
 rw[hf]at hc
 have hps:ps2.length=(A.begun+1+63) / 64/\sl2.length=64*ps2.length/\(∀ j,j<ps2.length->∃ b,ps2[j]? = some (some b))/\∀ j,j<A.begun->fM sl2 j=fM A.sl j:=by
  rcases hb with ⟨e,rfl,rfl⟩|⟨e,rfl,rfl⟩
  . refine⟨by simp;omega,by simp;omega,fun j hj=>?_,fun j hj=>?_⟩
    . rw[yQ]
      split
      . exact h.ps j (by assumption)
      . simp at hj
        have:j-A.ps.length=0:=by omega
        rw[this]
        exact⟨b,rfl⟩
    . unfold fM
      rw[tS o_]
  . exact⟨o_,h1,h.ps,fun j _=>rfl⟩
 obtain⟨p1,p2,p3,p4⟩:=hps
 have hlt2:A.begun<sl2.length:=by omega
 have hu:=fun j=>kN (xs:=sl2) (k:=A.begun) (j:=j) (f:=tk) hlt2
 refine⟨⟨h.n,by show A.begun+1<=A.n;omega,p1,p3,by simp only[gJ];exact p2,wO,fun i hi=>by simp at hi,hc,fun j hj=>?_,?_⟩,fun j=>?_,fun hu=>absurd hu.1 o_,hc,hlt2,p3 _ o_⟩
 . simp only[sw,if_false]
   rw[hu]
   split
   . rfl
   . rename_i e
     have hj' : j<A.begun:=by
      have:j<A.begun+1:=hj
      omega
     rw[p4 j hj', h.st j hj', hf]
     simp
 . have:=h.used
   rw[hf]at this
   simp at this ⊢
   omega
 . simp only[As.ia,hf,sw,not_false_eq_true,and_true]
   omega
theorem As.ok.full{A:As}(h:A.ok)(hu:A.used<A.n):(∃ i r,A.fl=i :: r)\/(A.fl=[]/\A.begun<A.n):=by
 have h1:=h.used
 cases hf:A.fl with
 | cons i r=>exact .inl ⟨i,r,rfl⟩
 | nil =>
  rw[hf]at h1
  simp at h1
  exact .inr ⟨rfl,o_⟩
theorem As.ok.free{A:As}(h:A.ok){i:Nat}(hi:A.ia i){sl2:List gM}(hs:sl2=fR (fR A.sl i (fun x=>{ x with st:=2 })) i (fun x=>{ x with after:=A.last })) :
 As.ok ⟨A.n,A.begun,A.used-1,(i:Int),sl2,i :: A.fl,A.ps⟩/\(∀ j,As.ia ⟨A.n,A.begun,A.used-1,(i:Int),sl2,i :: A.fl,A.ps⟩ j↔A.ia j/\j≠i)/\0<A.used:=by
 obtain⟨hib,hif⟩:=hi
 have hil:=(h.room hib).1
 have h1:=h.used
 have hu0:0<A.used:=by
  have hsub:(i :: A.fl).length<=A.begun:=by
   have hn:(i :: A.fl).Nodup:=zx.2 ⟨hif,h.nodup⟩
   exact BN A.begun _ hn fun j hj=>by
    rcases zg.1 hj with rfl|hj
    . exact hib
    . exact h.fl j hj
  simp only[zk]at hsub
  omega
 have hu:∀ j,fM sl2 j=if i=j then { fM A.sl i with st:=2,after:=A.last } else fM A.sl j:=fun j=>by
  subst hs
  rw[kN (by rw[gJ];exact hil)]
  by_cases e:i=j
  . rw[if_pos e,if_pos e,kQ hil]
  . rw[if_neg e,if_neg e,kM e]
 refine⟨⟨h.n,h.le,h.oF,h.ps,by rw[hs];simp only[gJ];exact h.sl,zx.2 ⟨hif,h.nodup⟩,fun j hj=>?_,⟨rfl,?_⟩,fun j hj=>?_,by simp only[zk];omega⟩,fun j=>?_,hu0⟩
 . rcases zg.1 hj with rfl|hj
   . exact hib
   . exact h.fl j hj
 . rw[hu,if_pos rfl]
   refine h.chain.congr fun j hj=>?_
   rw[hu,if_neg (fun e=>hif (by rw[e];exact hj))]
 . simp only
   rw[hu]
   split
   . rename_i e
     subst e
     simp
   . rename_i e
     rw[h.st j hj]
     simp only[zg]
     by_cases h1:j∈A.fl
     . rw[if_pos h1,if_pos (.inr h1)]
     . rw[if_neg h1,if_neg (fun h2=>h2.elim (fun h3=>e h3.symm) h1)]
 . simp only[As.ia,zg,not_or]
   constructor
   . rintro⟨a,b,c⟩;exact⟨⟨a,c⟩,b⟩
   . rintro⟨⟨a,c⟩,b⟩;exact⟨a,b,c⟩
def As.list(A:As)(k:Nat):List Nat:=(List.range k).filter fun i=>decide ((fM A.sl i).st=1)
theorem As.ME(A:As)(k:Nat):A.list (k+1)=if (fM A.sl k).st=1 then A.list k++[k]else A.list k:=by
 unfold As.list
 rw[List.range_succ,List.filter_append]
 split
 . rename_i h;simp[h]
 . rename_i h;simp[h]
theorem As.MQ(A:As):∀ k,(A.list k).length<=k:=fun k=>by
 have:=List.length_filter_le (fun i=>decide ((fM A.sl i).st=1)) (List.range k)
 simpa[As.list]using this
theorem As.ok.pK{A:As}(h:A.ok)(i:Nat):i∈A.list A.begun↔A.ia i:=by
 simp only[As.list,FJ,ni,decide_eq_true_eq,As.ia]
 constructor
 . rintro⟨a,b⟩
   refine⟨a,fun hf=>?_⟩
   rw[h.st i a,if_pos hf]at b
   omega
 . rintro⟨a,b⟩
   exact⟨a,by rw[h.st i a,if_neg b]⟩
theorem As.Dh(A:As)(k:Nat):(A.list k).Pairwise (· < ·):=List.Pairwise.filter _ List.pairwise_lt_range
theorem As.ok.DK{A:As}(h:A.ok):(A.list A.begun).length=A.used:=by
 have hn:(A.list A.begun++A.fl).Nodup:=by
  rw[zw]
  refine⟨(A.Dh _).imp (fun h=>C7 h),h.nodup,fun a ha b hb e=>?_⟩
  subst e
  exact((h.pK a).1 ha).2 hb
 have h1:(A.list A.begun++A.fl).length<=A.begun:=BN _ _ hn fun j hj=>by
  rcases zr.1 hj with hj|hj
  . exact((h.pK j).1 hj).1
  . exact h.fl j hj
 have h2:(List.range A.begun).length<=(A.list A.begun++A.fl).length:=by
  refine DB _ _ C4 fun j hj=>?_
  rw[ni]at hj
  by_cases e:j∈A.fl
  . exact wu _ e
  . exact uO _ ((h.pK j).2 ⟨hj,e⟩)
 have h3:=h.used
 simp only[zn,List.length_range]at h1 h2
 omega
def As.new(n:Nat):As:=⟨n,0,0,-1,[],[],[]⟩
theorem As.vN{n:Nat}(hn:n<=65536):(As.new n).ok :=
 ⟨hn,oG _,by simp[As.new],fun j hj=>by simp[As.new]at hj,rfl,wO,fun i hi=>by simp[As.new]at hi,rfl,fun i hi=>by simp[As.new]at hi,rfl⟩
theorem As.ok.copy{A:As}(h:A.ok){qs:List (Option Nat)}(hl:qs.length=A.ps.length)(hq:∀ j,j<qs.length->∃ b,qs[j]? = some (some b)):As.ok { A with ps:=qs } :=
 ⟨h.n,h.le,by show qs.length=_;rw[hl];exact h.oF,hq,by show A.sl.length=_;rw[h.sl,hl],h.nodup,h.fl,h.chain,h.st,h.used⟩
theorem Ts{α:Type}(l:List α)(B k:Nat):l.take (B*k)++(l.drop (B*k)).take B=l.take (B*(k+1)):=by
 rw[Be,Nat.mul_one,List.take_add]
structure x9 (qs:List (Option Nat)) (k:Nat):Prop where
 len:qs.length=k
 all:∀ j,j<qs.length->∃ b,qs[j]? = some (some b)
theorem x9.start:x9 [] 0:=⟨rfl,fun j hj=>by simp at hj⟩
theorem x9.next{qs:List (Option Nat)}{k b:Nat}(h:x9 qs k):x9 (qs++[some b]) (k+1) :=
 ⟨by simp[h.len],fun j hj=>by
  rw[yQ]
  split
  . exact h.all j (by assumption)
  . simp at hj
    have:j-qs.length=0:=by omega
    rw[this]
    exact⟨b,rfl⟩⟩
theorem XY{α:Type}{l:List α}{B m k:Nat}(hl:l.length=B*m)(hk:k<m):((l.drop (B*k)).take B).length=B/\(l.take (B*k)).length=B*k:=by
 have:B*(k+1)<=B*m:=CG _ hk
 rw[Be]at this
 rw[l5,wU,l5]
 omega
end Go.Sx
namespace Go.Sx
open Go
structure AW where
 bv:Value
 A:As
structure AW.put (A A2:As) (i:Nat):Prop where
 n:A2.n=A.n
 used:A2.used=A.used+1
 ia:∀ j,A2.ia j↔A.ia j\/j=i
 new:¬ A.ia i
 o5:(i<A.begun/\A2.begun=A.begun)\/(i=A.begun/\A2.begun=A.begun+1)
structure AW.del (A A2:As) (i:Nat):Prop where
 n:A2.n=A.n
 o5:A2.begun=A.begun
 used:A2.used=A.used-1
 pos:0<A.used
 ia:∀ j,A2.ia j↔A.ia j/\j≠i
def kW(a:Int):Int:=(nS .xor .u64 a (a.fdiv (2 ^ 33))).getD 0
def mF(c a:Int):Int:=IntKind.u64.wrap (a*c)
def An(id:Int):Int:=kW (mF 14181476777654086739 (kW (mF 18397679294719823053 (kW id))))
def kI(n:Nat)(id:Int):Nat:=(An id%(n:Int)).toNat
theorem xu{n:Nat}{id:Int}(h:0<n):kI n id<n:=by
 have h1:=Int.emod_lt_of_pos (An id) (show (0:Int)<n by omega)
 have h2:=Cy (An id) (show (n:Int)≠0 by omega)
 unfold kI
 omega
theorem T7{n:Nat}{id:Int}(h:0<n):An id%(n:Int)=(kI n id:Int):=by
 have h2:=Cy (An id) (show (n:Int)≠0 by omega)
 unfold kI
 omega
def P2(n:Nat):Prop:=∃ k,k<=40/\n=2 ^ k
theorem P2.pos{n:Nat}(h:P2 n):0<n:=by
 obtain⟨k,_,rfl⟩:=h
 exact Nat.two_pow_pos k
theorem P2.le{n:Nat}(h:P2 n):n<=1099511627776:=by
 obtain⟨k,hk,rfl⟩:=h
 calc 2 ^ k<=2 ^ 40:=Nat.pow_le_pow_right d_ hk
  _=1099511627776:=by decide
theorem P2.Qj{n:Nat}(h:P2 n)(x:Int):((BitVec.ofInt 64 x) &&& (BitVec.ofInt 64 ((n:Int)-1))).toNat=(x%(n:Int)).toNat:=by
 have hn:=h.pos
 have hl:=h.le
 obtain⟨k,hk,rfl⟩:=h
 rw[BitVec.toNat_and,BitVec.toNat_ofInt,BitVec.toNat_ofInt]
 have e:(((2 ^ k:Nat):Int)-1)%((2 ^ 64:Nat):Int)=((2 ^ k-1:Nat):Int):=by
  rw[Int.emod_eq_of_lt o_ o_]
  omega
 rw[e,ua,Nat.and_two_pow_sub_one_eq_mod]
 have hd:(((2 ^ k:Nat):Int)) ∣ ((2 ^ 64:Nat):Int):=by
  refine Int.natCast_dvd_natCast.2 (Nat.pow_dvd_pow 2 o_)
 have h0:0<=x%((2 ^ 64:Nat):Int):=Cy _ d_
 have h1:=Int.emod_emod_of_dvd x hd
 have h2:((x%((2 ^ 64:Nat):Int)).toNat%2 ^ k:Nat)=((x%((2 ^ 64:Nat):Int))%((2 ^ k:Nat):Int)).toNat:=by
  obtain⟨m,hm⟩:=Int.eq_ofNat_of_zero_le h0
  rw[hm]
  simp only[ua]
  rw[<-Int.natCast_emod,ua]
 rw[h2,h1]
theorem P2.Py{n:Nat}(h:P2 n)(x:Int):nS .and .i64 x ((n:Int)-1)=some (x%(n:Int)):=by
 have h1:=Int.emod_lt_of_pos x (show (0:Int)<n by have:=h.pos;omega)
 have h2:=Cy x (show (n:Int)≠0 by have:=h.pos;omega)
 have h3:=h.le
 have e:=h.Qj x
 show some (IntKind.i64.wrap (((BitVec.ofInt 64 x) &&& (BitVec.ofInt 64 ((n:Int)-1))).toNat:Int))=_
 rw[e,iZ o_]
 congr 1
 omega
theorem P2.aaN{n:Nat}(h:P2 n)(x:Int):nS .and .u64 x ((n:Int)-1)=some (x%(n:Int)):=by
 have h1:=Int.emod_lt_of_pos x (show (0:Int)<n by have:=h.pos;omega)
 have h2:=Cy x (show (n:Int)≠0 by have:=h.pos;omega)
 have h3:=h.le
 have e:=h.Qj x
 show some (IntKind.u64.wrap (((BitVec.ofInt 64 x) &&& (BitVec.ofInt 64 ((n:Int)-1))).toNat:Int))=_
 rw[e,Ax o_]
 congr 1
 omega
theorem P2.nx{n c:Nat}(h:P2 n)(hc:c<n):nS .and .i64 ((c:Int)+1) ((n:Int)-1)=some ((gZ n c:Nat):Int):=by
 rw[h.Py,<-Wz hc]
 rfl
theorem P2.dst{n a b:Nat}(h:P2 n)(ha:a<n)(hb:b<n):nS .and .i64 ((b:Int)-(a:Int)) ((n:Int)-1)=some ((dst n a b:Nat):Int):=by
 rw[h.Py]
 congr 1
 unfold Sx.dst
 split
 . rw[Int.emod_eq_of_lt o_ o_]
   omega
 . rw[show (b:Int)-(a:Int)=((b:Int)-a+n)+n*(-1) by omega,Int.add_mul_emod_self_left,Int.emod_eq_of_lt o_ o_]
   omega
theorem IK(a:Int):nS .xor .u64 a (a.fdiv (2 ^ 33))=some (kW a):=rfl
theorem P2.home{n:Nat}(h:P2 n)(id:Int):nS .and .u64 (An id) ((n:Int)-1)=some ((kI n id:Nat):Int):=by
 rw[h.aaN,T7 h.pos]
def jH(x:Int):List Value:=[.int .u64 x]
structure TW where
 iv:Value
 cv:Value
 w:AW
 ids:List Int
 cs:List Nat
abbrev TW.A(t:TW):As:=t.w.A
abbrev TW.n(t:TW):Nat:=t.cs.length
structure TW.ok (t:TW):Prop where
 p2:P2 t.n
 top:t.n<=1000000
 two:2<=t.n
 room:2*t.A.n<=t.n
 an:t.A.n<=65536
 yL:t.ids.length=t.A.begun
 ids:∀ i,ij .u64 (fM t.ids i)
 cell:∀ i,(∃ p,p<t.n/\fM t.cs p=i+1)↔t.A.ia i
 inj:∀ p q,p<t.n->q<t.n->fM t.cs p≠0->fM t.cs p=fM t.cs q->p=q
 uniq:∀ i j,t.A.ia i->t.A.ia j->fM t.ids i=fM t.ids j->i=j
 Gi:rL t.n t.cs (fun i=>kI t.n (fM t.ids i))
 o5:t.A.begun<=t.A.n
 ul:t.A.used<=t.A.n
structure TW.Sz (n:Nat):Prop where
 p2:P2 n
 two:2<=n
 top:n<=1000000
theorem TW.ok.sz{t:TW}(h:t.ok):TW.Sz t.n:=⟨h.p2,h.two,h.top⟩
def TW.mem(t:TW)(id:Int):Prop:=∃ i,t.A.ia i/\fM t.ids i=id
theorem TW.ok.val{t:TW}(h:t.ok){p i:Nat}(hp:p<t.n)(hc:fM t.cs p=i+1):t.A.ia i/\i<t.A.begun/\i<t.ids.length/\i<t.A.n:=by
 have h1:=(h.cell i).1 ⟨p,hp,hc⟩
 have h2:=h1.1
 have h3:=h.yL
 have h4:=h.o5
 exact⟨h1,h2,o_,o_⟩
theorem TW.ok.zero{t:TW}(h:t.ok):∃ z,z<t.n/\fM t.cs z=0:=by
 by_cases hz:∃ z,z<t.n/\fM t.cs z=0
 . exact hz
 . exfalso
   have hn:∀ p,p<t.n->fM t.cs p≠0:=fun p hp h0=>hz ⟨p,hp,h0⟩
   have h1:((List.range t.n).map fun p=>fM t.cs p-1).length<=t.A.n:=by
    refine BN _ _ ?_ ?_
    . unfold List.Nodup
      rw[List.pairwise_map]
      refine List.Pairwise.imp_of_mem ?_ (List.pairwise_lt_range (n:=t.n))
      intro p q hp hq hlt e
      rw[ni]at hp hq
      have a1:=hn p hp
      have a2:=hn q hq
      have:=h.inj p q hp hq a1 o_
      omega
    . intro j hj
      obtain⟨p,hp,rfl⟩:=jW.1 hj
      rw[ni]at hp
      have a1:=hn p hp
      exact(h.val hp (i:=fM t.cs p-1) o_).2.2.2
   rw[zu,List.length_range]at h1
   have:=h.room
   have:=h.two
   omega
def TW.find(t:TW)(id:Int):Nat×Bool:=uF t.n t.cs (fun i=>fM t.ids i==id) t.n (kI t.n id)
theorem TW.ok.Ir{t:TW}(h:t.ok){i:Nat}(hi:t.A.ia i):∃ p,p<t.n/\fM t.cs p=i+1/\t.find (fM t.ids i)=(p,true):=by
 obtain⟨p,hp,hc⟩:=(h.cell i).2 hi
 refine⟨p,hp,hc,?_⟩
 refine Se (hm:=fun i=>kI t.n (fM t.ids i)) h.Gi hp hc (xu (by have:=h.two;omega)) s_ ?_ h.zero
 intro q j hq hj hok
 have hj2:=(h.val hq hj).1
 have:=h.uniq j i hj2 hi (by simpa using hok)
 subst this
 exact h.inj q p hq hp o_ o_
theorem TW.ok.MJ{t:TW}(h:t.ok){id:Int}(hn:¬ t.mem id):∃ r,r<t.n/\t.find id=(r,false)/\fM t.cs r=0/\∀ q,q<t.n->rK t.n (kI t.n id) r q->fM t.cs q≠0:=by
 refine Tz (xu (by have:=h.two;omega)) ?_ h.zero
 intro q j hq hj
 have hj2:=(h.val hq hj).1
 have:fM t.ids j≠id:=fun e=>hn ⟨j,hj2,e⟩
 simpa using this
def xP(ids:List Int)(i:Nat)(id:Int):List Int:=fR (if i=ids.length then ids++[0]else ids) i (fun _=>id)
theorem Wv{ids:List Int}{i:Nat}{id:Int}(h:i<=ids.length)(j:Nat):fM (xP ids i id) j=if i=j then id else fM ids j:=by
 unfold xP
 split
 . rename_i e
   rw[kN (by simp[e])]
   split
   . rfl
   . rename_i hne
     simp only[fM,yQ]
     split
     . rfl
     . have h1:(ids[j]? : Option Int)=none:=nk o_
       rw[h1]
       cases hj:([0]:List Int)[j-ids.length]? with
       | none=>rfl
       | some x => 
        have:=zb.1 hj
        simp at this
        omega
 . rw[kN o_]
theorem V7{ids:List Int}{i:Nat}{id:Int}(h:i<=ids.length):(xP ids i id).length=if i=ids.length then ids.length+1 else ids.length:=by
 unfold xP
 rw[gJ]
 split<;>simp
section
variable {t:TW}
theorem TW.ok.put(h:t.ok){id:Int}(hn:¬ t.mem id)(hid:ij .u64 id){v2:AW}{i r:Nat}(hA2:v2.A.ok)(hp:AW.put t.A v2.A i)(hr:r<t.n)(h0:fM t.cs r=0)(hw:∀ q,q<t.n->rK t.n (kI t.n id) r q->fM t.cs q≠0)(iv cv:Value){is2:List Int}{cs2:List Nat}(his:is2=xP t.ids i id)(hcs:cs2=fR t.cs r (fun _=>i+1)) :
 TW.ok ⟨iv,cv,v2,is2,cs2⟩/\∀ x,TW.mem ⟨iv,cv,v2,is2,cs2⟩ x↔t.mem x\/x=id:=by
 have hil:=h.yL
 have hle:i<=t.ids.length:=by
  rcases hp.o5 with h1|h1<;>omega
 have hat:∀ j,fM is2 j=if i=j then id else fM t.ids j:=by rw[his];exact Wv hle
 have hcu:∀ q,fM cs2 q=if r=q then i+1 else fM t.cs q:=by rw[hcs];exact fun q=>kN hr
 have hnl:cs2.length=t.n:=by rw[hcs];exact gJ
 have hpl:is2.length=if i=t.ids.length then t.ids.length+1 else t.ids.length:=by rw[his];exact V7 hle
 have hin:=hp.ia
 have hni:=hp.new
 have hne:∀ j,t.A.ia j->i≠j:=fun j hj e=>hni (e▸hj)
 have hmem:∀ x,TW.mem ⟨iv,cv,v2,is2,cs2⟩ x↔t.mem x\/x=id:=by
  intro x
  constructor
  . rintro⟨j,hj,hx⟩
    change fM is2 j=x at hx
    rw[hat]at hx
    split at hx
    . exact .inr hx.symm
    . rename_i hij
      rcases(hin j).1 hj with h1|h1
      . exact .inl ⟨j,h1,hx⟩
      . exact absurd h1.symm hij
  . rintro(⟨j,hj,hx⟩|rfl)
    . exact⟨j,(hin j).2 (.inl hj),by show fM is2 j=x;rw[hat,if_neg (hne j hj)];exact hx⟩
    . exact⟨i,(hin i).2 (.inr rfl),by show fM is2 i=x;rw[hat,if_pos rfl]⟩
 have hno:∀ p,p<t.n->fM t.cs p≠i+1:=fun p hp' hc=>hni (h.val hp' hc).1
 refine⟨⟨?_,?_,?_,?_,?_,?_,?_,?_,?_,?_,?_,?_,?_⟩,hmem⟩
 . show P2 cs2.length;rw[hnl];exact h.p2
 . show cs2.length<=_;rw[hnl];exact h.top
 . show 2<=cs2.length;rw[hnl];exact h.two
 . show 2*v2.A.n<=cs2.length;rw[hnl,hp.n];exact h.room
 . show v2.A.n<=_;rw[hp.n];exact h.an
 . show is2.length=v2.A.begun
   rw[hpl]
   rcases hp.o5 with h1|h1
   . rw[if_neg o_];omega
   . rw[if_pos o_];omega
 . intro j
   show ij .u64 (fM is2 j)
   rw[hat]
   split
   . exact hid
   . exact h.ids j
 . intro j
   show (∃ p,p<cs2.length/\fM cs2 p=j+1)↔v2.A.ia j
   rw[hnl,hin]
   constructor
   . rintro⟨p,hp', hc⟩
     rw[hcu]at hc
     split at hc
     . exact .inr o_
     . exact .inl ((h.cell j).1 ⟨p,hp', hc⟩)
   . rintro(h1|rfl)
     . obtain⟨p,hp', hc⟩:=(h.cell j).2 h1
       refine⟨p,hp', ?_⟩
       rw[hcu,if_neg (fun e=>by rw[e,hc]at h0;omega)]
       exact hc
     . exact⟨r,hr,by rw[hcu,if_pos rfl]⟩
 . intro p q hp' hq
   show fM cs2 p≠0->fM cs2 p=fM cs2 q->p=q
   change p<cs2.length at hp'
   change q<cs2.length at hq
   rw[hnl]at hp' hq
   rw[hcu,hcu]
   intro a b
   by_cases h1:r=p
   . by_cases h2:r=q
     . omega
     . rw[if_pos h1,if_neg h2]at b
       exact absurd b.symm (hno q hq)
   . by_cases h2:r=q
     . rw[if_neg h1,if_pos h2]at b
       exact absurd b (hno p hp')
     . rw[if_neg h1,if_neg h2]at b
       rw[if_neg h1]at a
       exact h.inj p q hp' hq a b
 . intro a b ha hb
   show fM is2 a=fM is2 b->a=b
   rw[hat,hat]
   intro e
   rcases(hin a).1 ha with h1|h1<;>rcases(hin b).1 hb with h2|h2
   . rw[if_neg (hne a h1),if_neg (hne b h2)]at e
     exact h.uniq a b h1 h2 e
   . rw[if_neg (hne a h1),if_pos h2.symm]at e
     exact absurd ⟨a,h1,e⟩ hn
   . rw[if_pos h1.symm,if_neg (hne b h2)]at e
     exact absurd ⟨b,h2,e.symm⟩ hn
   . omega
 . show rL cs2.length _ (fun j=>kI cs2.length (fM is2 j))
   rw[hnl]
   have hP:rL t.n t.cs (fun j=>kI t.n (fM is2 j)):=by
    intro c j q hc hq hj hon
    have h1:=hne j (h.val hc hj).1
    simp only[hat,if_neg h1]at hon
    exact h.Gi c j q hc hq hj hon
   have hP2:=hP.put rfl hr h0 (i:=i) (by
    intro q hq hon
    simp only[hat,if_pos]at hon
    exact hw q hq hon) (xu (by have:=h.two;omega))
   rw[hcs]
   exact hP2
 . show v2.A.begun<=v2.A.n
   exact hA2.le
 . show v2.A.used<=v2.A.n
   have:=hA2.used
   have:=hA2.le
   omega
end
section
variable {t:TW}
def TW.rest(t:TW)(id:Int)(k c:Nat):Prop:=t.find id=uF t.n t.cs (fun i=>fM t.ids i==id) (t.n-k) c
theorem TW.SF(t:TW)(id:Int):t.rest id 0 (kI t.n id):=rfl
theorem TW.HS{id:Int}{k c:Nat}(h:t.rest id k c)(hk:k<t.n):t.find id=if fM t.cs c=0 then(c,false)else if (fM t.ids (fM t.cs c-1)==id)=true then(c,true)else uF t.n t.cs (fun i=>fM t.ids i==id) (t.n-(k+1)) (gZ t.n c):=by
 have e:t.n-k=(t.n-(k+1))+1:=by omega
 unfold TW.rest at h
 rw[e]at h
 exact h
theorem TW.TS{id:Int}{k c:Nat}(h:t.rest id k c)(hk:k<t.n)(h0:fM t.cs c=0):t.find id=(c,false):=by
 rw[TW.HS h hk,if_pos h0]
theorem TW.Vx{id:Int}{k c j:Nat}(h:t.rest id k c)(hk:k<t.n)(hj:fM t.cs c=j+1)(he:fM t.ids j=id):t.find id=(c,true):=by
 rw[TW.HS h hk,if_neg o_,if_pos (by rw[hj];simpa using he)]
theorem TW.Ut{id:Int}{k c j:Nat}(h:t.rest id k c)(hk:k<t.n)(hj:fM t.cs c=j+1)(he:fM t.ids j≠id):t.rest id (k+1) (gZ t.n c):=by
 have:=TW.HS h hk
 rw[if_neg o_,if_neg (by rw[hj];simpa using he)]at this
 exact this
theorem TW.UR{id:Int}{c:Nat}(h:t.rest id t.n c):t.find id=(0,false):=by
 unfold TW.rest at h
 rw[Nat.sub_self]at h
 exact h
end
def TW.wC(t:TW)(id:Int)(z:Nat)(b:Bool):Prop:=(b=true/\t.A.ia z/\fM t.ids z=id)\/(b=false/\z=0/\¬ t.mem id)
section
variable {t:TW}
theorem TW.ok.del(h:t.ok){i:Nat}(hi:t.A.ia i){v2:AW}(hA2:v2.A.ok)(hd:AW.del t.A v2.A i){cs2:List Nat}(hnl:cs2.length=t.n)
 (hc:rL t.n cs2 (fun j=>kI t.n (fM t.ids j))/\(∀ p q,p<t.n->q<t.n->fM cs2 p≠0->fM cs2 p=fM cs2 q->p=q)/\(∀ i2,(∃ p,p<t.n/\fM cs2 p=i2+1)↔i2≠i/\∃ p,p<t.n/\fM t.cs p=i2+1)) (iv cv:Value) {is2:List Int} (his:is2=fR t.ids i (fun _=>0)) :
 TW.ok ⟨iv,cv,v2,is2,cs2⟩/\∀ x,TW.mem ⟨iv,cv,v2,is2,cs2⟩ x↔t.mem x/\x≠fM t.ids i:=by
 obtain⟨hP,hinj,hmem⟩:=hc
 have hil:i<t.ids.length:=by have:=hi.1;have:=h.yL;omega
 have hat:∀ j,fM is2 j=if i=j then 0 else fM t.ids j:=by rw[his];exact fun j=>kN hil
 have hin:=hd.ia
 have hcell:∀ j,(∃ p,p<t.n/\fM cs2 p=j+1)↔v2.A.ia j:=by
  intro j
  rw[hmem,hin,h.cell]
  exact And.comm
 refine⟨⟨?_,?_,?_,?_,?_,?_,?_,?_,?_,?_,?_,?_,?_⟩,fun x=>⟨?_,?_⟩⟩
 . show P2 cs2.length;rw[hnl];exact h.p2
 . show cs2.length<=_;rw[hnl];exact h.top
 . show 2<=cs2.length;rw[hnl];exact h.two
 . show 2*v2.A.n<=cs2.length;rw[hnl,hd.n];exact h.room
 . show v2.A.n<=_;rw[hd.n];exact h.an
 . show is2.length=v2.A.begun;rw[his,gJ,hd.o5];exact h.yL
 . intro j
   show ij .u64 (fM is2 j)
   rw[hat]
   split
   . exact⟨d_,d_⟩
   . exact h.ids j
 . intro j
   show (∃ p,p<cs2.length/\fM cs2 p=j+1)↔v2.A.ia j
   rw[hnl]
   exact hcell j
 . intro p q hp hq
   change p<cs2.length at hp
   change q<cs2.length at hq
   rw[hnl]at hp hq
   exact hinj p q hp hq
 . intro a b ha hb
   show fM is2 a=fM is2 b->a=b
   have h1:=(hin a).1 ha
   have h2:=(hin b).1 hb
   rw[hat,hat,if_neg (fun e=>h1.2 e.symm),if_neg (fun e=>h2.2 e.symm)]
   exact h.uniq a b h1.1 h2.1
 . show rL cs2.length _ (fun j=>kI cs2.length (fM is2 j))
   rw[hnl]
   intro c j q hc hq hj hon
   have h1:j≠i:=((hmem j).1 ⟨c,hc,hj⟩).1
   simp only[hat,if_neg (fun e=>h1 e.symm:¬ i=j)]at hon
   exact hP c j q hc hq hj hon
 . show v2.A.begun<=v2.A.n
   exact hA2.le
 . show v2.A.used<=v2.A.n
   have:=hA2.used
   have:=hA2.le
   omega
 . rintro⟨j,hj,hx⟩
   change fM is2 j=x at hx
   have h1:=(hin j).1 hj
   rw[hat,if_neg (fun e=>h1.2 e.symm)]at hx
   exact⟨⟨j,h1.1,hx⟩,fun e=>h1.2 (h.uniq j i h1.1 hi (hx.trans e))⟩
 . rintro⟨⟨j,hj,hx⟩,hne⟩
   have hji:j≠i:=fun e=>hne (by rw[<-hx,e])
   exact⟨j,(hin j).2 ⟨hj,hji⟩,by show fM is2 j=x;rw[hat,if_neg (fun e=>hji e.symm)];exact hx⟩
theorem TW.ok.copy(h:t.ok){v2:AW}{qs:List (Option Nat)}(hv:v2.A={ t.A with ps:=qs })(iv cv:Value):TW.ok ⟨iv,cv,v2,t.ids,t.cs⟩/\∀ x,TW.mem ⟨iv,cv,v2,t.ids,t.cs⟩ x↔t.mem x:=by
 have hin:∀ j,v2.A.ia j↔t.A.ia j:=fun j=>by rw[hv];rfl
 have e1:v2.A.n=t.A.n:=by rw[hv]
 have e2:v2.A.begun=t.A.begun:=by rw[hv]
 refine⟨⟨h.p2,h.top,h.two,?_,?_,?_,h.ids,?_,h.inj,?_,h.Gi,?_,?_⟩,fun x=>?_⟩
 . show 2*v2.A.n<=_;rw[e1];exact h.room
 . show v2.A.n<=_;rw[e1];exact h.an
 . show t.ids.length=v2.A.begun;rw[e2];exact h.yL
 . exact fun i=>(h.cell i).trans (hin i).symm
 . exact fun a b ha hb=>h.uniq a b ((hin a).1 ha) ((hin b).1 hb)
 . show v2.A.begun<=v2.A.n;rw[e1,e2];exact h.o5
 . show v2.A.used<=v2.A.n;rw[hv];exact h.ul
 . exact exists_congr fun i=>and_congr_left fun _=>hin i
theorem P2.two:P2 2:=⟨1,d_,rfl⟩
theorem P2.dbl{n:Nat}(h:P2 n)(hn:n<=1000000):P2 (n*2):=by
 obtain⟨k,hk,rfl⟩:=h
 refine⟨k+1,?_,by rw[Nat.pow_succ]⟩
 by_cases h9:k+1<=40
 . exact h9
 . have:2 ^ 20<=2 ^ k:=Nat.pow_le_pow_right d_ o_
   have e:(2:Nat) ^ 20=1048576:=by decide
   omega
theorem TW.vN{m n:Nat}{v:AW}(hv:v.A=As.new m)(hm:m<=65536)(hn:P2 n)(h1:2<=n)(h2:2*m<=n)(h3:n<=1000000)(iv cv:Value):TW.ok ⟨iv,cv,v,[],List.replicate n 0⟩/\∀ x,¬ TW.mem ⟨iv,cv,v,[],List.replicate n 0⟩ x:=by
 have hnl:(List.replicate n 0).length=n:=Ko
 have hz:∀ p,fM (List.replicate n 0) p=0:=by
  intro p
  simp only[fM,AT]
  split<;>rfl
 have hin:∀ j,¬ v.A.ia j:=fun j hj=>by rw[hv]at hj;exact absurd hj.1 (by simp[As.new])
 have e1:v.A.n=m:=by rw[hv];rfl
 have e2:v.A.begun=0:=by rw[hv];rfl
 refine⟨⟨?_,?_,?_,?_,?_,?_,?_,?_,?_,?_,?_,?_,?_⟩,fun x ⟨j,hj,_⟩=>hin j hj⟩
 . show P2 (List.replicate n 0).length;rw[hnl];exact hn
 . show (List.replicate n 0).length<=_;rw[hnl];exact h3
 . show 2<=(List.replicate n 0).length;rw[hnl];exact h1
 . show 2*v.A.n<=(List.replicate n 0).length;rw[hnl,e1];exact h2
 . show v.A.n<=_;rw[e1];exact hm
 . show ([]:List Int).length=v.A.begun;rw[e2];rfl
 . intro j
   have e:fM ([]:List Int) j=0:=by show (none:Option Int).getD default=0;rfl
   show ij .u64 (fM ([]:List Int) j)
   rw[e]
   exact⟨d_,d_⟩
 . intro i
   constructor
   . rintro⟨p,_,hp⟩
     change fM (List.replicate n 0) p=i+1 at hp
     rw[hz]at hp
     omega
   . exact fun h=>absurd h (hin i)
 . intro p q _ _ h0
   exact absurd (hz p) h0
 . exact fun a b ha=>absurd ha (hin a)
 . intro c j q _ _ hj
   change fM (List.replicate n 0) c=j+1 at hj
   rw[hz]at hj
   omega
 . show v.A.begun<=v.A.n;rw[e2];omega
 . show v.A.used<=v.A.n;rw[hv];exact oG _
end
end Go.Sx
namespace Go.Sx
open Go
structure Lv where
 slot:Int
 seq:Int
 u:Int
 v:Int
 wt:Int
 t:Int
 exp:Int
structure Cf where
 win:Int
 fN:Int
 fO:Int
 ic:Int
instance:Inhabited Lv:=⟨⟨0,0,0,0,0,0,0⟩⟩
def Lv.cells(x:Lv):List Value:=[.int .i64 x.slot,.int .u64 x.seq,.int .u64 x.u,.int .u64 x.v,.int .i64 x.wt,.int .i64 x.t,.int .i64 x.exp]
structure Lv.ok (x:Lv):Prop where
 slot:ij .i64 x.slot
 seq:ij .u64 x.seq
 u:ij .u64 x.u
 v:ij .u64 x.v
 wt:ij .i64 x.wt
 t:ij .i64 x.t
 exp:ij .i64 x.exp
structure Cf.ok (c:Cf):Prop where
 win:ij .i64 c.win
 fN:ij .i64 c.fN
 fO:ij .i64 c.fO
 ic:ij .i64 c.ic
def j5(p:Int×Int):List Value:=[.int .i64 p.1,.int .i64 p.2]
def yG(l:List Int)(x:Int):Int:=if l.contains x then 1 else 0
theorem YI{l:List Int}{x:Int}(h:l.contains x=true):yG l x=1:=by unfold yG;rw[h];rfl
theorem rm{l:List Int}{x:Int}(h:l.contains x=false):yG l x=0:=by unfold yG;rw[h];rfl
def mB(c:Cf)(x:Lv)(i:Nat)(ps:Int)(ss is:List Int):Prop :=
 x.u=x.v\/yG ss x.slot=1\/x.slot<0\/c.fN<=x.slot\/(0<i/\x.seq<=ps)\/c.fN<=(i:Int)\/((is.length:Int)<=c.fO/\c.fO<((gR (gR is x.u) x.v).length:Int))
instance (c:Cf) (x:Lv) (i:Nat) (ps:Int) (ss is:List Int):Decidable (mB c x i ps ss is):=by unfold mB;infer_instance
def wj(c:Cf)(x:Lv)(i:Nat)(ps:Int)(ss is:List Int):Bool:=decide (mB c x i ps ss is)
def mO(c:Cf)(now:Int)(x:Lv)(i:Nat)(pt:Int):Prop :=
 now<x.t\/(0<i/\x.t<pt)\/x.t+c.win < -9223372036854775808\/9223372036854775807<x.t+c.win\/x.t+c.win≠x.exp
instance (c:Cf) (now:Int) (x:Lv) (i:Nat) (pt:Int):Decidable (mO c now x i pt):=by unfold mO;infer_instance
def tB(c:Cf)(now:Int)(x:Lv)(i:Nat)(pt:Int):Bool:=decide (mO c now x i pt)
def lY(l:List Lv)(i:Nat):Lv:=(l[i-1]?).getD ⟨0,0,0,0,0,0,0⟩
theorem BW{l:List Lv}{i:Nat}{x:Lv}(h:l[i-1]? = some x):lY l i=x:=by simp[lY,h]
def kJ(l:List Lv):List Int:=l.foldl (fun a x=>gR a x.slot) []
def jb(l:List Lv):List Int:=l.foldl (fun a x=>gR (gR a x.u) x.v) []
theorem Lz{α:Type}{l:List α}{i:Nat}{x:α}(h:l[i]? = some x):l.take (i+1)=l.take i++[x]:=by rw[yO,h];rfl
theorem vD{l:List Lv}{i:Nat}{x:Lv}(h:l[i]? = some x):kJ (l.take (i+1))=gR (kJ (l.take i)) x.slot:=by rw[Lz h];simp[kJ]
theorem rY{l:List Lv}{i:Nat}{x:Lv}(h:l[i]? = some x):jb (l.take (i+1))=gR (gR (jb (l.take i)) x.u) x.v:=by rw[Lz h];simp[jb]
def pg(c:Cf)(now:Int)(l:List Lv)(i:Nat)(x:Lv):List (Int×Int) :=
 (if wj c x i (lY l i).seq (kJ (l.take i)) (jb (l.take i))then[(1,(i:Int))]else[])++((if decide (x.exp<=now)then[(2,(i:Int))]else[])++(if tB c now x i (lY l i).t then[(5,(i:Int))]else[]))
def jc(c:Cf)(now:Int)(l:List Lv):Nat->List (Int×Int)
 | 0=>[]
 | i+1=>jc c now l i++(match l[i]? with
  | some x=>pg c now l i x
  | none=>[])
def vO(c:Cf)(now:Int)(l:List Lv):List (Int×Int):=jc c now l l.length
theorem uj{c:Cf}{now:Int}{l:List Lv}{i:Nat}{x:Lv}(h:l[i]? = some x):jc c now l (i+1)=jc c now l i++pg c now l i x:=by simp[jc,h]
theorem Xu(c:Cf)(now:Int)(l:List Lv)(i:Nat)(x:Lv):(pg c now l i x).length<=3:=by
 unfold pg
 split<;>split<;>split<;>simp
theorem pO(c:Cf)(now:Int)(l:List Lv):∀ i,(jc c now l i).length<=3*i:=by
 intro i
 induction i with
 | zero=>simp[jc]
 | succ i ih =>
  simp only[jc,zn]
  split
  . have:=Xu c now l i (by assumption);omega
  . simp;omega
theorem IS{l:List Int}{x y:Int}:y∈gR l x↔y∈l\/y=x:=by
 unfold gR
 split
 . rename_i h
   have:=sO.1 h
   constructor
   . exact fun h=>.inl h
   . rintro(h|rfl)
     . exact h
     . exact this
 . simp
theorem Mn{l:List Int}{x:Int}(h:l.Nodup):(gR l x).Nodup:=by
 unfold gR
 split
 . exact h
 . rename_i hc
   rw[zw]
   exact⟨h,s_,fun a ha b hb=>by simp at hb;subst hb;intro e;subst e;exact hc (sO.2 ha)⟩
theorem HJ(l:List Int)(x:Int):(gR l x).length<=l.length+1:=by unfold gR;split<;>simp
theorem Up{l:List Lv}{s:Int}:s∈kJ l↔∃ x∈l,x.slot=s:=by
 have key:∀ (l:List Lv) (a:List Int),s∈l.foldl (fun a x=>gR a x.slot) a↔s∈a\/∃ x∈l,x.slot=s:=by
  intro l
  induction l with
  | nil=>intro a;simp
  | cons x l ih =>
   intro a
   simp only[CC]
   rw[ih,IS]
   simp only[zg,exists_eq_or_imp]
   constructor
   . rintro((h|h)|h)
     . exact .inl h
     . exact .inr (.inl h.symm)
     . exact .inr (.inr h)
   . rintro(h|h|h)
     . exact .inl (.inl h)
     . exact .inl (.inr h.symm)
     . exact .inr h
 simpa[kJ]using key l []
theorem UW{l:List Lv}{i:Nat}{s:Int}(h:∀ k x,k<i->l[k]? = some x->x.slot≠s):yG (kJ (l.take i)) s=0:=by
 refine rm ?_
 cases hc:(kJ (l.take i)).contains s with
 | false=>rfl
 | true =>
  obtain⟨x,hx,e⟩:=Up.1 (sO.1 hc)
  obtain⟨k,hk⟩:=yA.1 hx
  rw[qN]at hk
  split at hk
  . exact absurd e (h k x (by assumption) hk)
  . cases hk
theorem SE{x:Int}(h : -18446744073709551616<=x/\x<=18446744073709551614):∃ e,IntKind.i64.wrap x=e /\ -9223372036854775808<=e/\e<=9223372036854775807/\(e=x\/e=x-18446744073709551616\/e=x+18446744073709551616):=by
 refine⟨_,rfl,?_⟩
 rw[IntKind.wrap_i64]
 omega
end Go.Sx
namespace Go.Sx
open Go
theorem uE{c:Cf}{x:Lv}{i:Nat}{ps:Int}{ss is:List Int}(h:mB c x i ps ss is):true=wj c x i ps ss is:=(decide_eq_true h).symm
theorem EG{c:Cf}{x:Lv}{i:Nat}{ps:Int}{ss is:List Int}(h:¬ mB c x i ps ss is):false=wj c x i ps ss is:=(decide_eq_false h).symm
theorem tv{c:Cf}{now:Int}{x:Lv}{i:Nat}{pt:Int}(h:mO c now x i pt):true=tB c now x i pt:=(decide_eq_true h).symm
theorem EI{c:Cf}{now:Int}{x:Lv}{i:Nat}{pt:Int}(h:¬ mO c now x i pt):false=tB c now x i pt:=(decide_eq_false h).symm
theorem tj(x:Int×Int):∀ y∈([x]:List (Int×Int)).flatMap j5,y.oneCell' = true:=by
 intro y hy
 simp[j5]at hy
 rcases hy with rfl|rfl<;>rfl
end Go.Sx
