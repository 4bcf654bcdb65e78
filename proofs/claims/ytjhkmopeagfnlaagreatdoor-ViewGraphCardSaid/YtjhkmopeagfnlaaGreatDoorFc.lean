/- Plain lemmas: rules for walking through code, one for each operation, over any program; an evaluator of closed calls with its soundness; and plain mathematics. No conditions. -/
import Derived.Test.YtjhkmopeagfnlaaGreatDoorFb
import Derived.Test.YtjhkmopeagfnlaaGreatDoorFa
import Derived.Maps.RangeRun
set_option linter.unusedVariables false
set_option linter.unusedSectionVars false
set_option linter.unusedSimpArgs false
namespace Go.Sx
open Go
def iG(xs:List Nd)(i:Nat):List Nd :=
 let p:=(fM xs i).up
 let g:=(fM xs p).up
 let s:=(jk xs i).1
 let y1:=if (jk xs p).2=true then iP xs g (jk xs p).1 i else fR xs i (fun x=>{ x with up:=g })
 let y2:=iP y1 p s (if s=0 then(fM y1 i).k1 else(fM y1 i).k0)
 let y3:=iP y2 i (1-s) p
 iJ (iJ y3 p) i
def pE(d:Bool)(k:Nat)(x:Nd):Nd:=bif d then { x with k0:=k } else { x with k1:=k }
def sd(d:Bool):Nat:=bif d then 0 else 1
theorem F9(d:Bool)(k:Nat)(x:Nd):(pE d k x).key=x.key:=by cases d<;>rfl
theorem FJ(d:Bool)(k:Nat)(x:Nd):(pE d k x).iO=x.iO:=by cases d<;>rfl
theorem FY(d:Bool)(k:Nat)(x:Nd):(pE d k x).flip=x.flip:=by cases d<;>rfl
theorem T7(d:Bool)(k:Nat)(x:Nd):(pE d k x).up=x.up:=by cases d<;>rfl
theorem MB(xs:List Nd)(i:Nat)(d:Bool)(k:Nat):iP xs i (sd d) k=if k=0 then fR xs i (pE d k)else fR (fR xs i (pE d k)) k (fun x=>{ x with up:=i }):=by
 cases d<;>rfl
theorem Gq(xs:List Nd)(i:Nat)(d:Bool)(k:Nat):(iP xs i (sd d) k).length=xs.length:=by
 rw[MB];split<;>simp[gM]
theorem GV{xs:List Nd}{i k:Nat}{d:Bool}(hi:i<xs.length)(hk:k<xs.length)(hne:k≠i)(j:Nat) :
 fM (iP xs i (sd d) k) j=if j=i then pE d k (fM xs i)else if j=k/\k≠0 then { fM xs k with up:=i } else fM xs j:=by
 rw[MB]
 split
 . rename_i h0
   rw[j5 hi]
   by_cases hj:i=j
   . rw[if_pos hj,if_pos hj.symm]
   . rw[if_neg hj,if_neg (fun e=>hj e.symm),if_neg (by simp[h0])]
 . rename_i h0
   rw[j5 (by rw[gM];exact hk)]
   by_cases hj:k=j
   . subst hj
     rw[if_pos rfl,if_neg hne,if_pos ⟨rfl,h0⟩,kn (fun e=>hne e.symm)]
   . rw[if_neg hj,j5 hi]
     by_cases hj' : i=j
     . rw[if_pos hj', if_pos hj'.symm]
     . rw[if_neg hj', if_neg (fun e=>hj' e.symm),if_neg (fun e=>hj e.1.symm)]
theorem HC{xs:List Nd}{d:Bool}{p i:Nat}(hu:(fM xs i).up=p)(hp:p≠0)(hk:iW xs d p=i)(ho:iW xs (!d) p≠i):jk xs i=(sd d,true):=by
 unfold jk
 rw[hu,if_neg hp]
 cases d
 . simp only[iW,cond_false,Bool.not_false,cond_true]at hk ho
   rw[if_neg ho,if_pos hk];rfl
 . simp only[iW,cond_true]at hk
   rw[if_pos hk];rfl
theorem LA{xs:List Nd}{i p:Nat}(hu:(fM xs i).up=p)(h:p=0\/iW xs true p≠i/\iW xs false p≠i):jk xs i=(0,false):=by
 unfold jk
 rw[hu]
 rcases h with h|⟨h1,h2⟩
 . rw[if_pos h]
 . split
   . rfl
   . simp only[iW,cond_true,cond_false]at h1 h2
     rw[if_neg h1,if_neg h2]
def pN(d:Bool)(a:Tr)(i:Nat)(b:Tr)(p:Nat)(s:Tr):Tr:=bif d then .nd a i (.nd b p s)else .nd (.nd s p a) i b
theorem GJ(d:Bool)(a:Tr)(i:Nat)(b:Tr)(p:Nat)(s:Tr):(pN d a i b p s).mem=jM d (a.mem++i :: b.mem) p s:=by
 cases d<;>simp[pN,jM,Tr.mem]
theorem Uj(d:Bool)(a:Tr)(i:Nat)(b:Tr)(p:Nat)(s:Tr):(pN d a i b p s).root=i:=by cases d<;>rfl
theorem GQ:∀ (c:Cx) (L:List Nat),L.length<=(kX c L).length
 | [],_=>zn _
 | (d,g,s) :: c,L=>z7 (by cases d<;>simp[jM]<;>omega) (GQ c _)
theorem Ku{xs:List Nd}{d:Bool}{i:Nat}{t s:Tr}(hi:i≠0/\i<xs.length)(ht:gQ xs t i)(hs:gQ xs s i)(h0:iW xs d i=t.root)(h1:iW xs (!d) i=s.root)(hn:(jM d t.mem i s).Nodup)(hlen:(jM d t.mem i s).length<=1000000) :
 nh xs (iJ xs i) i/\gQ (iJ xs i) (lT d t i s) (fM xs i).up:=by
 cases d
 . exact xl hi hs ht (by simpa[iW]using h1) (by simpa[iW]using h0) hn hlen
 . exact xl hi ht hs (by simpa[iW]using h0) (by simpa[iW]using h1) hn hlen
structure YW (xs ys:List Nd) (S:List Nat):Prop where
 kl:KL xs ys
 other:∀ j,j∉S->fM ys j=fM xs j
 flip:∀ j,(fM ys j).flip=(fM xs j).flip
theorem me.kB{xs ys:List Nd}(k:KL xs ys){c:Cx}{r r' q:Nat}{L:List Nat}(h:me xs c r L q)(hs:∀ d g s c', c=(d,g,s) :: c' -> (∀ j∈s.mem++jJ c', fM ys j=fM xs j)/\fM ys g=pE d r' (fM xs g)):me ys c r' L q:=by
 cases c with
 | nil=>trivial
 | cons f c' =>
  obtain⟨d,g,s⟩:=f
  obtain⟨h1,h2⟩:=hs d g s c' rfl
  exact h.kid k h1 h2
theorem vO{xs:List Nd}{d:Bool}{p i q:Nat}{s a b:Tr}{c:Cx}(hR:gQ xs (jP ((d,p,s) :: c) (.nd a i b)) q)(hn:(kX ((d,p,s) :: c) (a.mem++i :: b.mem)).Nodup)
 (hlen:xs.length<=1000001) (hcnt:(kX ((d,p,s) :: c) (a.mem++i :: b.mem)).length<=1000000)
 (hq:c=[]->q=0\/iW xs true q≠p/\iW xs false q≠p) :
 gQ (iG xs i) (jP c (pN d a i b p s)) q/\YW xs (iG xs i) (kX ((d,p,s) :: c) (a.mem++i :: b.mem)):=by
 obtain⟨hT,hC⟩:=(vS _ _ _).1 hR
 obtain⟨⟨i0,il⟩,⟨ik0,ik1,iu⟩,iv,ha,hb⟩:=hT
 simp only[uX]at iu
 obtain⟨⟨p0,pl⟩,⟨pk,po,pu⟩,pv,hs,hCc⟩:=hC
 simp only[Tr.root]at pk
 simp only[Tr.mem]at pv hCc
 obtain⟨n1,n2,n3⟩:=AE hn
 simp only[jJ,o6,zy,zu,zq,zb,not_or]at n1 n2 n3
 obtain⟨np1,ns,nc,nsc⟩:=n2
 obtain⟨na,⟨nib,nb⟩,nab⟩:=n1
 have hip:i≠p:=(n3 i s_).1
 have his:i∉s.mem:=(n3 i s_).2.1
 have hic:i∉jJ c:=(n3 i s_).2.2
 have hia:i∉a.mem:=fun h=>nab i h i (.inl rfl) rfl
 have hsr:s.root≠i:=fun e=>by
  by_cases h:s.root=0
  . exact i0 (e.symm.trans h)
  . exact his (e▸hs.mq h)
 -- sides
 have hsi:jk xs i=(sd d,true):=HC iu p0 pk (by rw[po];exact hsr)
 -- the parent's parent
 obtain⟨g,hg⟩:∃ g,(fM xs p).up=g:=⟨_,rfl⟩
 have hgc:g=uX c q:=hg.symm.trans pu
 -- the middle tree,and the outer one
 obtain⟨m,o,hm⟩:∃ m o:Tr,(m,o)=(bif d then(b,a)else(a,b)):=⟨_,_,rfl⟩
 have hmo:gQ xs m i/\gQ xs o i/\iW xs (!d) i=m.root/\iW xs d i=o.root/\(∀ j,j∈m.mem\/j∈o.mem↔j∈a.mem\/j∈b.mem)/\i∉m.mem/\i∉o.mem/\m.mem.Nodup/\o.mem.Nodup/\∀ j∈m.mem,j∉o.mem:=by
  cases d<;>(simp only[cond_true,cond_false,Prod.mk.injEq]at hm;obtain⟨rfl,rfl⟩:=hm)
  . exact⟨ha,hb,by simpa[iW]using ik0,by simpa[iW]using ik1,fun j=>Iff.rfl,hia,nib,na,nb,fun j h1 h2=>nab j h1 j (.inr h2) rfl⟩
  . exact⟨hb,ha,by simpa[iW]using ik1,by simpa[iW]using ik0,fun j=>Or.comm,nib,hia,nb,na,fun j h1 h2=>nab j h2 j (.inr h1) rfl⟩
 obtain⟨hm1,ho1,hmk,hok,hmem,him,hio,hmn,hon,hmo'⟩:=hmo
 have hmp:∀ j,j∈m.mem\/j∈o.mem->j≠p/\j∉s.mem/\j∉jJ c:=fun j hj=>by
  have:=n3 j (by rcases(hmem j).1 hj with h|h<;>simp[h])
  exact⟨this.1,this.2.1,this.2.2⟩
 have hml:m.root<xs.length:=hm1.xK o_
 have hmi:m.root≠i:=fun e=>him (e▸hm1.mq o_)
 have hmpr:m.root≠p:=fun e=>(hmp m.root (.inl (hm1.mq o_))).1 e
 -- the first step
 obtain⟨y1,ey1⟩:∃ y,y=(if (jk xs p).2=true then iP xs g (jk xs p).1 i else fR xs i (fun x=>{ x with up:=g })):=⟨_,rfl⟩
 have hy1:y1.length=xs.length/\fM y1 i={ fM xs i with up:=g }/\(∀ j,j≠i->j∉jJ c->fM y1 j=fM xs j)/\(∀ d' g' s' c', c=(d', g', s') :: c' -> (∀ j,j≠i->j≠g' -> fM y1 j=fM xs j)/\fM y1 g' = pE d' i (fM xs g'))/\(c=[]->∀ j,j≠i->fM y1 j=fM xs j):=by
  cases c with
  | nil =>
   have hsp:jk xs p=(0,false):=LA (p:=q) (by rw[hg,hgc];rfl) (hq rfl)
   rw[hsp]at ey1
   simp only[Bool.false_eq_true,if_false]at ey1
   subst ey1
   refine⟨gM,kr il,fun j hj _=>kn (fun e=>hj e.symm),?_,fun _ j hj=>kn (fun e=>hj e.symm)⟩
   intro d' g' s' c' e
   cases e
  | cons f c' =>
   obtain⟨d', g', s'⟩:=f
   obtain⟨⟨g0,gl⟩,⟨gk,go,gu⟩,gv,gs,gc⟩:=hCc
   simp only[jJ,o6,zb,zq,not_or]at hic np1
   have hpg:p≠g' := np1.2.1
   have hsp:jk xs p=(sd d', true):=HC (p:=g') (by rw[hg,hgc];rfl) g0 gk (by
    rw[go]
    intro e
    have hr:s'.root≠0:=by rw[e];exact p0
    exact np1.2.2.1 (e▸gs.mq hr))
   rw[hsp]at ey1
   simp only[if_true]at ey1
   have hgg:g=g' := hgc
   subst hgg
   have hig:i≠g:=hic.1
   subst ey1
   have hat:=GV (xs:=xs) (d:=d') gl il hig
   refine⟨Gq _ _ _ _,by rw[hat,if_neg hig,if_pos ⟨rfl,i0⟩],fun j hj hjc=>?_,fun d2 g2 s2 c2 e=>?_,fun e=>by cases e⟩
   . rw[hat,if_neg (fun e=>hjc (by simp[jJ,e])),if_neg (fun e=>hj e.1)]
   . cases e
     exact⟨fun j h1 h2=>by rw[hat,if_neg h2,if_neg (fun e=>h1 e.1)],by rw[hat,if_pos rfl]⟩
 obtain⟨l1,a1,o1,c1,e1⟩:=hy1
 have pnc:p∉jJ c:=np1.2
 have hp1:fM y1 p=fM xs p:=o1 p (fun e=>hip e.symm) pnc
 have hk1:(if sd d=0 then(fM y1 i).k1 else(fM y1 i).k0)=m.root:=by
  rw[a1]
  cases d
  . simp only[sd,cond_false,BS,if_false];simpa[iW]using hmk
  . simp only[sd,cond_true,if_true];simpa[iW]using hmk
 -- the second step
 obtain⟨y2,ey2⟩:∃ y,y=iP y1 p (sd d) m.root:=⟨_,rfl⟩
 have qb:=GV (xs:=y1) (i:=p) (k:=m.root) (d:=d) o_ o_ hmpr
 rw[<-ey2]at qb
 have l2:y2.length=xs.length:=by rw[ey2,Gq,l1]
 -- the third step
 obtain⟨y3,ey3⟩:∃ y,y=iP y2 i (sd (!d)) p:=⟨_,rfl⟩
 have p6:=GV (xs:=y2) (i:=i) (k:=p) (d := !d) o_ o_ (fun e=>hip e.symm)
 rw[<-ey3]at p6
 have l3:y3.length=xs.length:=by rw[ey3,Gq,l2]
 have hrot:iG xs i=iJ (iJ y3 p) i:=by
  have hsd:1-sd d=sd (!d):=by cases d<;>rfl
  unfold iG
  simp only[hsi,iu,hg,<-ey1,hk1,<-ey2,hsd,<-ey3]
 -- the nodes before the refreshes
 have q2i:fM y2 i={ fM xs i with up:=g }:=by rw[qb,if_neg hip,if_neg (fun e=>hmi e.1.symm),a1]
 have q2p:fM y2 p=pE d m.root (fM xs p):=by rw[qb,if_pos rfl,hp1]
 have q3i:fM y3 i=pE (!d) p { fM xs i with up:=g }:=by rw[p6,if_pos rfl,q2i]
 have q3p:fM y3 p={ pE d m.root (fM xs p)with up:=i }:=by rw[p6,if_neg (fun e=>hip e.symm),if_pos ⟨rfl,p0⟩,q2p]
 have q3m:m.root≠0->fM y3 m.root={ fM xs m.root with up:=p }:=fun h=>by
  rw[p6,if_neg hmi,if_neg (fun e=>hmpr e.1),qb,if_neg hmpr,if_pos ⟨rfl,h⟩,o1 _ hmi (hmp _ (.inl (hm1.mq h))).2.2]
 have q3o:∀ j,j≠i->j≠p->(j≠m.root\/m.root=0)->fM y3 j=fM y1 j:=fun j h1 h2 h3=>by
  rw[p6,if_neg h1,if_neg (fun e=>h2 e.1),qb,if_neg h2,if_neg (fun e=>by rcases h3 with h3|h3;exact h3 e.1;exact e.2 h3)]
 have q3n:∀ j,j≠i->j≠p->(j≠m.root\/m.root=0)->j∉jJ c->fM y3 j=fM xs j:=fun j h1 h2 h3 h4=>by rw[q3o j h1 h2 h3,o1 j h1 h4]
 have hmr:∀ j,j∉m.mem->j≠m.root\/m.root=0:=fun j hj=>by
  by_cases h:m.root=0
  . exact .inr h
  . exact .inl (fun e=>hj (e▸hm1.mq h))
 have keyj:∀ j,(fM y3 j).key=(fM xs j).key/\(fM y3 j).iO=(fM xs j).iO/\(fM y3 j).flip=(fM xs j).flip:=by
  have y1k:∀ j,(fM y1 j).key=(fM xs j).key/\(fM y1 j).iO=(fM xs j).iO/\(fM y1 j).flip=(fM xs j).flip:=by
   intro j
   by_cases h1:j=i
   . subst h1;rw[a1];exact⟨rfl,rfl,rfl⟩
   . cases hc:c with
     | nil=>rw[e1 hc j h1];exact⟨rfl,rfl,rfl⟩
     | cons f c' =>
      obtain⟨d', g', s'⟩:=f
      obtain⟨k1,k2⟩:=c1 d' g' s' c' hc
      by_cases h2:j=g'
      . subst h2;rw[k2];exact⟨F9 _ _ _,FJ _ _ _,FY _ _ _⟩
      . rw[k1 j h1 h2];exact⟨rfl,rfl,rfl⟩
  intro j
  by_cases h1:j=i
  . subst h1;rw[q3i];exact⟨by rw[F9],by rw[FJ],by rw[FY]⟩
  . by_cases h2:j=p
    . subst h2;rw[q3p];exact⟨F9 _ _ _,FJ _ _ _,FY _ _ _⟩
    . by_cases h3:j=m.root/\m.root≠0
      . obtain⟨rfl,h3⟩:=h3;rw[q3m h3];exact⟨rfl,rfl,rfl⟩
      . rw[q3o j h1 h2 (by by_cases h:m.root=0;exact .inr h;exact .inl (fun e=>h3 ⟨e,h⟩))];exact y1k j
 have kl3:KL xs y3:=⟨l3,fun j=>(keyj j).1,fun j=>(keyj j).2.1⟩
 -- the trees before the refreshes
 have hm3:gQ y3 m p:=by
  cases m with
  | nil=>trivial
  | nd ml mi mr =>
   refine hm1.up kl3 (fun j hj hr=>?_) (q3m hm1.1.1) hmn
   obtain⟨h1,h2,h3⟩:=hmp j (.inl hj)
   exact q3n j (fun e=>him (e▸hj)) h1 (.inl hr) h3
 have hsm:∀ j∈s.mem,j∉m.mem:=fun j hj hm=>(hmp j (.inl hm)).2.1 hj
 have hs3:gQ y3 s p:=hs.to kl3 fun j hj=>q3n j (fun e=>his (e▸hj)) (fun e=>np1.1 (e▸hj)) (hmr j (hsm j hj)) (fun h9=>nsc j hj j h9 rfl)
 have ho3:gQ y3 o i:=ho1.to kl3 fun j hj=>q3n j (fun e=>hio (e▸hj)) (hmp j (.inr hj)).1 (hmr j (fun h=>hmo' j h hj)) (hmp j (.inr hj)).2.2
 have hcm:∀ j∈jJ c,j≠i/\j≠p/\j∉m.mem:=fun j hj=>⟨fun e=>hic (e▸hj),fun e=>pnc (e▸hj),fun h=>(hmp j (.inl h)).2.2 hj⟩
 have hc3:me y3 c i (jM d (a.mem++i :: b.mem) p s) q:=by
  refine hCc.kB kl3 fun d' g' s' c' e=>?_
  obtain⟨k1,k2⟩:=c1 d' g' s' c' e
  subst e
  simp only[jJ,o6,zy,zq,not_or]at nc hcm
  refine⟨fun j hj=>?_,?_⟩
  . have hj' : j∈s'.mem\/j∈jJ c' := by simpa using hj
    have h:=hcm j (by simp only[zb,zq];exact .inr hj')
    rw[q3o j h.1 h.2.1 (hmr j h.2.2),k1 j h.1]
    rintro rfl
    rcases hj' with h' | h'
    . exact nc.1.1 h'
    . exact nc.1.2 h'
  . have h:=hcm g' s_
    rw[q3o g' h.1 h.2.1 (hmr g' h.2.2),k2]
 -- the parent is refreshed
 have hlenP:(jM d m.mem p s).length<=1000000:=by
  refine z7 ?_ hcnt
  refine z7 ?_ (GQ c (jM d (a.mem++i :: b.mem) p s))
  cases d<;>(simp only[cond_true,cond_false,Prod.mk.injEq]at hm;obtain⟨rfl,rfl⟩:=hm)<;>simp[jM]<;>omega
 have hlenI:(jM d (a.mem++i :: b.mem) p s).length<=1000000:=z7 (GQ c _) hcnt
 have hnP:(jM d m.mem p s).Nodup:=by
  cases d
  . simp only[jM,cond_false,zu,zy]
    exact⟨ns,⟨fun h=>(hmp p (.inl h)).1 rfl,hmn⟩,fun x hx y hy e=>by
     subst e
     rcases zb.1 hy with rfl|hy
     . exact np1.1 hx
     . exact hsm x hx hy⟩
  . simp only[jM,cond_true,zu,zy]
    exact⟨hmn,⟨np1.1,ns⟩,fun x hx y hy e=>by
     subst e
     rcases zb.1 hy with rfl|hy
     . exact(hmp _ (.inl hx)).1 rfl
     . exact hsm x hy hx⟩
 obtain⟨oz,hz⟩:=Ku (xs:=y3) (d:=d) (i:=p) (t:=m) (s:=s) ⟨p0,o_⟩ hm3 hs3 (by rw[iW,q3p];cases d<;>rfl) (by rw[iW,q3p,<-po];cases d<;>rfl) hnP hlenP
 rw[show (fM y3 p).up=i by rw[q3p]]at hz
 obtain⟨z,ez⟩:∃ z,z=iJ y3 p:=⟨_,rfl⟩
 rw[<-ez]at oz hz hrot
 have lz:z.length=xs.length:=by rw[oz.len,l3]
 have zi:fM z i=pE (!d) p { fM xs i with up:=g }:=by rw[oz.other i hip,q3i]
 have hoz:gQ z o i:=ho3.to oz.kl fun j hj=>oz.other j (hmp j (.inr hj)).1
 have hroot:(lT d m p s).root=p:=KJ _ _ _ _
 have hrt:lT (!d) (lT d m p s) i o=pN d a i b p s:=by
  cases d<;>(simp only[cond_true,cond_false,Prod.mk.injEq]at hm;obtain⟨rfl,rfl⟩:=hm)<;>rfl
 have hmemI:jM (!d) (lT d m p s).mem i o=jM d (a.mem++i :: b.mem) p s:=by rw[<-Gv,hrt,GJ]
 have hLn:(jM d (a.mem++i :: b.mem) p s).Nodup:=(AE (c:=c) hn).1
 obtain⟨oy,hy⟩:=Ku (xs:=z) (d := !d) (i:=i) (t:=lT d m p s) (s:=o) ⟨i0,o_⟩ hz hoz (by rw[iW,zi,hroot];cases d<;>rfl) (by rw[iW,zi,<-hok];cases d<;>rfl) (by rw[hmemI];exact hLn) (by rw[hmemI];exact hlenI)
 rw[<-hrot]at oy hy
 rw[hrt,show (fM z i).up=g by rw[zi,T7]]at hy
 have o2:∀ j,j≠i->j≠p->fM (iG xs i) j=fM y3 j:=fun j h1 h2=>by rw[oy.other j h1,oz.other j h2]
 have kl' : KL y3 (iG xs i):=oz.kl.trans oy.kl
 refine⟨(vS _ _ _).2 ⟨by rw[<-hgc];exact hy,?_⟩,kl3.trans kl', fun j hj=>?_,fun j=>?_⟩
 . rw[Uj,GJ]
   exact hc3.to kl' fun j hj=>o2 j (hcm j hj).1 (hcm j hj).2.1
 . have hj' : j∉jM d (a.mem++i :: b.mem) p s/\j∉jJ c:=by
    have:=mt (AK (c:=c)).2 hj
    simpa[not_or]using this
   have hjL:j≠i/\j≠p/\j∉m.mem:=by
    have h1:=hj'.1
    have h2:¬ (j∈a.mem\/j∈b.mem)/\j≠i/\j≠p:=by
     cases d<;>simp only[jM,cond_true,cond_false,zq,zb,not_or]at h1<;>exact⟨by simp[h1],by simp[h1],by simp[h1]⟩
    exact⟨h2.2.1,h2.2.2,fun h=>h2.1 ((hmem j).1 (.inl h))⟩
   rw[o2 j hjL.1 hjL.2.1,q3n j hjL.1 hjL.2.1 (hmr j hjL.2.2) hj'.2]
 . rw[oy.flip,oz.flip,(keyj j).2.2]
end Go.Sx
namespace Go.Sx
open Go
def gA(xs:List Nd):Bool->Tr->List Nat
 | _,.nil=>[]
 | φ,.nd l i r=>bif (xor φ (fM xs i).flip)then gA xs (xor φ (fM xs i).flip) r++i :: gA xs (xor φ (fM xs i).flip) l else gA xs (xor φ (fM xs i).flip) l++i :: gA xs (xor φ (fM xs i).flip) r
theorem rW{xs ys:List Nd}:∀ {t:Tr} {φ:Bool},(∀ j∈t.mem,(fM ys j).flip=(fM xs j).flip)->gA ys φ t=gA xs φ t
 | .nil,_,_=>rfl
 | .nd l i r,φ,h=>by
  simp only[gA,h i (by simp[Tr.mem])]
  rw[rW (t:=l) fun j hj=>h j (by simp[Tr.mem,hj]),rW (t:=r) fun j hj=>h j (by simp[Tr.mem,hj])]
theorem KX{xs ys:List Nd}{l r:Tr}{i:Nat}{φ:Bool}(hi:(fM ys i).flip = !(fM xs i).flip)(h:∀ j∈l.mem++r.mem,(fM ys j).flip=(fM xs j).flip):gA ys φ (.nd l i r)=gA xs (!φ) (.nd l i r):=by
 have e:xor φ (!(fM xs i).flip)=xor (!φ) (fM xs i).flip:=by cases φ<;>cases (fM xs i).flip<;>rfl
 simp only[gA,hi,e]
 rw[rW (t:=l) fun j hj=>h j (by simp[hj]),rW (t:=r) fun j hj=>h j (by simp[hj])]
theorem mZ(xs:List Nd):∀ (φ:Bool) (t:Tr),(gA xs φ t).Perm t.mem
 | _,.nil=>.nil
 | φ,.nd l i r=>by
  have hl:=mZ xs (xor φ (fM xs i).flip) l
  have hr:=mZ xs (xor φ (fM xs i).flip) r
  simp only[gA,Tr.mem]
  generalize xor φ (fM xs i).flip=ψ at hl hr ⊢
  cases ψ with
  | false =>
   simp only[cond_false]
   exact(hl.append_right _).trans (List.Perm.append_left _ (hr.cons i)) |>.trans (.refl _)
  | true =>
   simp only[cond_true]
   exact((hr.append_right _).trans (List.Perm.append_left _ (hl.cons i))).trans (rz.trans (by simp only[o6];exact u7.symm))
theorem T6{xs ys:List Nd}{d:Bool}{t t' s:Tr}{g:Nat}(ht:∀ ψ,gA ys ψ t' = gA xs ψ t)(h:∀ j∈g :: s.mem,(fM ys j).flip=(fM xs j).flip)(φ:Bool):gA ys φ (lT d t' g s)=gA xs φ (lT d t g s):=by
 have hs:∀ ψ,gA ys ψ s=gA xs ψ s:=fun ψ=>rW fun j hj=>h j (by simp[hj])
 cases d<;>simp only[lT,cond_true,cond_false,gA,h g s_,ht,hs]
theorem GO{xs ys:List Nd}:∀ {c:Cx} {t t' : Tr},(∀ ψ,gA ys ψ t' = gA xs ψ t)->(∀ j∈jJ c,(fM ys j).flip=(fM xs j).flip)->∀ φ,gA ys φ (jP c t')=gA xs φ (jP c t)
 | [],_,_,h,_,φ=>h φ
 | (d,g,s) :: c,t,t', h,hc,φ=>by
  simp only[jP]
  exact GO (c:=c) (fun ψ=>T6 h (fun j hj=>hc j (by simp only[jJ,zq];exact .inl hj)) ψ) (fun j hj=>hc j (by simp only[jJ,zq];exact .inr hj)) φ
theorem Ww{xs:List Nd}{d:Bool}{a b s:Tr}{i p:Nat}(hi:(fM xs i).flip=false)(hp:(fM xs p).flip=false)(φ:Bool):gA xs φ (pN d a i b p s)=gA xs φ (lT d (.nd a i b) p s):=by
 cases d<;>cases φ<;>simp[pN,lT,gA,hi,hp]
theorem gQ.E8{xs ys:List Nd}(hl:ys.length=xs.length):∀ {t:Tr} {p:Nat},gQ xs t p->(∀ j∈t.mem,∃ f,fM ys j={ fM xs j with flip:=f })->gQ ys t p:=by
 have key:∀ {t:Tr} {p:Nat} (L:List Nat),gQ xs t p->(∀ j∈t.mem,∃ f,fM ys j={ fM xs j with flip:=f })->gQ ys t p:=by
  intro t
  induction t with
  | nil=>intro p L _ _;trivial
  | nd l i r ihl ihr =>
   intro p L h hs
   obtain⟨⟨h0,h1⟩,⟨h2,h3,h4⟩,h5,h6,h7⟩:=h
   obtain⟨f,hi⟩:=hs i (by simp[Tr.mem])
   have hk:∀ j∈l.mem++i :: r.mem,(fM ys j).key=(fM xs j).key/\(fM ys j).iO=(fM xs j).iO:=fun j hj=>by
    obtain⟨f', e⟩:=hs j hj
    rw[e];exact⟨rfl,rfl⟩
   refine⟨⟨h0,o_⟩,⟨by rw[hi];exact h2,by rw[hi];exact h3,by rw[hi];exact h4⟩,⟨by rw[hi];exact h5.size,?_,?_⟩,ihl L h6 fun j hj=>hs j (by simp[Tr.mem,hj]),ihr L h7 fun j hj=>hs j (by simp[Tr.mem,hj])⟩
   . rw[hi,show mQ ys (l.mem++i :: r.mem)=mQ xs (l.mem++i :: r.mem) from congrArg List.sum (zO fun j hj=>by rw[(hk j hj).2])]
     exact h5.total
   . rw[hi]
     refine⟨h5.first.1,fun j hj=>?_⟩
     rcases h5.first.2 j hj with e|e
     . exact .inl e
     . refine .inr ?_
       rw[<-e]
       simp only[kU,(hk j hj).1,(hk _ h5.first.1).1]
 intro t p h hs
 exact key [] h hs
theorem HQ{xs:List Nd}{l r:Tr}{i p:Nat}(h:gQ xs (.nd l i r) p)(hn:(Tr.nd l i r).mem.Nodup) :
 ∃ l' r', ((l' = l/\r' = r)\/(l' = r/\r' = l))/\gQ (jK xs i) (.nd l' i r') p/\(fM (jK xs i) i).flip=false/\KL xs (jK xs i)/\(∀ j,j∉(Tr.nd l i r).mem->fM (jK xs i) j=fM xs j)/\∀ φ,gA (jK xs i) φ (.nd l' i r')=gA xs φ (.nd l i r):=by
 cases hf:(fM xs i).flip with
 | false =>
  have e:jK xs i=xs:=by unfold jK;rw[hf];rfl
  rw[e]
  exact⟨l,r,.inl ⟨rfl,rfl⟩,h,hf,KL.refl _,fun _ _=>rfl,fun _=>rfl⟩
 | true =>
  obtain⟨⟨i0,il⟩,⟨k0,k1,up⟩,v,hl,hr⟩:=h
  simp only[Tr.mem]at hn
  rw[zu,zy]at hn
  obtain⟨n1,⟨n2,n3⟩,n4⟩:=hn
  have nl:i∉l.mem:=fun h=>n4 i h i s_ rfl
  have hlr:∀ j∈l.mem,j∉r.mem:=fun j h1 h2=>n4 j h1 j (by simp[h2]) rfl
  have hli:l.root≠i:=fun e=>nl (e▸hl.mq o_)
  have hri:r.root≠i:=fun e=>n2 (e▸hr.mq o_)
  have hll:=hl.xK (show 0<xs.length by omega)
  have hrl:=hr.xK (show 0<xs.length by omega)
  have hne:l.root≠0->l.root≠r.root:=fun h0 e=>hlr _ (hl.mq h0) (e▸hr.mq (e▸h0))
  obtain⟨ys,ey⟩:∃ ys,ys=jK xs i:=⟨_,rfl⟩
  have hlen:ys.length=xs.length:=by
   rw[ey];unfold jK;rw[if_pos hf];simp only;split<;>split<;>simp[gM]
  have hat:fM ys i={ fM xs i with flip:=false,k0:=r.root,k1:=l.root }/\(∀ j,j≠i->fM ys j=if (j=l.root\/j=r.root)/\j≠0 then { fM xs j with flip := !(fM xs j).flip } else fM xs j):=by
   obtain⟨y0,e0⟩:∃ y,y=fR xs i (fun x=>{ x with flip:=false }):=⟨_,rfl⟩
   obtain⟨y1,e1⟩:∃ y,y=fR y0 i (fun x=>{ x with k0:=(fM y0 i).k1 }):=⟨_,rfl⟩
   obtain⟨y2,e2⟩:∃ y,y=fR y1 i (fun x=>{ x with k1:=(fM y0 i).k0 }):=⟨_,rfl⟩
   have l0:y0.length=xs.length:=by rw[e0,gM]
   have l1:y1.length=xs.length:=by rw[e1,gM,l0]
   have l2:y2.length=xs.length:=by rw[e2,gM,l1]
   have a0:fM y0 i={ fM xs i with flip:=false }:=by rw[e0,kr il]
   have a2:fM y2 i={ fM xs i with flip:=false,k0:=r.root,k1:=l.root }:=by
    rw[e2,kr o_,e1,kr o_,a0,<-k0,<-k1]
   have b2:∀ j,j≠i->fM y2 j=fM xs j:=fun j hj=>by
    rw[e2,kn (fun e=>hj e.symm),e1,kn (fun e=>hj e.symm),e0,kn (fun e=>hj e.symm)]
   have hp:jK xs i=(let y3:=if (fM y2 i).k0=0 then y2 else fR y2 (fM y2 i).k0 (fun x=>{ x with flip := !(fM y2 (fM y2 i).k0).flip });if (fM y2 i).k1=0 then y3 else fR y3 (fM y2 i).k1 (fun x=>{ x with flip := !(fM y3 (fM y2 i).k1).flip })):=by
    unfold jK;rw[if_pos hf];simp only[<-e0,<-e1,<-e2]
   rw[ey,hp]
   simp only[a2]
   by_cases hr0:r.root=0
   . by_cases hl0:l.root=0
     . simp only[hr0,hl0,if_true]
       refine⟨by rw[a2,hr0,hl0],fun j hj=>?_⟩
       rw[b2 j hj,if_neg (by rintro⟨e|e,h0⟩<;>exact h0 e)]
     . simp only[hr0,if_true,if_neg hl0]
       refine⟨by rw[kn hli,a2,hr0],fun j hj=>?_⟩
       rw[j5 o_]
       by_cases e:l.root=j
       . subst e;rw[if_pos rfl,if_pos ⟨.inl rfl,hl0⟩,b2 _ hj]
       . rw[if_neg e,if_neg (by rintro⟨e' | e', h0⟩;exact e e'.symm;exact h0 e'),b2 j hj]
   . have hfl:fM y2 l.root=fM xs l.root:=b2 _ hli
     by_cases hl0:l.root=0
     . simp only[hl0,if_true,if_neg hr0]
       refine⟨by rw[kn hri,a2,hl0],fun j hj=>?_⟩
       rw[j5 o_]
       by_cases e:r.root=j
       . subst e;rw[if_pos rfl,if_pos ⟨.inr rfl,hr0⟩,b2 _ hj]
       . rw[if_neg e,if_neg (by rintro⟨e' | e', h0⟩;exact h0 e'; exact e e'.symm),b2 j hj]
     . simp only[if_neg hl0,if_neg hr0]
       refine⟨by rw[kn hli,kn hri,a2],fun j hj=>?_⟩
       rw[j5 (by rw[gM];omega)]
       by_cases e:l.root=j
       . subst e;rw[if_pos rfl,if_pos ⟨.inl rfl,hl0⟩,kn (fun e=>hne hl0 e.symm),b2 _ hj]
       . rw[if_neg e,j5 o_]
         by_cases e' : r.root=j
         . subst e'; rw[if_pos rfl,if_pos ⟨.inr rfl,hr0⟩,b2 _ hj]
         . rw[if_neg e', if_neg (by rintro⟨q|q,h0⟩;exact e q.symm;exact e' q.symm),b2 j hj]
  obtain⟨ai,ao⟩:=hat
  have hfe:∀ j,j≠i->∃ f,fM ys j={ fM xs j with flip:=f }:=fun j hj=>by
   rw[ao j hj];split
   . exact⟨_,rfl⟩
   . exact⟨(fM xs j).flip,rfl⟩
  have kl:KL xs ys:=by
   refine⟨hlen,fun j=>?_,fun j=>?_⟩<;>(by_cases hj:j=i)
   . subst hj;rw[ai]
   . obtain⟨f,e⟩:=hfe j hj;rw[e]
   . subst hj;rw[ai]
   . obtain⟨f,e⟩:=hfe j hj;rw[e]
  have hl' : gQ ys l i:=hl.E8 hlen fun j hj=>hfe j (fun e=>nl (e▸hj))
  have hr' : gQ ys r i:=hr.E8 hlen fun j hj=>hfe j (fun e=>n2 (e▸hj))
  rw[<-ey]
  have tog:∀ (t:Tr),(t=l\/t=r)->gQ xs t i->t.mem.Nodup->(∀ j∈t.mem,j≠i)->(∀ j∈t.mem,j≠t.root->j≠l.root/\j≠r.root)->∀ φ,gA ys φ t=gA xs (!φ) t:=by
   intro t ht hR hN hI hO φ
   cases t with
   | nil=>rfl
   | nd a k b =>
    simp only[Tr.mem]at hN hI hO
    rw[zu,zy]at hN
    obtain⟨m1,⟨m2,m3⟩,m4⟩:=hN
    refine KX ?_ fun j hj=>?_
    . rw[ao k (hI k s_),if_pos ⟨by rcases ht with e|e<;>rw[<-e]<;>simp[Tr.root],hR.1.1⟩]
    . have hj' : j∈a.mem\/j∈b.mem:=by simpa using hj
      have hjk:j≠k:=by rintro rfl;rcases hj' with h|h;exact m4 j h j s_ rfl;exact m2 h
      have h1:=hO j (by simp only[zq,zb];rcases hj' with h|h<;>simp[h]) hjk
      rw[ao j (hI j (by simp only[zq,zb];rcases hj' with h|h<;>simp[h])),if_neg (by rintro⟨e|e,_⟩;exact h1.1 e;exact h1.2 e)]
  have sl:=tog l (.inl rfl) hl n1 (fun j hj e=>nl (e▸hj)) (fun j hj hj1=>⟨hj1,fun e=>by
   by_cases h0:r.root=0
   . exact(hl.oK j hj).1 (e.trans h0)
   . exact hlr j hj (e▸hr.mq h0)⟩)
  have sr:=tog r (.inr rfl) hr n3 (fun j hj e=>n2 (e▸hj)) (fun j hj hr' => ⟨fun e=>by
   by_cases h0:l.root=0
   . exact(hr.oK j hj).1 (e.trans h0)
   . exact hlr j (e▸hl.mq h0) hj,hr'⟩)
  refine⟨r,l,.inr ⟨rfl,rfl⟩,⟨⟨i0,o_⟩,⟨by rw[ai],by rw[ai],by rw[ai];exact up⟩,?_,hr', hl'⟩,by rw[ai],kl,fun j hj=>?_,fun φ=>?_⟩
  . have v' : oq ys i (l.mem++i :: r.mem):=v.to kl (by rw[ai]) (by rw[ai]) (by rw[ai])
    exact v'.perm (rz.trans (by simp only[o6];exact u7.symm))
  . simp only[Tr.mem,zq,zb,not_or]at hj
    rw[ao j hj.2.1,if_neg]
    rintro⟨e|e,h0⟩
    . exact hj.1 (e▸hl.mq (e▸h0))
    . exact hj.2.2 (e▸hr.mq (e▸h0))
  . simp only[gA,hf,ai,sl,sr]
    cases φ<;>simp
theorem me.perm{xs:List Nd}:∀ {c:Cx} {r q:Nat} {L M:List Nat},me xs c r L q->L.Perm M->me xs c r M q
 | [],_,_,_,_,_,_=>trivial
 | (d,g,s) :: c,r,q,L,M,h,hp=>by
  obtain⟨h1,h2,h3,h4,h5⟩:=h
  have hc:(jM d L g s).Perm (jM d M g s):=by
   cases d
   . exact List.Perm.append_left _ (hp.cons g)
   . exact hp.append_right _
  exact⟨h1,h2,h3.perm hc,h4,me.perm h5 hc⟩
theorem KO:∀ {c:Cx} {L M:List Nat},L.Perm M->(kX c L).Perm (kX c M)
 | [],_,_,h=>h
 | (d,g,s) :: c,L,M,h=>by
  refine KO (c:=c) ?_
  cases d
  . exact List.Perm.append_left _ (h.cons g)
  . exact h.append_right _
theorem Gj:∀ {c:Cx} {f:Bool×Nat×Tr},f∈c->f.2.1∈jJ c
 | [],_,h=>by simp at h
 | (d,g,s) :: c,f,h=>by
  simp only[jJ,zq,zb]
  rcases zb.1 h with rfl|h
  . exact .inl (.inl rfl)
  . exact .inr (Gj h)
end Go.Sx
namespace Go.Sx
open Go
theorem F3:∀ (c c' : Cx) (t:Tr),jP (c++c') t=jP c' (jP c t)
 | [],_,_=>rfl
 | (d,g,s) :: c,c', t=>by simp only[o6,jP];exact F3 c c' _
theorem Dj{i:Nat}:∀ {t:Tr},i∈t.mem->∃ c a b,t=jP c (.nd a i b)
 | .nil,h=>by simp[Tr.mem]at h
 | .nd l j r,h=>by
  simp only[Tr.mem,zq,zb]at h
  rcases h with h|rfl|h
  . obtain⟨c,a,b,e⟩:=Dj h
    exact⟨c++[(true,j,r)],a,b,by rw[F3,<-e];rfl⟩
  . exact⟨[],l,r,rfl⟩
  . obtain⟨c,a,b,e⟩:=Dj h
    exact⟨c++[(false,j,l)],a,b,by rw[F3,<-e];rfl⟩
def iY(c:Cx)(i:Nat):List Nat:=i :: c.map (fun f=>f.2.1)
def Way(i:Nat):Tr->List Nat->Prop
 | .nil,_=>False
 | .nd l j r,w=>(j=i/\w=[i])\/∃ w', w=j :: w' /\ (Way i l w' \/ Way i r w')
theorem MQ{i:Nat}:∀ {c:Cx} {t:Tr} {w:List Nat},Way i t w->Way i (jP c t) ((c.map (fun f=>f.2.1)).reverse++w)
 | [],_,_,h=>h
 | (d,g,s) :: c,t,w,h=>by
  have:Way i (lT d t g s) (g :: w):=by cases d<;>simp only[lT,cond_true,cond_false,Way];exact .inr ⟨w,rfl,.inr h⟩;exact .inr ⟨w,rfl,.inl h⟩
  have:=MQ (c:=c) this
  simpa[jP]using this
theorem Xt(c:Cx)(a:Tr)(i:Nat)(b:Tr):Way i (jP c (.nd a i b)) (iY c i).reverse:=by
 have:=MQ (c:=c) (t:=.nd a i b) (w:=[i]) (.inl ⟨rfl,rfl⟩)
 simpa[iY]using this
structure At (xs:List Nd) (c:Cx) (j:Nat) (L:List Nat) (q:Nat):Prop where
 rep:me xs c j L q
 up:(fM xs j).up=uX c q
 mem:j∈L
 nodup:(kX c L).Nodup
 ne:j≠0
 lt:j<xs.length
def Out(xs:List Nd)(q:Nat)(L:List Nat):Prop:=q=0\/iW xs true q∉L/\iW xs false q∉L/\q∉L
theorem At.start{xs:List Nd}{c:Cx}{a b:Tr}{i q:Nat}(h:gQ xs (jP c (.nd a i b)) q)(hn:(jP c (.nd a i b)).mem.Nodup):At xs c i (Tr.nd a i b).mem q:=by
 obtain⟨h1,h2⟩:=(vS _ _ _).1 h
 exact⟨h2,h1.2.1.2.2,by simp[Tr.mem],by rw[<-nQ];exact hn,h1.1.1,h1.1.2⟩
theorem At.step{xs:List Nd}{d:Bool}{g:Nat}{s:Tr}{c:Cx}{j q:Nat}{L:List Nat}(h:At xs ((d,g,s) :: c) j L q):jk xs j=(sd d,true)/\(fM xs j).up=g/\At xs c g (jM d L g s) q:=by
 obtain⟨⟨g0,gl⟩,⟨gk,go,gu⟩,gv,gs,gc⟩:=h.rep
 have hn:=h.nodup
 obtain⟨n1,n2,n3⟩:=AE hn
 have hjs:s.root≠j:=fun e=>by
  have h0:s.root≠0:=by rw[e];exact h.ne
  exact n3 j h.mem (by simp only[jJ,zq,zb];exact .inl (.inr (e▸gs.mq h0)))
 refine⟨HC (p:=g) h.up g0 gk (by rw[go];exact hjs),h.up,gc,gu,by cases d<;>simp[jM],hn,g0,gl⟩
theorem At.stop{xs:List Nd}{j q:Nat}{L:List Nat}(h:At xs [] j L q)(hq:Out xs q L):jk xs j=(0,false) :=
 LA h.up (by
  rcases hq with e|⟨h1,h2,_⟩
  . exact .inl e
  . exact .inr ⟨fun e=>h1 (e▸h.mem),fun e=>h2 (e▸h.mem)⟩)
structure jo (xs0 xs:List Nd) (T0:Tr) (O:Cx) (U:Tr) (q:Nat):Prop where
 rep:gQ xs (jP O U) q
 perm:(jP O U).mem.Perm T0.mem
 ord:∀ φ,gA xs φ (jP O U)=gA xs0 φ T0
 kl:KL xs0 xs
 other:∀ j,j∉T0.mem->fM xs j=fM xs0 j
 flip:∀ f∈O,(fM xs f.2.1).flip=false
theorem jo.start{xs:List Nd}{T:Tr}{q:Nat}(h:gQ xs T q):jo xs xs T [] T q:=⟨h,.refl _,fun _=>rfl,KL.refl _,fun _ _=>rfl,s_⟩
theorem jo.nodup{xs0 xs:List Nd}{T0 U:Tr}{O:Cx}{q:Nat}(h:jo xs0 xs T0 O U q)(hn:T0.mem.Nodup):(kX O U.mem).Nodup:=by rw[<-nQ];exact(h.perm.nodup_iff).2 hn
theorem jo.push{xs0 xs:List Nd}{T0 l r:Tr}{O:Cx}{q j:Nat}(h:jo xs0 xs T0 O (.nd l j r) q)(hn:T0.mem.Nodup) :
 ∃ l' r', ((l' = l/\r' = r)\/(l' = r/\r' = l))/\jo xs0 (jK xs j) T0 O (.nd l' j r') q/\(fM (jK xs j) j).flip=false:=by
 have hnd:=h.nodup hn
 obtain⟨m1,m2,m3⟩:=AE hnd
 obtain⟨hT,hC⟩:=(vS _ _ _).1 h.rep
 obtain⟨l', r', hlr,hR,hf,hk,ho,hs⟩:=HQ hT m1
 have hmem:(Tr.nd l' j r').mem.Perm (Tr.nd l j r).mem:=by
  rcases hlr with ⟨rfl,rfl⟩|⟨rfl,rfl⟩
  . exact .refl _
  . simp only[Tr.mem]
    exact rz.trans (by simp only[o6];exact u7.symm)
 have hoc:∀ k∈jJ O,fM (jK xs j) k=fM xs k:=fun k hk' => ho k fun hm=>m3 k hm hk'
 refine⟨l', r', hlr,⟨(vS _ _ _).2 ⟨hR,?_⟩,?_,fun φ=>?_,h.kl.trans hk,fun k hk' => ?_,fun f hf' => ?_⟩,hf⟩
 . exact(hC.to hk hoc).perm hmem.symm
 . refine List.Perm.trans ?_ h.perm
   rw[nQ,nQ]
   exact KO hmem
 . rw[<-h.ord φ]
   exact GO hs (fun k hk' => by rw[hoc k hk']) φ
 . rw[ho k ?_,h.other k hk']
   intro hm
   exact hk' (h.perm.mem_iff.1 (by rw[nQ];exact AK.2 (.inl hm)))
 . rw[hoc f.2.1 (Gj hf')]
   exact h.flip f hf'
theorem jo.rotate{xs0 xs:List Nd}{T0 a b s:Tr}{d:Bool}{c:Cx}{p i q:Nat}(h:jo xs0 xs T0 ((d,p,s) :: c) (.nd a i b) q)(hn:T0.mem.Nodup)(hlen:xs.length<=1000001)(hcnt:T0.mem.length<=1000000)(hq:Out xs0 q T0.mem)
 (hi:(fM xs i).flip=false):jo xs0 (iG xs i) T0 c (pN d a i b p s) q/\∀ j,(fM (iG xs i) j).flip=(fM xs j).flip:=by
 have hnd:=h.nodup hn
 have hpm:p∈T0.mem:=h.perm.mem_iff.1 (by rw[nQ];exact AK.2 (.inr (by simp[jJ])))
 have hl:(kX ((d,p,s) :: c) (a.mem++i :: b.mem)).length=T0.mem.length:=by
  have:=h.perm.length_eq
  rw[nQ]at this
  exact this
 obtain⟨hR,hO⟩:=vO h.rep hnd hlen o_ (fun _=>by
  rcases hq with e|⟨h1,h2,h3⟩
  . exact .inl e
  . have e:fM xs q=fM xs0 q:=h.other q h3
    refine .inr ⟨fun e' => h1 ?_,fun e' => h2 ?_⟩
    . rw[iW,e]at e'; rw[iW,e'];exact hpm
    . rw[iW,e]at e'; rw[iW,e'];exact hpm)
 have hpf:=h.flip (d,p,s) s_
 have hmem:(jP c (pN d a i b p s)).mem=(jP ((d,p,s) :: c) (.nd a i b)).mem:=by
  rw[nQ,nQ,GJ];rfl
 refine⟨⟨hR,by rw[hmem];exact h.perm,fun φ=>?_,h.kl.trans hO.kl,fun k hk=>?_,fun f hf=>?_⟩,hO.flip⟩
 . rw[<-h.ord φ]
   have e1:gA (iG xs i) φ (jP c (pN d a i b p s))=gA xs φ (jP c (pN d a i b p s)):=rW fun j _=>hO.flip j
   rw[e1]
   exact GO (c:=c) (fun ψ=>Ww hi hpf ψ) (fun _ _=>rfl) φ
 . rw[hO.other k ?_,h.other k hk]
   intro hm
   refine hk (h.perm.mem_iff.1 ?_)
   rw[nQ]
   exact hm
 . rw[hO.flip]
   exact h.flip f (by simp[hf])
theorem RO(d:Bool)(a:Tr)(i:Nat)(b:Tr)(p:Nat)(s:Tr)(g:Nat)(s' : Tr) :
 pN d (bif d then .nd a i b else s) p (bif d then s else .nd a i b) g s' = lT d (.nd a i b) p (bif d then .nd s g s' else .nd s' g s):=by
 cases d<;>rfl
theorem S5(d:Bool)(t:Tr)(p:Nat)(s:Tr):lT d t p s = .nd (bif d then t else s) p (bif d then s else t):=by cases d<;>rfl
theorem CP(d:Bool)(a:Tr)(i:Nat)(b:Tr)(p:Nat)(s:Tr):pN d a i b p s = .nd (bif d then a else .nd s p a) i (bif d then .nd b p s else b):=by cases d<;>rfl
theorem jo.X5{xs0 xs:List Nd}{T0 a b s s' : Tr}{d:Bool}{c:Cx}{p i g q:Nat}(h:jo xs0 xs T0 ((d,p,s) :: (d,g,s') :: c) (.nd a i b) q)(hn:T0.mem.Nodup)(hlen:xs.length<=1000001)(hcnt:T0.mem.length<=1000000)(hq:Out xs0 q T0.mem)
 (hi:(fM xs i).flip=false):∃ a' b', jo xs0 (iG (iG xs p) i) T0 c (.nd a' i b') q/\(fM (iG (iG xs p) i) i).flip=false:=by
 have h1:jo xs0 xs T0 ((d,g,s') :: c) (.nd (bif d then .nd a i b else s) p (bif d then s else .nd a i b)) q:=by
  rw[<-S5]
  exact⟨h.rep,h.perm,h.ord,h.kl,h.other,fun f hf=>h.flip f (lu _ hf)⟩
 obtain⟨h2,f2⟩:=h1.rotate hn hlen hcnt hq (h.flip (d,p,s) s_)
 rw[RO]at h2
 have h3:jo xs0 (iG xs p) T0 ((d,p,(bif d then .nd s g s' else .nd s' g s)) :: c) (.nd a i b) q :=
  ⟨h2.rep,h2.perm,h2.ord,h2.kl,h2.other,fun f hf=>by
   rcases zb.1 hf with rfl|hf
   . rw[f2];exact h.flip (d,p,s) s_
   . exact h2.flip f hf⟩
 obtain⟨h4,f4⟩:=h3.rotate hn (by rw[h2.kl.len,<-h.kl.len];exact hlen) hcnt hq (by rw[f2];exact hi)
 rw[CP]at h4
 exact⟨_,_,h4,by rw[f4,f2];exact hi⟩
theorem jo.Yt{xs0 xs:List Nd}{T0 a b s s' : Tr}{d d' : Bool}{c:Cx}{p i g q:Nat}(h:jo xs0 xs T0 ((d,p,s) :: (d', g,s') :: c) (.nd a i b) q)(hn:T0.mem.Nodup)(hlen:xs.length<=1000001)(hcnt:T0.mem.length<=1000000)(hq:Out xs0 q T0.mem)
 (hi:(fM xs i).flip=false):∃ a' b', jo xs0 (iG (iG xs i) i) T0 c (.nd a' i b') q/\(fM (iG (iG xs i) i) i).flip=false:=by
 obtain⟨h2,f2⟩:=h.rotate hn hlen hcnt hq hi
 rw[CP]at h2
 obtain⟨h4,f4⟩:=h2.rotate hn (by rw[h2.kl.len,<-h.kl.len];exact hlen) hcnt hq (by rw[f2];exact hi)
 rw[CP]at h4
 exact⟨_,_,h4,by rw[f4,f2];exact hi⟩
theorem jo.zig{xs0 xs:List Nd}{T0 a b s:Tr}{d:Bool}{p i q:Nat}(h:jo xs0 xs T0 [(d,p,s)] (.nd a i b) q)(hn:T0.mem.Nodup)(hlen:xs.length<=1000001)(hcnt:T0.mem.length<=1000000)(hq:Out xs0 q T0.mem)
 (hi:(fM xs i).flip=false):∃ a' b', jo xs0 (iG xs i) T0 [] (.nd a' i b') q/\(fM (iG xs i) i).flip=false:=by
 obtain⟨h2,f2⟩:=h.rotate hn hlen hcnt hq hi
 rw[CP]at h2
 exact⟨_,_,h2,by rw[f2];exact hi⟩
end Go.Sx
namespace Go.Sx
open Go
def mH(s:List Nat)(q v u:Nat):Prop:=∃ s1 s2,s=s1++v :: s2/\u=s1.getLast?.getD q
theorem GD{q v u:Nat}:¬ mH [] q v u:=by
 rintro⟨s1,s2,h,_⟩;simp at h
theorem qR{x:Nat}{s:List Nat}{q v u:Nat}:mH (x :: s) q v u↔(v=x/\u=q)\/mH s x v u:=by
 constructor
 . rintro⟨s1,s2,h,rfl⟩
   cases s1 with
   | nil=>simp at h;exact .inl ⟨h.1.symm,rfl⟩
   | cons y s1 =>
    simp only[o6,List.cons.injEq]at h
    obtain⟨rfl,rfl⟩:=h
    refine .inr ⟨s1,s2,rfl,?_⟩
    rw[B6];simp
 . rintro(⟨rfl,rfl⟩|⟨s1,s2,rfl,rfl⟩)
   . exact⟨[],s,rfl,rfl⟩
   . refine⟨x :: s1,s2,rfl,?_⟩
     rw[B6];simp
theorem Ks{s t:List Nat}{q v u:Nat}:mH (s++t) q v u↔mH s q v u\/mH t (s.getLast?.getD q) v u:=by
 induction s generalizing q with
 | nil=>simp[GD]
 | cons x s ih =>
  rw[o6,qR,ih,qR,B6,or_assoc]
  simp
theorem uo{s:List Nat}{q v u:Nat}(h:mH s q v u):v∈s:=by
 obtain⟨s1,s2,rfl,_⟩:=h;simp
theorem RN{s:List Nat}{q v u u' : Nat}(hn:s.Nodup)(h:mH s q v u)(h' : mH s q v u'):u=u' := by
 induction s generalizing q with
 | nil=>exact absurd h GD
 | cons x s ih =>
  rw[zy]at hn
  rcases qR.1 h with ⟨rfl,rfl⟩|h1<;>rcases qR.1 h' with ⟨h2,h3⟩|h2
  . exact h3.symm
  . exact absurd (uo h2) hn.1
  . subst h2;exact absurd (uo h1) hn.1
  . exact ih hn.2 h1 h2
abbrev uR:=List (List Nat×Nat)
def gY(S:uR)(v u:Nat):Prop:=∃ e∈S,mH e.1 e.2 v u
def vY(S:uR):List Nat:=S.flatMap (·.1)
theorem gY.perm{S S' : uR}(h:S.Perm S'){v u:Nat}:gY S v u↔gY S' v u :=
 ⟨fun⟨e,he,h1⟩=>⟨e,h.mem_iff.1 he,h1⟩,fun⟨e,he,h1⟩=>⟨e,h.mem_iff.2 he,h1⟩⟩
theorem gY.cons{e:List Nat×Nat}{S:uR}{v u:Nat}:gY (e :: S) v u↔mH e.1 e.2 v u\/gY S v u:=by
 simp only[gY,zb,exists_eq_or_imp]
theorem qS{S:uR}(hn:(vY S).Nodup){v u u' : Nat}(h:gY S v u)(h' : gY S v u'):u=u' := by
 induction S with
 | nil=>obtain⟨e,he,_⟩:=h;simp at he
 | cons e S ih =>
  simp only[vY,kO,zu]at hn
  obtain⟨n1,n2,n3⟩:=hn
  have hin:∀ {w},gY S v w->v∈S.flatMap (·.1):=fun⟨f,hf,hp⟩=>o7.2 ⟨f,hf,uo hp⟩
  rcases gY.cons.1 h with h1|h1<;>rcases gY.cons.1 h' with h2|h2
  . exact RN n1 h1 h2
  . exact absurd rfl (n3 v (uo h1) v (hin h2))
  . exact absurd rfl (n3 v (uo h2) v (hin h1))
  . exact ih n2 h1 h2
inductive PR (P:Nat->Nat->Prop):Nat->Nat->Prop where
 | top {v:Nat} (h:P v 0):PR P v v
 | step {v u r:Nat} (h:P v u) (h0:u≠0) (k:PR P u r):PR P v r
theorem PR.mono{P Q:Nat->Nat->Prop}(h:∀ v u,P v u->Q v u){v r:Nat}(k:PR P v r):PR Q v r:=by
 induction k with
 | top hp=>exact .top (h _ _ hp)
 | step hp h0 _ ih=>exact .step (h _ _ hp) h0 ih
theorem PR.unique{P:Nat->Nat->Prop}(hu:∀ v u u', P v u->P v u' -> u=u'){v r r' : Nat}(k:PR P v r)(k' : PR P v r'):r=r' := by
 induction k with
 | top hp =>
  cases k' with
  | top _=>rfl
  | step hp' h0 _=>exact absurd (hu _ _ _ hp' hp) h0
 | step hp h0 _ ih =>
  cases k' with
  | top hp' => exact absurd (hu _ _ _ hp hp') h0
  | step hp' _ k2=>rw[hu _ _ _ hp' hp]at k2;exact ih k2
theorem PR.root{P:Nat->Nat->Prop}{v r:Nat}(k:PR P v r):P r 0:=by
 induction k with
 | top h=>exact h
 | step _ _ _ ih=>exact ih
theorem PR.D8{P:Nat->Nat->Prop}{s:List Nat}:∀ {q v h:Nat},s.head? = some h->(∀ x∈s,x≠0)->(∀ v u,mH s q v u->P v u)->v∈s->(q=0->PR P v h)/\(∀ r,q≠0->PR P q r->PR P v r):=by
 induction s with
 | nil=>intro q v h hh;simp at hh
 | cons x s ih =>
  intro q v h hh h0 hP hv
  simp only[List.head?_cons,Option.some.injEq]at hh
  subst hh
  have hx:P x q:=hP _ _ (qR.2 (.inl ⟨rfl,rfl⟩))
  rcases zb.1 hv with rfl|hv
  . exact⟨fun e=>.top (e▸hx),fun r hq k=>.step hx hq k⟩
  . cases s with
    | nil=>simp at hv
    | cons y s =>
     have:=(ih (q:=x) (v:=v) (h:=y) rfl (fun z hz=>h0 z (lu _ hz)) (fun v u hp=>hP _ _ (qR.2 (.inr hp))) hv).2
     exact⟨fun e=>this x (h0 x s_) (.top (e▸hx)),fun r hq k=>this r (h0 x s_) (.step hx hq k)⟩
end Go.Sx
namespace Go.Sx
open Go
abbrev FT:=List (Tr×Nat)
def jt(F:FT):List Nat:=F.flatMap fun e=>e.1.mem
def gV(xs:List Nd)(F:FT):uR:=F.map fun e=>(gA xs false e.1,e.2)
structure Fo (xs:List Nd) (F:FT):Prop where
 rep:∀ e∈F,gQ xs e.1 e.2
 ne:∀ e∈F,e.1.root≠0
 nodup:(jt F).Nodup
 all:∀ j,j≠0->j<xs.length->j∈jt F
 par:∀ e∈F,e.2<xs.length
 q6:∃ ρ:Nat->Nat,(∀ e∈F,∀ i∈e.1.mem,∀ j∈e.1.mem,ρ i=ρ j)/\∀ e∈F,e.2≠0->∀ i∈e.1.mem,ρ i<ρ e.2
 zero:(fM xs 0).k0=0/\(fM xs 0).k1=0/\(fM xs 0).total=0
 pos:0<xs.length
 len:xs.length<=1000001
theorem Kp{α β:Type}{l l' : List α}(h:l.Perm l')(f:α->List β):(l.flatMap f).Perm (l'.flatMap f):=by
 induction h with
 | nil=>exact .nil
 | cons x _ ih=>simp only[kO];exact ih.append_left _
 | swap x y l =>
  simp only[kO,<-mT]
  exact rz.append_right _
 | trans _ _ ih1 ih2=>exact ih1.trans ih2
theorem Fo.perm{xs:List Nd}{F F' : FT}(h:Fo xs F)(hp:F.Perm F'):Fo xs F' := by
 have hn:(jt F).Perm (jt F'):=Kp hp _
 obtain⟨ρ,h1,h2⟩:=h.q6
 exact⟨fun e he=>h.rep e (hp.mem_iff.2 he),fun e he=>h.ne e (hp.mem_iff.2 he),hn.nodup_iff.1 h.nodup,fun j h0 hj=>hn.mem_iff.1 (h.all j h0 hj),fun e he=>h.par e (hp.mem_iff.2 he),
  ⟨ρ,fun e he=>h1 e (hp.mem_iff.2 he),fun e he=>h2 e (hp.mem_iff.2 he)⟩,h.zero,h.pos,h.len⟩
theorem mY{F:FT}{e:Tr×Nat}{j:Nat}(he:e∈F)(hj:j∈e.1.mem):j∈jt F:=o7.2 ⟨e,he,hj⟩
theorem Fo.split{xs:List Nd}{T:Tr}{q:Nat}{R:FT}(h:Fo xs ((T,q) :: R)):T.mem.Nodup/\(jt R).Nodup/\∀ j∈T.mem,j∉jt R:=by
 have hn:=h.nodup
 simp only[jt,kO,zu]at hn
 exact⟨hn.1,hn.2.1,fun j h1 h2=>hn.2.2 j h1 j h2 rfl⟩
theorem nodup_lt_length:∀ (n:Nat) (L:List Nat),L.Nodup->(∀ j∈L,j<n)->L.length<=n
 | 0,L,_,h=>by
  cases L with
  | nil=>simp
  | cons x L=>exact absurd (h x s_) o_
 | n+1,L,hn,h=>by
  have h1:=nodup_lt_length n (L.erase n) (hn.erase n) (fun j hj=>by
   have h2:=h j (List.mem_of_mem_erase hj)
   have h3:j≠n:=fun e=>by subst e;exact(List.Nodup.not_mem_erase hn) hj
   omega)
  have h2:=List.length_erase_le (a:=n) (l:=L)
  have h3:L.length<=(L.erase n).length+1:=by
   rw[List.length_erase];split<;>omega
  omega
theorem Fo.count{xs:List Nd}{T:Tr}{q:Nat}{R:FT}(h:Fo xs ((T,q) :: R)):T.mem.length<=1000000:=by
 have h1:=nodup_lt_length xs.length (0 :: T.mem) (by
  rw[zy]
  exact⟨fun h0=>((h.rep (T,q) s_).oK 0 h0).1 rfl,h.split.1⟩) (fun j hj=>by
  rcases zb.1 hj with rfl|hj
  . exact h.pos
  . exact((h.rep (T,q) s_).oK j hj).2)
 have:=h.len
 simp only[zp]at h1
 omega
theorem gQ.Hw{xs:List Nd}{d:Bool}:∀ {t:Tr} {p j:Nat},gQ xs t p->j∈t.mem->iW xs d j=0\/iW xs d j∈t.mem
 | .nil,_,_,_,hj=>by simp[Tr.mem]at hj
 | .nd l i r,p,j,h,hj=>by
  obtain⟨_,⟨h2,h3,_⟩,_,h6,h7⟩:=h
  simp only[Tr.mem,zq,zb]at hj ⊢
  rcases hj with hj|rfl|hj
  . rcases gQ.Hw h6 hj with e|e
    . exact .inl e
    . exact .inr (.inl e)
  . cases d
    . simp only[iW,cond_false,h3]
      by_cases e:r.root=0
      . exact .inl e
      . exact .inr (.inr (.inr (h7.mq e)))
    . simp only[iW,cond_true,h2]
      by_cases e:l.root=0
      . exact .inl e
      . exact .inr (.inl (h6.mq e))
  . rcases gQ.Hw h7 hj with e|e
    . exact .inl e
    . exact .inr (.inr (.inr e))
theorem Fo.out{xs:List Nd}{T:Tr}{q:Nat}{R:FT}(h:Fo xs ((T,q) :: R)):Out xs q T.mem:=by
 by_cases hq:q=0
 . exact .inl hq
 . obtain⟨ρ,h1,h2⟩:=h.q6
   have hqT:q∉T.mem:=fun hm=>by
    have:=h2 (T,q) s_ hq q hm
    simp at this
   have hall:=h.all q hq (h.par (T,q) s_)
   simp only[jt,kO,zq]at hall
   rcases hall with hm|hm
   . exact absurd hm hqT
   . obtain⟨e,he,hm⟩:=o7.1 hm
     have hz:0∉T.mem:=fun h0=>((h.rep (T,q) s_).oK 0 h0).1 rfl
     have key:∀ d,iW xs d q∉T.mem:=fun d hk=>by
      rcases gQ.Hw (d:=d) (h.rep e (by simp[he])) hm with e0|e0
      . exact hz (e0▸hk)
      . exact h.split.2.2 _ hk (mY he e0)
     exact .inr ⟨key true,key false,hqT⟩
theorem gQ.qE{xs ys:List Nd}(hl:ys.length=xs.length){t:Tr}{p:Nat}(h:gQ xs t p)(hs:∀ j∈t.mem,fM ys j=fM xs j):gQ ys t p :=
 h.E8 hl fun j hj=>⟨(fM xs j).flip,by rw[hs j hj]⟩
theorem HT{xs ys:List Nd}{t:Tr}{φ:Bool}(hs:∀ j∈t.mem,fM ys j=fM xs j):gA ys φ t=gA xs φ t:=rW fun j hj=>by rw[hs j hj]
theorem G1{xs ys:List Nd}{F:FT}(hs:∀ j∈jt F,fM ys j=fM xs j):gV ys F=gV xs F:=by
 unfold gV
 refine zO fun e he=>?_
 rw[HT fun j hj=>hs j (mY he hj)]
theorem Fo.OV{xs ys:List Nd}{T U:Tr}{q:Nat}{R:FT}(h:Fo xs ((T,q) :: R))(m:jo xs ys T [] U q):Fo ys ((U,q) :: R)/\gV ys ((U,q) :: R)=gV xs ((T,q) :: R)/\(∀ e∈R,∀ j∈e.1.mem,fM ys j=fM xs j):=by
 obtain⟨n1,n2,n3⟩:=h.split
 have hlen:=m.kl.len
 have hp:U.mem.Perm T.mem:=m.perm
 have hR:∀ j∈jt R,fM ys j=fM xs j:=fun j hj=>m.other j fun ht=>n3 j ht hj
 have hz:0∉T.mem:=fun h0=>((h.rep (T,q) s_).oK 0 h0).1 rfl
 have hne:U.root≠0:=by
  intro e
  have h1:=gQ.GX (t:=U) m.rep e
  rw[h1]at hp
  have h2:=h.ne (T,q) s_
  exact h2 (by
   cases T with
   | nil=>rfl
   | nd l i r=>have:=hp.length_eq;simp[Tr.mem]at this)
 refine⟨⟨fun e he=>?_,fun e he=>?_,?_,fun j h0 hj=>?_,fun e he=>?_,?_,?_,by rw[hlen];exact h.pos,by rw[hlen];exact h.len⟩,?_,fun e he j hj=>hR j (mY he hj)⟩
 . rcases zb.1 he with rfl|he
   . exact m.rep
   . exact(h.rep e (by simp[he])).qE hlen fun j hj=>hR j (mY he hj)
 . rcases zb.1 he with rfl|he
   . exact hne
   . exact h.ne e (by simp[he])
 . simp only[jt,kO]
   have:=h.nodup
   simp only[jt,kO]at this
   exact(hp.append_right _).nodup_iff.2 this
 . have:=h.all j h0 (by rw[hlen]at hj;exact hj)
   simp only[jt,kO,zq]at this ⊢
   exact this.imp_left hp.mem_iff.2
 . rw[hlen]
   rcases zb.1 he with rfl|he
   . exact h.par (T,q) s_
   . exact h.par e (by simp[he])
 . obtain⟨ρ,r1,r2⟩:=h.q6
   refine⟨ρ,fun e he=>?_,fun e he=>?_⟩
   . rcases zb.1 he with rfl|he
     . exact fun i hi j hj=>r1 (T,q) s_ i (hp.mem_iff.1 hi) j (hp.mem_iff.1 hj)
     . exact r1 e (by simp[he])
   . rcases zb.1 he with rfl|he
     . exact fun h0 i hi=>r2 (T,q) s_ h0 i (hp.mem_iff.1 hi)
     . exact r2 e (by simp[he])
 . rw[m.other 0 hz];exact h.zero
 . have h1:gV ys R=gV xs R:=G1 hR
   have h2:gA ys false U=gA xs false T:=m.ord false
   simp only[gV,z1]at h1 ⊢
   rw[h1,h2]
def kY(xs:List Nd)(j below:Nat):List Nd :=
 let x1:=fR xs j (fun x=>{ x with iO:=IntKind.i64.wrap (x.iO+IntKind.i64.wrap ((fM xs x.k1).total-(fM xs below).total)) })
 let x2:=fR x1 j (fun x=>{ x with k1:=below })
 iJ x2 j
def opt(e:Tr×Nat)(R:FT):FT:=if e.1.root=0 then R else e :: R
theorem nT{e f:Tr×Nat}{R:FT}:f∈opt e R↔(e.1.root≠0/\f=e)\/f∈R:=by
 unfold opt
 split
 . rename_i h;simp[h]
 . rename_i h;simp[h]
theorem gQ.xW{xs:List Nd}{t:Tr}{p:Nat}(h:gQ xs t p)(e:t.root=0):t = .nil:=by
 cases t with
 | nil=>rfl
 | nd l i r=>exact absurd e h.1.1
theorem Gb{xs:List Nd}{e:Tr×Nat}{R:FT}{p:Nat}(h:gQ xs e.1 p):jt (opt e R)=e.1.mem++jt R:=by
 unfold opt
 split
 . rename_i h0;rw[h.xW h0];rfl
 . rfl
theorem M0{xs ys:List Nd}{e:Tr×Nat}{R:FT}{p v u:Nat}(h:gQ xs e.1 p):gY (gV ys (opt e R)) v u↔mH (gA ys false e.1) e.2 v u\/gY (gV ys R) v u:=by
 unfold opt
 split
 . rename_i h0
   rw[h.xW h0]
   simp[gA,GD]
 . simp only[gV,z1,gY.cons]
theorem Ud{xs:List Nd}{F R R' : FT}{a b B:Tr}{j q:Nat}(h:Fo xs ((.nd a j b,q) :: R))(hf:(fM xs j).flip=false)(hB:R.Perm (opt (B,j) R'))(hBr:gQ xs B j) :
 Fo (kY xs j B.root) ((.nd a j B,q) :: opt (b,j) R')/\(∀ v u,gY (gV (kY xs j B.root) ((.nd a j B,q) :: opt (b,j) R')) v u↔gY (gV xs ((.nd a j b,q) :: R)) v u) /\
  gA (kY xs j B.root) false (.nd a j B)=gA xs false a++j :: gA xs false B/\(∀ k,k≠j->fM (kY xs j B.root) k=fM xs k)/\(fM (kY xs j B.root) j).flip=false/\(∀ k,(fM (kY xs j B.root) k).key=(fM xs k).key)/\(kY xs j B.root).length=xs.length:=by
 have hT:=h.rep (.nd a j b,q) s_
 obtain⟨⟨j0,jl⟩,⟨k0,k1,up⟩,v,ha,hb⟩:=hT
 obtain⟨n1,n2,n3⟩:=h.split
 simp only[Tr.mem]at n1 n3
 have hnB:(jt R).Perm (B.mem++jt R'):=by rw[<-Gb (e:=(B,j)) hBr];exact Kp hB _
 have n2' := hnB.nodup_iff.1 n2
 rw[zu]at n2'
 obtain⟨nB,nR', nBR⟩:=n2'
 rw[zu,zy]at n1
 obtain⟨na,⟨njb,nb⟩,nab⟩:=n1
 have nja:j∉a.mem:=fun h=>nab j h j s_ rfl
 have hTR:∀ k,k∈a.mem\/k=j\/k∈b.mem->k∉B.mem/\k∉jt R' := fun k hk=>by
  have:=n3 k (by simpa using hk)
  rw[hnB.mem_iff,zq,not_or]at this
  exact this
 have njB:=(hTR j (.inr (.inl rfl))).1
 have njR:=(hTR j (.inr (.inl rfl))).2
 obtain⟨x2,e2⟩:∃ x,x=fR (fR xs j (fun x=>{ x with iO:=IntKind.i64.wrap (x.iO+IntKind.i64.wrap ((fM xs x.k1).total-(fM xs B.root).total)) })) j (fun x=>{ x with k1:=B.root }):=⟨_,rfl⟩
 have hcut:kY xs j B.root=iJ x2 j:=by rw[e2];rfl
 have l2:x2.length=xs.length:=by rw[e2,gM,gM]
 obtain⟨lm,hlm⟩:∃ y,fM x2 j={ fM xs j with iO:=y,k1:=B.root }:=⟨_,by rw[e2,kr (by rw[gM];exact jl),kr jl]⟩
 have o2:∀ k,k≠j->fM x2 k=fM xs k:=fun k hk=>by rw[e2,kn (fun e=>hk e.symm),kn (fun e=>hk e.symm)]
 have ha2:gQ x2 a j:=ha.qE l2 fun k hk=>o2 k (fun e=>nja (e▸hk))
 have hB2:gQ x2 B j:=hBr.qE l2 fun k hk=>o2 k (fun e=>njB (e▸hk))
 have hnn:(a.mem++j :: B.mem).Nodup:=by
  rw[zu,zy]
  refine⟨na,⟨njB,nB⟩,fun x hx y hy e=>?_⟩
  subst e
  rcases zb.1 hy with rfl|hy
  . exact nja hx
  . exact(hTR x (.inl hx)).1 hy
 have hlt:∀ k∈a.mem++j :: B.mem,k≠0/\k<xs.length:=fun k hk=>by
  simp only[zq,zb]at hk
  rcases hk with hk|rfl|hk
  . exact ha.oK k hk
  . exact⟨j0,jl⟩
  . exact hBr.oK k hk
 have hcnt:(a.mem++j :: B.mem).length<=1000000:=by
  have h1:=nodup_lt_length xs.length (0 :: (a.mem++j :: B.mem)) (zy.2 ⟨fun h0=>(hlt 0 h0).1 rfl,hnn⟩) (fun k hk=>by
   rcases zb.1 hk with rfl|hk
   . exact h.pos
   . exact(hlt k hk).2)
  have:=h.len
  simp only[zp]at h1
  omega
 obtain⟨oy,hRy⟩:=xl (xs:=x2) (i:=j) (l:=a) (r:=B) ⟨j0,o_⟩ ha2 hB2 (by rw[hlm];exact k0) (by rw[hlm]) hnn hcnt
 rw[<-hcut]at oy hRy
 rw[show (fM x2 j).up=q by rw[hlm];exact up]at hRy
 have ly:(kY xs j B.root).length=xs.length:=by rw[oy.len,l2]
 have oo:∀ k,k≠j->fM (kY xs j B.root) k=fM xs k:=fun k hk=>by rw[oy.other k hk,o2 k hk]
 have hfl:∀ k,(fM (kY xs j B.root) k).flip=(fM xs k).flip:=fun k=>by
  rw[oy.flip]
  by_cases e:k=j
  . subst e;rw[hlm]
  . rw[o2 k e]
 have hkey:∀ k,(fM (kY xs j B.root) k).key=(fM xs k).key:=fun k=>by
  rw[oy.kl.key]
  by_cases e:k=j
  . subst e;rw[hlm]
  . rw[o2 k e]
 have hsB:gA (kY xs j B.root) false B=gA xs false B:=rW fun k _=>hfl k
 have hsa:gA (kY xs j B.root) false a=gA xs false a:=rW fun k _=>hfl k
 have hsb:gA (kY xs j B.root) false b=gA xs false b:=rW fun k _=>hfl k
 have hsT:gA (kY xs j B.root) false (.nd a j B)=gA xs false a++j :: gA xs false B:=by
  simp only[gA,hfl,hf,Ca,cond_false,hsa,hsB]
 have hby:gQ (kY xs j B.root) b j:=hb.qE ly fun k hk=>oo k (fun e=>njb (e▸hk))
 obtain⟨ρ,r1,r2⟩:=h.q6
 have rT:∀ k,k∈a.mem\/k=j\/k∈b.mem->ρ k=ρ j:=fun k hk=>r1 (.nd a j b,q) s_ k (by simpa[Tr.mem]using hk) j (by simp[Tr.mem])
 have inR:∀ e,e∈R↔(B.root≠0/\e=(B,j))\/e∈R' := fun e=>by rw[hB.mem_iff,nT]
 have rB:∀ k∈B.mem,ρ k<ρ j:=fun k hk=>by
  by_cases e0:B.root=0
  . rw[hBr.xW e0]at hk;simp[Tr.mem]at hk
  . exact r2 (B,j) (lu _ ((inR _).2 (.inl ⟨e0,rfl⟩))) j0 k hk
 refine⟨⟨fun e he=>?_,fun e he=>?_,?_,fun k h0 hk=>?_,fun e he=>?_,?_,?_,by rw[ly];exact h.pos,by rw[ly];exact h.len⟩,fun v' u' => ?_,hsT,oo,by rw[hfl];exact hf,hkey,ly⟩
 . rcases zb.1 he with rfl|he
   . exact hRy
   . rcases nT.1 he with ⟨_,rfl⟩|he
     . exact hby
     . exact(h.rep e (lu _ ((inR e).2 (.inr he)))).qE ly fun k hk=>oo k (fun e' => njR (e' ▸ mY he hk))
 . rcases zb.1 he with rfl|he
   . exact j0
   . rcases nT.1 he with ⟨h0,rfl⟩|he
     . exact h0
     . exact h.ne e (lu _ ((inR e).2 (.inr he)))
 . simp only[jt,kO]
   show ((Tr.nd a j B).mem++jt (opt (b,j) R')).Nodup
   rw[Gb (e:=(b,j)) hb,zu,zu]
   refine⟨hnn,⟨nb,nR', fun x hx y hy e=>(hTR x (.inr (.inr hx))).2 (e▸hy)⟩,fun x hx y hy e=>?_⟩
   subst e
   simp only[Tr.mem,zq,zb]at hx hy
   rcases hy with hy|hy
   . rcases hx with hx|rfl|hx
     . exact nab x hx x (by simp[hy]) rfl
     . exact njb hy
     . exact(hTR x (.inr (.inr hy))).1 hx
   . rcases hx with hx|rfl|hx
     . exact(hTR x (.inl hx)).2 hy
     . exact njR hy
     . exact nBR x hx x hy rfl
 . rw[ly]at hk
   have h1:=h.all k h0 hk
   have h2:k∈(Tr.nd a j b).mem\/k∈jt R:=by simpa[jt,kO]using h1
   rw[hnB.mem_iff]at h2
   show k∈(Tr.nd a j B).mem++jt (opt (b,j) R')
   rw[Gb (e:=(b,j)) hb]
   simp only[Tr.mem,zq,zb]at h2 ⊢
   rcases h2 with (h|h|h)|h|h<;>simp[h]
 . rw[ly]
   rcases zb.1 he with rfl|he
   . exact h.par (.nd a j b,q) s_
   . rcases nT.1 he with ⟨_,rfl⟩|he
     . exact jl
     . exact h.par e (lu _ ((inR e).2 (.inr he)))
 . have dB:∀ k,k∈b.mem->k∉B.mem:=fun k h1=>(hTR k (.inr (.inr h1))).1
   obtain⟨σ,hσ⟩:∃ σ:Nat->Nat,∀ k,σ k=if k∈B.mem then 2*ρ j+1 else if k∈b.mem then 2*ρ j else 2*ρ k+1:=⟨_,fun _=>rfl⟩
   refine⟨σ,fun e he=>?_,fun e he h0=>?_⟩
   . rcases zb.1 he with rfl|he
     . have key:∀ k∈(Tr.nd a j B).mem,σ k=2*ρ j+1:=fun k hk=>by
        rw[hσ]
        simp only[Tr.mem,zq,zb]at hk
        by_cases hkB:k∈B.mem
        . rw[if_pos hkB]
        . have hk' : k∈a.mem\/k=j:=by rcases hk with h|h|h;exact .inl h;exact .inr h;exact absurd h hkB
          have hkb:k∉b.mem:=fun hb' => by rcases hk' with h|rfl;exact nab k h k (by simp[hb']) rfl;exact njb hb'
          rw[if_neg hkB,if_neg hkb,rT k (by rcases hk' with h|h;exact .inl h;exact .inr (.inl h))]
       intro i hi k hk
       rw[key i hi,key k hk]
     . rcases nT.1 he with ⟨_,rfl⟩|he
       . intro i hi k hk
         simp only at hi hk
         rw[hσ,hσ,if_neg (dB i hi),if_pos hi,if_neg (dB k hk),if_pos hk]
       . intro i hi k hk
         have nin:∀ y∈e.1.mem,y∉B.mem/\y∉b.mem:=fun y hy=>⟨fun hb' => nBR y hb' y (mY he hy) rfl,fun hb' => (hTR y (.inr (.inr hb'))).2 (mY he hy)⟩
         rw[hσ,hσ,if_neg (nin i hi).1,if_neg (nin i hi).2,if_neg (nin k hk).1,if_neg (nin k hk).2,r1 e (lu _ ((inR e).2 (.inr he))) i hi k hk]
   . rcases zb.1 he with rfl|he
     . simp only at h0
       have hqj:=r2 (.nd a j b,q) s_ h0
       have q1:q∉B.mem:=fun hq=>by have:=rB q hq;have:=hqj j (by simp[Tr.mem]);simp only at this;omega
       have q2:q∉b.mem:=fun hq=>by have:=rT q (.inr (.inr hq));have:=hqj j (by simp[Tr.mem]);simp only at this;omega
       intro i hi
       simp only
       rw[hσ i,hσ q,if_neg q1,if_neg q2]
       have hj' := hqj j (by simp[Tr.mem])
       simp only at hj'
       simp only[Tr.mem,zq,zb]at hi
       by_cases hiB:i∈B.mem
       . rw[if_pos hiB];omega
       . rw[if_neg hiB]
         split
         . omega
         . have:ρ i=ρ j:=rT i (by rcases hi with h|h|h;exact .inl h;exact .inr (.inl h);exact absurd h hiB)
           omega
     . rcases nT.1 he with ⟨_,rfl⟩|he
       . intro i hi
         simp only at hi ⊢
         rw[hσ,hσ,if_neg (dB i hi),if_pos hi,if_neg njB,if_neg njb];omega
       . intro i hi
         have hi1:i∉B.mem:=fun hb' => nBR i hb' i (mY he hi) rfl
         have hi2:i∉b.mem:=fun hb' => (hTR i (.inr (.inr hb'))).2 (mY he hi)
         have hlt' := r2 e (lu _ ((inR e).2 (.inr he))) h0 i hi
         rw[hσ,hσ,if_neg hi1,if_neg hi2]
         by_cases hqB:e.2∈B.mem
         . have:=rB _ hqB;rw[if_pos hqB];omega
         . rw[if_neg hqB]
           by_cases hqb:e.2∈b.mem
           . have:=rT _ (.inr (.inr hqb));rw[if_pos hqb];omega
           . rw[if_neg hqb];omega
 . rw[oo 0 (fun e=>j0 e.symm)];exact h.zero
 . have hs:gV (kY xs j B.root) R' = gV xs R' := G1 fun k hk=>oo k (fun e=>njR (e▸hk))
   have e1:gY (gV (kY xs j B.root) ((.nd a j B,q) :: opt (b,j) R')) v' u' ↔ mH (gA xs false a++j :: gA xs false B) q v' u' \/ mH (gA xs false b) j v' u' \/ gY (gV xs R') v' u' := by
    have:=M0 (ys:=kY xs j B.root) (e:=(b,j)) (R:=R') (v:=v') (u:=u') hb
    simp only[gV,z1]at this ⊢
    rw[gY.cons,hsT,this]
    simp only[gV]at hs
    rw[hsb,hs]
   have e2' : gY (gV xs ((.nd a j b,q) :: R)) v' u' ↔ mH (gA xs false a++j :: gA xs false b) q v' u' \/ mH (gA xs false B) j v' u' \/ gY (gV xs R') v' u' := by
    have h1:gA xs false (.nd a j b)=gA xs false a++j :: gA xs false b:=by simp only[gA,hf,Ca,cond_false]
    have h2:gY (gV xs R) v' u' ↔ gY (gV xs (opt (B,j) R')) v' u' := gY.perm (hB.map _)
    have h3:=M0 (ys:=xs) (e:=(B,j)) (R:=R') (v:=v') (u:=u') hBr
    have h4:gY (gV xs ((.nd a j b,q) :: R)) v' u' ↔ mH (gA xs false (.nd a j b)) q v' u' \/ gY (gV xs R) v' u' := by simp only[gV,z1,gY.cons]
    rw[h4,h1,h2,h3]
   rw[e1,e2', Ks,Ks,qR,qR]
   constructor
   . rintro((h|h|h)|h|h)<;>simp[h]
   . rintro((h|h|h)|h|h)<;>simp[h]
end Go.Sx
namespace Go.Sx
open Go
inductive sN (F:FT):Nat->Nat->Prop where
 | zero:sN F 0 0
 | step {T:Tr} {q j m:Nat} (he:(T,q)∈F) (hj:j∈T.mem) (h0:j≠0) (k:sN F q m):sN F j (m+1)
theorem sN.mono{F F' : FT}{ρ:Nat->Nat}{c:Nat}(hr:(∀ e∈F,∀ i∈e.1.mem,∀ j∈e.1.mem,ρ i=ρ j)/\∀ e∈F,e.2≠0->∀ i∈e.1.mem,ρ i<ρ e.2)
 (hin:∀ e∈F,(∀ i∈e.1.mem,c<ρ i)->e∈F') {q m:Nat} (h:sN F q m):(q=0\/c<ρ q)->sN F' q m:=by
 induction h with
 | zero=>intro _;exact .zero
 | @step T q j m he hj h0 k ih =>
  intro hc
  have hc:c<ρ j:=by rcases hc with e|e;exact absurd e h0;exact e
  refine .step (hin _ he fun i hi=>?_) hj h0 (ih ?_)
  . rw[hr.1 _ he i hi j hj];exact hc
  . by_cases hq:q=0
    . exact .inl hq
    . exact .inr (Nat.lt_trans hc (hr.2 _ he hq j hj))
theorem Kr(ρ:Nat->Nat):∀ n,∃ M,∀ k,k<n->ρ k<=M
 | 0=>⟨0,fun k hk=>absurd hk o_⟩
 | n+1=>by
  obtain⟨M,hM⟩:=Kr ρ n
  refine⟨max M (ρ n),fun k hk=>?_⟩
  by_cases e:k=n
  . subst e;omega
  . have:=hM k o_;omega
theorem Fo.dep{xs:List Nd}{F:FT}(h:Fo xs F){j:Nat}(hj:j<xs.length):∃ m,sN F j m:=by
 obtain⟨ρ,h1,h2⟩:=h.q6
 obtain⟨M,hM⟩:=Kr ρ xs.length
 have key:∀ n j,j<xs.length->M-ρ j<=n->∃ m,sN F j m:=by
  intro n
  induction n with
  | zero =>
   intro j hj hn
   by_cases h0:j=0
   . subst h0;exact⟨0,.zero⟩
   . obtain⟨e,he,hm⟩:=o7.1 (h.all j h0 hj)
     by_cases hq:e.2=0
     . exact⟨1,.step (T:=e.1) (q:=e.2) he hm h0 (by rw[hq];exact .zero)⟩
     . have a1:=h2 e he hq j hm
       have a2:=hM e.2 (h.par e he)
       have a3:=hM j hj
       omega
  | succ n ih =>
   intro j hj hn
   by_cases h0:j=0
   . subst h0;exact⟨0,.zero⟩
   . obtain⟨e,he,hm⟩:=o7.1 (h.all j h0 hj)
     by_cases hq:e.2=0
     . exact⟨1,.step (T:=e.1) (q:=e.2) he hm h0 (by rw[hq];exact .zero)⟩
     . have a1:=h2 e he hq j hm
       have a2:=hM e.2 (h.par e he)
       obtain⟨m,hm'⟩:=ih e.2 (h.par e he) o_
       exact⟨m+1,.step (T:=e.1) (q:=e.2) he hm h0 hm'⟩
 exact key _ j hj (zn _)
theorem Fo.RH{xs:List Nd}{F:FT}(h:Fo xs F){e f:Tr×Nat}(he:e∈F)(hf:f∈F){j:Nat}(h1:j∈e.1.mem)(h2:j∈f.1.mem):e=f:=by
 obtain⟨s,t,rfl⟩:=List.append_of_mem he
 have hp:(s++e :: t).Perm (e :: (s++t)):=u7
 have h' := h.perm hp
 rcases zb.1 (hp.mem_iff.1 hf)with e' | hf
 . exact e'.symm
 . exact absurd (mY hf h2) (h'.split.2.2 j h1)
structure Ex (xs0:List Nd) (F0:FT) (i:Nat) (xs:List Nd) (below j m:Nat) (R:FT) (B:Tr):Prop where
 fo:Fo xs (opt (B,j) R)
 rep:gQ xs B j
 root:B.root=below
 start:below=0->j=i
 last:below≠0->(gA xs false B).getLast? = some i
 dep:sN (opt (B,j) R) j m
 par:∀ v u,gY (gV xs (opt (B,j) R)) v u↔gY (gV xs0 F0) v u
 key:∀ k,(fM xs k).key=(fM xs0 k).key
 len:xs.length=xs0.length
 lt:j<xs.length
 BB:∀ T0,(T0,0)∈F0->((T0,0)∈R/\∀ k∈T0.mem,fM xs k=fM xs0 k)\/(j=0/\below≠0/\(gA xs false B).head? = (gA xs0 false T0).head?)
theorem Ex.init{xs:List Nd}{F:FT}{i:Nat}(h:Fo xs F)(hi:i<xs.length):∃ m,Ex xs F i xs 0 i m F .nil:=by
 obtain⟨m,hm⟩:=h.dep hi
 exact⟨m,h,trivial,rfl,fun _=>rfl,fun e=>absurd rfl e,hm,fun _ _=>Iff.rfl,fun _=>rfl,rfl,hi,fun T0 h0=>.inl ⟨h0,fun _ _=>rfl⟩⟩
theorem KC{α:Type}{x:α}{l:List α}(h:x∈l):∃ r,l.Perm (x :: r):=by
 obtain⟨s,t,rfl⟩:=List.append_of_mem h
 exact⟨s++t,u7⟩
theorem UN{e f:Tr×Nat}{R R' : FT}(h:R.Perm (f :: R')):(opt e R).Perm (f :: opt e R'):=by
 unfold opt
 split
 . exact h
 . exact(h.cons e).trans (List.Perm.swap _ _ _)
theorem Ex.go{xs0 xs:List Nd}{F0 R:FT}{i below j m:Nat}{B:Tr}(h:Ex xs0 F0 i xs below j m R B)(hj:j≠0) :
 ∃ T q,gQ xs T q/\j∈T.mem/\T.mem.Nodup/\T.mem.length<=1000000/\Out xs q T.mem/\∀ ys a b,jo xs ys T [] (.nd a j b) q->(fM ys j).flip=false ->
  (fM (kY ys j below) j).up=q/\(∀ k,k≠j->fM (kY ys j below) k=fM ys k)/\∃ m' R', m=m' + 1/\Ex xs0 F0 i (kY ys j below) j q m' R' (.nd a j B):=by
 cases hd:h.dep with
 | zero=>exact absurd rfl hj
 | @step T q _ m' he hjT _ hk =>
  -- the entry lies in R
  have hR:(T,q)∈R:=by
   rcases nT.1 he with ⟨h0,e⟩|he
   . obtain⟨ρ,_,r2⟩:=h.fo.q6
     cases e
     have:=r2 (B,j) (nT.2 (.inl ⟨h0,rfl⟩)) hj j hjT
     simp at this
   . exact he
  obtain⟨R2,hp⟩:=KC hR
  have hpo:(opt (B,j) R).Perm ((T,q) :: opt (B,j) R2):=UN hp
  have hfo:=h.fo.perm hpo
  refine⟨T,q,hfo.rep (T,q) s_,hjT,hfo.split.1,hfo.count,hfo.out,fun ys a b hm hf=>?_⟩
  obtain⟨f1,s1,o1⟩:=hfo.OV hm
  have hBy:gQ ys B j:=by
   by_cases h0:B.root=0
   . rw[h.rep.xW h0];trivial
   . exact h.rep.qE hm.kl.len fun k hk' => o1 (B,j) (nT.2 (.inl ⟨h0,rfl⟩)) k hk'
  have c:=Ud (F:=[]) f1 hf (List.Perm.refl _) hBy
  obtain⟨c1,c2,c3,c4,c5,c6,c7⟩:=c
  rw[h.root]at c1 c2 c3 c4 c5 c6 c7
  have hsB:gA ys false B=gA xs false B:=by
   by_cases h0:B.root=0
   . rw[h.rep.xW h0];rfl
   . exact HT fun k hk' => o1 (B,j) (nT.2 (.inl ⟨h0,rfl⟩)) k hk'
  have hq0:q<xs.length:=hfo.par (T,q) s_
  have hup:(fM (kY ys j below) j).up=q:=(c1.rep (.nd a j B,q) s_).2.1.2.2
  have hoj:opt (Tr.nd a j B,q) (opt (b,j) R2)=(Tr.nd a j B,q) :: opt (b,j) R2:=if_neg hj
  refine⟨hup,c4,m', opt (b,j) R2,rfl,⟨by rw[hoj];exact c1,c1.rep (.nd a j B,q) s_,rfl,fun e=>absurd e hj,fun _=>?_,?_,fun v u=>?_,fun k=>?_,by rw[c7,hm.kl.len,h.len],by rw[c7,hm.kl.len];exact hq0,fun T0 hT0=>?_⟩⟩
  . rw[c3,hsB]
    by_cases hb:below=0
    . have hB0:B = .nil:=h.rep.xW (h.root.trans hb)
      rw[hB0,h.start hb]
      simp[gA]
    . have:=h.last hb
      rw[List.getLast?_append,B6,this]
      simp
  . rw[hoj]
    obtain⟨ρ,r1,r2⟩:=h.fo.q6
    refine sN.mono (c:=ρ j) ⟨r1,r2⟩ (fun e he' hc=>?_) hk ?_
    . rcases zb.1 (hpo.mem_iff.1 he')with rfl|he'
      . exact absurd (hc j hjT) o_
      . rcases nT.1 he' with ⟨h0,rfl⟩|he'
        . have hrt:=h.rep.mq h0
          have h3:=r2 (B,j) (nT.2 (.inl ⟨h0,rfl⟩)) hj _ hrt
          have h4:=hc _ hrt
          simp only at h3
          omega
        . exact lu _ (nT.2 (.inr he'))
    . by_cases hq:q=0
      . exact .inl hq
      . exact .inr (r2 (T,q) he hq j hjT)
  . rw[hoj,c2,s1,<-h.par]
    exact gY.perm (hpo.symm.map _)
  . rw[c6,hm.kl.key,h.key]
  . rcases h.BB T0 hT0 with ⟨h1,h2⟩|⟨h1,_⟩
    . rcases zb.1 (hp.mem_iff.1 h1)with e|h3
      . cases e
        refine .inr ⟨rfl,hj,?_⟩
        have e1:gA ys false (.nd a j b)=gA xs false T:=hm.ord false
        have e2:gA ys false (.nd a j b)=gA ys false a++j :: gA ys false b:=by simp only[gA,hf,Ca,cond_false]
        have e3:gA xs false T=gA xs0 false T:=HT h2
        rw[c3,<-e3,<-e1,e2]
        cases gA ys false a<;>simp
      . refine .inl ⟨nT.2 (.inr h3),fun k hk' => ?_⟩
        have hkT:k∉T.mem:=fun ht=>by
         have hn:=hfo.split.2.2 k ht
         exact hn (mY (nT.2 (.inr h3)) hk')
        rw[c4 k (fun e=>hkT (e▸hjT)),hm.other k hkT,h2 k hk']
    . exact absurd h1 hj
theorem Ex.fin{xs0 xs:List Nd}{F0 R:FT}{i below m:Nat}{B:Tr}(h:Ex xs0 F0 i xs below 0 m R B)(hi:i≠0) :
 gQ xs B 0/\i∈B.mem/\B.mem.Nodup/\B.mem.length<=1000000/\Out xs 0 B.mem/\∀ ys a b,jo xs ys B [] (.nd a i b) 0->(fM ys i).flip=false ->
  b = .nil/\Fo ys ((.nd a i .nil,0) :: R)/\(∀ v u,gY (gV ys ((.nd a i .nil,0) :: R)) v u↔gY (gV xs0 F0) v u)/\(∀ k,(fM ys k).key=(fM xs0 k).key)/\ys.length=xs0.length /\
   (∀ T0,(T0,0)∈F0->((T0,0)∈R/\∀ k∈T0.mem,fM ys k=fM xs0 k)\/(gA ys false (.nd a i .nil)).head? = (gA xs0 false T0).head?):=by
 have hb:below≠0:=fun e=>hi (h.start e).symm
 have hB0:B.root≠0:=by rw[h.root];exact hb
 have hoj:opt (B,0) R=(B,0) :: R:=if_neg hB0
 have hfo:=h.fo
 rw[hoj]at hfo
 have hlast:=h.last hb
 have him:i∈B.mem:=(mZ xs false B).mem_iff.1 (Fm hlast)
 refine⟨h.rep,him,hfo.split.1,hfo.count,.inl rfl,fun ys a b hm hf=>?_⟩
 obtain⟨f1,s1,o1⟩:=hfo.OV hm
 have e1:gA ys false (.nd a i b)=gA xs false B:=hm.ord false
 have e2:gA ys false (.nd a i b)=gA ys false a++i :: gA ys false b:=by simp only[gA,hf,Ca,cond_false]
 have hb0:b = .nil:=by
  rw[<-e1,e2,List.getLast?_append,B6]at hlast
  have hbn:gA ys false b=[]:=by
   cases hl:(gA ys false b).getLast? with
   | none=>exact Jr.1 hl
   | some x =>
    rw[hl]at hlast
    simp at hlast
    subst hlast
    have hx:x∈b.mem:=(mZ ys false b).mem_iff.1 (Fm hl)
    have hn:=f1.split.1
    simp only[Tr.mem,zu,zy]at hn
    exact absurd hx hn.2.1.1
  have:=(mZ ys false b).length_eq
  rw[hbn]at this
  cases b with
  | nil=>rfl
  | nd _ _ _=>simp[Tr.mem]at this
 subst hb0
 refine⟨rfl,f1,fun v u=>?_,fun k=>?_,by rw[hm.kl.len,h.len],fun T0 hT0=>?_⟩
 . rw[s1,<-h.par,hoj]
 . rw[hm.kl.key,h.key]
 . rcases h.BB T0 hT0 with ⟨h1,h2⟩|⟨_,_,h3⟩
   . exact .inl ⟨h1,fun k hk=>by rw[o1 (T0,0) h1 k hk,h2 k hk]⟩
   . exact .inr (by rw[e1];exact h3)
end Go.Sx
namespace Go.Sx
open Go
theorem HH(xs:List Nd):∀ (t:Tr) (φ:Bool),gA xs (!φ) t=(gA xs φ t).reverse
 | .nil,_=>rfl
 | .nd l i r,φ=>by
  have e:xor (!φ) (fM xs i).flip = !(xor φ (fM xs i).flip):=by cases φ<;>cases (fM xs i).flip<;>rfl
  simp only[gA,e,HH xs l,HH xs r]
  cases xor φ (fM xs i).flip<;>simp
theorem Gh{xs:List Nd}{F:FT}(h:(jt F).Nodup):(vY (gV xs F)).Nodup:=by
 have hp:(vY (gV xs F)).Perm (jt F):=by
  unfold vY gV jt
  rw[List.flatMap_map]
  clear h
  induction F with
  | nil=>exact .nil
  | cons e F ih=>simp only[kO];exact((mZ xs false e.1).append_right _).trans (ih.append_left _)
 exact hp.nodup_iff.2 h
theorem Fo.qS{xs:List Nd}{F:FT}(h:Fo xs F){v u u' : Nat}(h1:gY (gV xs F) v u)(h2:gY (gV xs F) v u'):u=u' := Go.Sx.qS (Gh h.nodup) h1 h2
theorem Fo.vZ{xs:List Nd}{F:FT}(h:Fo xs F){T:Tr}{q:Nat}(he:(T,q)∈F):∀ x∈gA xs false T,x≠0:=fun x hx=>((h.rep (T,q) he).oK x ((mZ xs false T).mem_iff.1 hx)).1
theorem Fo.below{xs:List Nd}{F:FT}(h:Fo xs F){T:Tr}(he:(T,0)∈F){v r:Nat}(hv:v∈T.mem)(hr:(gA xs false T).head? = some r):PR (gY (gV xs F)) v r :=
 (PR.D8 (q:=0) hr (h.vZ he) (fun v u hp=>⟨(gA xs false T,0),jW.2 ⟨(T,0),he,rfl⟩,hp⟩) ((mZ xs false T).mem_iff.2 hv)).1 rfl
structure kK (xs0:List Nd) (F0:FT) (ys:List Nd) (i:Nat) (a:Tr) (R:FT):Prop where
 fo:Fo ys ((.nd a i .nil,0) :: R)
 flip:(fM ys i).flip=false
 par:∀ v u,gY (gV ys ((.nd a i .nil,0) :: R)) v u↔gY (gV xs0 F0) v u
 key:∀ k,(fM ys k).key=(fM xs0 k).key
 len:ys.length=xs0.length
 BB:∀ T0,(T0,0)∈F0->((T0,0)∈R/\∀ k∈T0.mem,fM ys k=fM xs0 k)\/(gA ys false (.nd a i .nil)).head? = (gA xs0 false T0).head?
theorem kK.seq{xs0 ys:List Nd}{F0 R:FT}{i:Nat}{a:Tr}(h:kK xs0 F0 ys i a R):gA ys false (.nd a i .nil)=gA ys false a++[i]:=by
 simp only[gA,h.flip,Ca,cond_false]
theorem kK.head{xs0 ys:List Nd}{F0 R:FT}{i:Nat}{a:Tr}(h:kK xs0 F0 ys i a R):∃ r,(gA ys false (.nd a i .nil)).head? = some r/\r∈(Tr.nd a i .nil).mem:=by
 have hm:i∈gA ys false (.nd a i .nil):=by rw[h.seq];simp
 cases hs:gA ys false (.nd a i .nil)with
 | nil=>rw[hs]at hm;simp at hm
 | cons r l=>exact⟨r,rfl,(mZ ys false (.nd a i .nil)).mem_iff.1 (by rw[hs];simp)⟩
theorem kK.top{xs0 ys:List Nd}{F0 R:FT}{i:Nat}{a:Tr}(h:kK xs0 F0 ys i a R){r:Nat}(hr:(gA ys false (.nd a i .nil)).head? = some r){v:Nat}(hv:v∈(Tr.nd a i .nil).mem):PR (gY (gV xs0 F0)) v r :=
 (h.fo.below (T:=.nd a i .nil) s_ hv hr).mono fun v u hp=>(h.par v u).1 hp
def j6(ys:List Nd)(i:Nat):List Nd:=fR ys i (fun x=>{ x with flip:=true })
theorem CQ{xs0 ys:List Nd}{F0 R:FT}{i:Nat}{a:Tr}(h:kK xs0 F0 ys i a R) :
 Fo (j6 ys i) ((.nd a i .nil,0) :: R)/\gA (j6 ys i) false (.nd a i .nil)=(gA ys false (.nd a i .nil)).reverse/\gV (j6 ys i) R=gV ys R/\(j6 ys i).length=ys.length/\(∀ k,k≠i->fM (j6 ys i) k=fM ys k)/\∀ k,(fM (j6 ys i) k).key=(fM ys k).key:=by
 obtain⟨n1,n2,n3⟩:=h.fo.split
 have hT:=h.fo.rep (.nd a i .nil,0) s_
 have il:=hT.1.2
 have i0:=hT.1.1
 have ll:(j6 ys i).length=ys.length:=gM
 have oi:fM (j6 ys i) i={ fM ys i with flip:=true }:=kr il
 have oo:∀ k,k≠i->fM (j6 ys i) k=fM ys k:=fun k hk=>kn (fun e=>hk e.symm)
 have hf:∀ k,∃ f,fM (j6 ys i) k={ fM ys k with flip:=f }:=fun k=>by
  by_cases e:k=i
  . subst e;exact⟨true,oi⟩
  . exact⟨(fM ys k).flip,by rw[oo k e]⟩
 have him:i∈(Tr.nd a i .nil).mem:=by simp[Tr.mem]
 have hR:∀ k∈jt R,fM (j6 ys i) k=fM ys k:=fun k hk=>oo k (fun e=>n3 i him (e▸hk))
 obtain⟨ρ,r1,r2⟩:=h.fo.q6
 refine⟨⟨fun e he=>(h.fo.rep e he).E8 ll fun k _=>hf k,h.fo.ne,h.fo.nodup,fun k h0 hk=>h.fo.all k h0 (by rw[ll]at hk;exact hk),fun e he=>by rw[ll];exact h.fo.par e he,⟨ρ,r1,r2⟩,by rw[oo 0 (fun e=>i0 e.symm)];exact h.fo.zero,by rw[ll];exact h.fo.pos,by rw[ll];exact h.fo.len⟩,?_,G1 hR,ll,oo,fun k=>?_⟩
 . rw[<-HH]
   refine KX ?_ fun k hk=>?_
   . rw[oi,h.flip];rfl
   . have:k≠i:=fun e=>by
      subst e
      simp only[Tr.mem,zu,zy]at n1
      have hk' : k∈a.mem:=by simpa[Tr.mem]using hk
      exact n1.2.2 k hk' k s_ rfl
     rw[oo k this]
 . obtain⟨f,e⟩:=hf k
   rw[e]
theorem PR.Yo{S:uR}{s s' : List Nat}(hn:(vY ((s,0) :: S)).Nodup)(h0:∀ x∈s', x≠0)(hp:s'.Perm s){a r:Nat}(ha:s'.head? = some a)(hr:r∈s){v:Nat}(k:PR (gY ((s,0) :: S)) v r):PR (gY ((s', 0) :: S)) v a:=by
 have key:∀ v∈s,PR (gY ((s', 0) :: S)) v a:=fun v hv=>(PR.D8 (q:=0) ha h0 (fun v u hp' => gY.cons.2 (.inl hp')) (hp.mem_iff.2 hv)).1 rfl
 induction k with
 | top h=>exact key _ hr
 | @step v u r h h0' _ ih =>
  by_cases hv:v∈s
  . exact key v hv
  . rcases gY.cons.1 h with h1|h1
    . exact absurd (uo h1) hv
    . exact .step (gY.cons.2 (.inr h1)) h0' (ih hr)
theorem PR.apart{S:uR}{s s' : List Nat}(hn:(vY ((s,0) :: S)).Nodup)(h0:∀ x∈s,x≠0){r:Nat}(hr:r∉s){v:Nat}(k:PR (gY ((s,0) :: S)) v r):v∉s/\PR (gY ((s', 0) :: S)) v r:=by
 have hin:∀ v∈s,∃ h,h∈s/\PR (gY ((s,0) :: S)) v h:=fun v hv=>by
  cases s with
  | nil=>simp at hv
  | cons x l=>exact⟨x,s_,(PR.D8 (q:=0) rfl h0 (fun v u hp' => gY.cons.2 (.inl hp')) hv).1 rfl⟩
 have huq:∀ v u u', gY ((s,0) :: S) v u->gY ((s,0) :: S) v u' -> u=u' := fun v u u' h1 h2=>Go.Sx.qS hn h1 h2
 have hvn:∀ {v},PR (gY ((s,0) :: S)) v r->v∉s:=fun {v} k hv=>by
  obtain⟨h,hh,k'⟩:=hin v hv
  exact hr ((PR.unique huq k k')▸hh)
 refine⟨hvn k,?_⟩
 induction k with
 | top h =>
  rcases gY.cons.1 h with h1|h1
  . exact absurd (uo h1) hr
  . exact .top (gY.cons.2 (.inr h1))
 | step h h0' k ih =>
  rcases gY.cons.1 h with h1|h1
  . exact absurd (uo h1) (hvn (.step h h0' k))
  . exact .step (gY.cons.2 (.inr h1)) h0' (ih hr hvn)
structure QO (ys:List Nd) (i:Nat) (a:Tr) (R:FT):Prop where
 fo:Fo ys ((.nd a i .nil,0) :: R)
 head:(gA ys false (.nd a i .nil)).head? = some i
theorem kK.BN{xs0 ys:List Nd}{F0 R:FT}{i:Nat}{a:Tr}(h:kK xs0 F0 ys i a R):QO (j6 ys i) i a R:=by
 obtain⟨h1,h2,_⟩:=CQ h
 refine⟨h1,?_⟩
 rw[h2,h.seq]
 simp
theorem kK.Yr{xs0 ys:List Nd}{F0 R:FT}{i:Nat}{a:Tr}(h:kK xs0 F0 ys i a R){v r:Nat}(hv:PR (gY (gV xs0 F0)) v r)(hi:PR (gY (gV xs0 F0)) i r)(hu:∀ v u u', gY (gV xs0 F0) v u->gY (gV xs0 F0) v u' -> u=u') :
 PR (gY (gV (j6 ys i) ((.nd a i .nil,0) :: R))) v i:=by
 obtain⟨h1,h2,h3,_⟩:=CQ h
 obtain⟨r', hr', hm⟩:=h.head
 have e:r' = r:=PR.unique hu (h.top hr' (by simp[Tr.mem])) hi
 subst e
 have hS:gV (j6 ys i) ((.nd a i .nil,0) :: R)=((gA ys false (.nd a i .nil)).reverse,0) :: gV ys R:=by
  simp only[gV,z1]at h3 ⊢;rw[h2,h3]
 have hS0:gV ys ((.nd a i .nil,0) :: R)=(gA ys false (.nd a i .nil),0) :: gV ys R:=rfl
 rw[hS]
 refine PR.Yo (s:=gA ys false (.nd a i .nil)) (by rw[<-hS0];exact Gh h.fo.nodup) (fun x hx=>?_) (List.reverse_perm _) (by rw[h.seq];simp) ((mZ ys false (.nd a i .nil)).mem_iff.2 hm) (by rw[<-hS0];exact hv.mono fun v u hp=>(h.par v u).2 hp)
 exact h.fo.vZ (T:=.nd a i .nil) (q:=0) s_ x (List.mem_reverse.1 hx)
theorem kK.Wi{xs0 ys:List Nd}{F0 R:FT}{i:Nat}{a:Tr}(h:kK xs0 F0 ys i a R){v r r' : Nat}(hv:PR (gY (gV xs0 F0)) v r)(hi:PR (gY (gV xs0 F0)) i r')(hne:r≠r')(hu:∀ v u u', gY (gV xs0 F0) v u->gY (gV xs0 F0) v u' -> u=u') :
 PR (gY (gV (j6 ys i) ((.nd a i .nil,0) :: R))) v r/\r∉(Tr.nd a i .nil).mem:=by
 obtain⟨h1,h2,h3,_⟩:=CQ h
 have hrn:r∉(Tr.nd a i .nil).mem:=fun hm=>by
  obtain⟨r2,hr2,_⟩:=h.head
  have e1:r2=r' := PR.unique hu (h.top hr2 (by simp[Tr.mem])) hi
  have e2:r2=r:=PR.unique hu (h.top hr2 hm) (.top hv.root)
  exact hne (e2.symm.trans e1)
 have hS:gV (j6 ys i) ((.nd a i .nil,0) :: R)=((gA ys false (.nd a i .nil)).reverse,0) :: gV ys R:=by
  simp only[gV,z1]at h3 ⊢;rw[h2,h3]
 have hS0:gV ys ((.nd a i .nil,0) :: R)=(gA ys false (.nd a i .nil),0) :: gV ys R:=rfl
 rw[hS]
 exact⟨(PR.apart (s:=gA ys false (.nd a i .nil)) (s' := (gA ys false (.nd a i .nil)).reverse) (by rw[<-hS0];exact Gh h.fo.nodup) (h.fo.vZ (T:=.nd a i .nil) (q:=0) s_) (fun hm=>hrn ((mZ ys false (.nd a i .nil)).mem_iff.1 hm)) (by rw[<-hS0];exact hv.mono fun v u hp=>(h.par v u).2 hp)).2,hrn⟩
def Joined(xs:List Nd)(F:FT)(a b:Nat):Prop:=∃ r,PR (gY (gV xs F)) a r/\PR (gY (gV xs F)) b r
theorem kK.joined{xs0 ys:List Nd}{F0 R:FT}{i:Nat}{a:Tr}(h:kK xs0 F0 ys i a R)(u v:Nat):Joined ys ((.nd a i .nil,0) :: R) u v↔Joined xs0 F0 u v :=
 ⟨fun⟨r,h1,h2⟩=>⟨r,h1.mono fun v u=>(h.par v u).1,h2.mono fun v u=>(h.par v u).1⟩,fun⟨r,h1,h2⟩=>⟨r,h1.mono fun v u=>(h.par v u).2,h2.mono fun v u=>(h.par v u).2⟩⟩
theorem LQ{xs0 xs ys:List Nd}{F0 R R' : FT}{i j:Nat}{a b:Tr}(h:kK xs0 F0 xs i a R)(k:kK xs ((.nd a i .nil,0) :: R) ys j b R')(hij:i≠j):(fM ys i).up≠0↔Joined xs0 F0 i j:=by
 have hF:=h.fo
 obtain⟨r,hr,hrm⟩:=h.head
 obtain⟨r', hr', hrm'⟩:=k.head
 have pi:PR (gY (gV xs0 F0)) i r:=h.top hr (by simp[Tr.mem])
 have pj:PR (gY (gV xs0 F0)) j r' := (k.top hr' (by simp[Tr.mem])).mono fun v u=>(h.par v u).1
 have hu:∀ v u u', gY (gV xs0 F0) v u->gY (gV xs0 F0) v u' -> u=u' := fun v u u' h1 h2=>h.fo.qS ((h.par v u).2 h1) ((h.par v u').2 h2)
 constructor
 . intro hup
   rcases k.BB (.nd a i .nil) s_ with ⟨h1,h2⟩|h1
   . have h3:=k.fo.rep (.nd a i .nil,0) (lu _ h1)
     exact absurd h3.2.1.2.2 hup
   . rw[hr,hr']at h1
     simp only[Option.some.injEq]at h1
     subst h1
     exact⟨r', pi,pj⟩
 . rintro⟨r2,h1,h2⟩ hup
   have e1:r=r2:=PR.unique hu pi h1
   have e2:r' = r2:=PR.unique hu pj h2
   have tK:i<ys.length:=by rw[k.len];exact(hF.rep (.nd a i .nil,0) s_).1.2
   have i0:i≠0:=(hF.rep (.nd a i .nil,0) s_).1.1
   obtain⟨e,he,hm⟩:=o7.1 (k.fo.all i i0 tK)
   -- i is the root of fO tree,which hangs from nothing
   have hre:=k.fo.rep e he
   obtain⟨c,x,y,hc⟩:=Dj hm
   rw[hc]at hre
   obtain⟨hT,hC⟩:=(vS _ _ _).1 hre
   have hpc:uX c e.2=0:=by rw[<-hT.2.1.2.2];exact hup
   have hc0:c=[]:=by
    cases c with
    | nil=>rfl
    | cons f c' => obtain⟨d,g,s⟩:=f;exact absurd hpc hC.1.1
   subst hc0
   have hq:e.2=0:=hpc
   obtain⟨T,q⟩:=e
   simp only[jP]at hc hq hm
   subst hq
   subst hc
   have hd:∃ z,(gA ys false (.nd x i y)).head? = some z/\z∈(Tr.nd x i y).mem:=by
    have:(gA ys false (.nd x i y)).length=(Tr.nd x i y).mem.length:=(mZ ys false _).length_eq
    cases hs:gA ys false (.nd x i y)with
    | nil=>rw[hs]at this;simp[Tr.mem]at this
    | cons z l=>exact⟨z,rfl,(mZ ys false (.nd x i y)).mem_iff.1 (by rw[hs];simp)⟩
   obtain⟨z,hz,hzm⟩:=hd
   have pz:PR (gY (gV xs0 F0)) i z:=(k.fo.below he hm hz).mono fun v u hp=>(h.par v u).1 ((k.par v u).1 hp)
   have e3:z=r' := (PR.unique hu pz pi).trans (e1.trans e2.symm)
   have:=k.fo.RH he (zg (a:=(Tr.nd b j .nil,0))) hzm (by rw[e3];exact hrm')
   simp only[Prod.mk.injEq,Tr.nd.injEq]at this
   exact hij this.1.2.1
theorem TZ{xs ys:List Nd}{R R' : FT}{i j:Nat}{a b:Tr}(h:QO xs i a R)(k:kK xs ((.nd a i .nil,0) :: R) ys j b R')(hj:PR (gY (gV xs ((.nd a i .nil,0) :: R))) j i):(gA ys false (.nd b j .nil)).head? = some i:=by
 obtain⟨r,hr,_⟩:=k.head
 have:=PR.unique (P:=gY (gV xs ((.nd a i .nil,0) :: R))) (fun v u u' h1 h2=>h.fo.qS h1 h2) (k.top hr (v:=j) (by simp[Tr.mem])) hj
 rw[hr,this]
end Go.Sx
namespace Go.Sx
open Go
theorem gQ.one{xs:List Nd}{t:Tr}{p i:Nat}(h:gQ xs t p)(hs:t.mem=[i]):t = .nd .nil i .nil:=by
 cases t with
 | nil=>simp[Tr.mem]at hs
 | nd l j r =>
  cases l with
  | nil =>
   cases r with
   | nil=>simp[Tr.mem]at hs;rw[hs]
   | nd _ _ _=>simp[Tr.mem]at hs
  | nd _ _ _ =>
   have:=congrArg List.length hs
   simp[Tr.mem]at this
   omega
theorem Wa{xs:List Nd}{t:Tr}{i:Nat}(h:gA xs false t=[i]):t.mem=[i]:=by
 have:=mZ xs false t
 rw[h]at this
 exact List.perm_singleton.1 this.symm
theorem UE{ys zs us:List Nd}{i j:Nat}{b a2 b2:Tr}{R R2 R3:FT}(hF:Fo ys ((.nd b j .nil,0) :: R))(hs:gA ys false (.nd b j .nil)=[i,j])
 (h1:kK ys ((.nd b j .nil,0) :: R) zs i a2 R2) (h2:kK (j6 zs i) ((.nd a2 i .nil,0) :: R2) us j b2 R3):b2 = .nd .nil i .nil/\a2 = .nil:=by
 have hij:∀ x∈[i,j],x≠0:=fun x hx=>hF.vZ (T:=.nd b j .nil) (q:=0) s_ x (by rw[hs];exact hx)
 have i0:=hij i s_
 have p1:gY (gV ys ((.nd b j .nil,0) :: R)) i 0:=⟨(gA ys false (.nd b j .nil),0),by simp[gV],by rw[hs];exact qR.2 (.inl ⟨rfl,rfl⟩)⟩
 have p2:gY (gV ys ((.nd b j .nil,0) :: R)) j i:=⟨(gA ys false (.nd b j .nil),0),by simp[gV],by rw[hs];exact qR.2 (.inr (qR.2 (.inl ⟨rfl,rfl⟩)))⟩
 -- the first exposing
 have hz:gY (gV zs ((.nd a2 i .nil,0) :: R2)) i ((gA zs false a2).getLast?.getD 0):=⟨(gA zs false (.nd a2 i .nil),0),by simp[gV],gA zs false a2,[],h1.seq,rfl⟩
 have e1:=h1.fo.qS hz ((h1.par i 0).2 p1)
 have ha2:gA zs false a2=[]:=by
  cases hl:(gA zs false a2).getLast? with
  | none=>exact Jr.1 hl
  | some x =>
   rw[hl]at e1
   simp only[zT]at e1
   exact absurd e1 (h1.fo.vZ (T:=.nd a2 i .nil) (q:=0) s_ x (by rw[h1.seq];exact ve _ (Fm hl)))
 have ha2' : a2 = .nil:=by
  have:=(mZ zs false a2).length_eq
  rw[ha2]at this
  cases a2 with
  | nil=>rfl
  | nd _ _ _=>simp[Tr.mem]at this
 obtain⟨l1,l2,l3,_⟩:=CQ h1
 have hseq:gV (j6 zs i) ((.nd a2 i .nil,0) :: R2)=gV zs ((.nd a2 i .nil,0) :: R2):=by
  simp only[gV,z1]at l3 ⊢
  rw[l2,l3,h1.seq,ha2]
  rfl
 have q1:gY (gV us ((.nd b2 j .nil,0) :: R3)) i 0:=(h2.par i 0).2 (by rw[hseq];exact(h1.par i 0).2 p1)
 have q2:gY (gV us ((.nd b2 j .nil,0) :: R3)) j i:=(h2.par j i).2 (by rw[hseq];exact(h1.par j i).2 p2)
 have hu:gY (gV us ((.nd b2 j .nil,0) :: R3)) j ((gA us false b2).getLast?.getD 0):=⟨(gA us false (.nd b2 j .nil),0),by simp[gV],gA us false b2,[],h2.seq,rfl⟩
 have e2:=h2.fo.qS hu q2
 have hl:(gA us false b2).getLast? = some i:=by
  cases hl:(gA us false b2).getLast? with
  | none=>rw[hl]at e2;exact absurd e2.symm i0
  | some x=>rw[hl]at e2;simp only[zT]at e2;rw[e2]
 obtain⟨s,hsp⟩:∃ s,gA us false b2=s++[i]:=by
  obtain⟨s,e⟩:=List.getLast?_eq_some_iff.1 hl
  exact⟨s,e⟩
 have hv:gY (gV us ((.nd b2 j .nil,0) :: R3)) i (s.getLast?.getD 0):=⟨(gA us false (.nd b2 j .nil),0),by simp[gV],s,[j],by rw[h2.seq,hsp];simp,rfl⟩
 have e3:=h2.fo.qS hv q1
 have hs0:s=[]:=by
  cases hl2:s.getLast? with
  | none=>exact Jr.1 hl2
  | some x =>
   rw[hl2]at e3
   simp only[zT]at e3
   exact absurd e3 (h2.fo.vZ (T:=.nd b2 j .nil) (q:=0) s_ x (by rw[h2.seq,hsp];simp[Fm hl2]))
 rw[hs0,rK]at hsp
 have hrep:=h2.fo.rep (.nd b2 j .nil,0) s_
 exact⟨gQ.one hrep.2.2.2.1 (Wa hsp),ha2'⟩
def s7(us:List Nd)(i j:Nat):List Nd:=iJ (fR (fR us i (fun x=>{ x with up:=0 })) j (fun x=>{ x with k0:=0 })) j
theorem RX{us:List Nd}{i j:Nat}{R:FT}(h:Fo us ((.nd (.nd .nil i .nil) j .nil,0) :: R)):Fo (s7 us i j) ((.nd .nil i .nil,0) :: (.nd .nil j .nil,0) :: R)/\(s7 us i j).length=us.length/\∀ k,k≠i->k≠j->fM (s7 us i j) k=fM us k:=by
 obtain⟨n1,n2,n3⟩:=h.split
 obtain⟨⟨j0,jl⟩,⟨k0,k1,up⟩,v,hi,_⟩:=h.rep (.nd (.nd .nil i .nil) j .nil,0) s_
 have hi' := hi
 obtain⟨⟨i0,il⟩,⟨ik0,ik1,iup⟩,iv,_,_⟩:=hi'
 have hne:i≠j:=by
  simp only[Tr.mem,rK,qC,o6]at n1
  rintro rfl
  simp at n1
 obtain⟨x1,e1⟩:∃ x,x=fR us i (fun x=>{ x with up:=0 }):=⟨_,rfl⟩
 obtain⟨x2,e2⟩:∃ x,x=fR x1 j (fun x=>{ x with k0:=0 }):=⟨_,rfl⟩
 have hcut:s7 us i j=iJ x2 j:=by rw[e2,e1];rfl
 have l2:x2.length=us.length:=by rw[e2,e1,gM,gM]
 have a2:fM x2 i={ fM us i with up:=0 }:=by rw[e2,kn (fun e=>hne e.symm),e1,kr il]
 have b2:fM x2 j={ fM us j with k0:=0 }:=by rw[e2,kr (by rw[e1,gM];exact jl),e1,kn hne]
 have o2:∀ k,k≠i->k≠j->fM x2 k=fM us k:=fun k hk hk' => by rw[e2,kn (fun e=>hk' e.symm),e1,kn (fun e=>hk e.symm)]
 obtain⟨oy,hRj⟩:=xl (xs:=x2) (i:=j) (l:=.nil) (r:=.nil) ⟨j0,o_⟩ trivial trivial (by rw[b2];rfl) (by rw[b2];exact k1) (by simp[Tr.mem]) (by simp[Tr.mem])
 rw[<-hcut]at oy hRj
 rw[show (fM x2 j).up=0 by rw[b2];exact up]at hRj
 have ai:fM (s7 us i j) i={ fM us i with up:=0 }:=by rw[oy.other i hne,a2]
 have oo:∀ k,k≠i->k≠j->fM (s7 us i j) k=fM us k:=fun k h1 h2=>by rw[oy.other k h2,o2 k h1 h2]
 have ll:(s7 us i j).length=us.length:=by rw[oy.len,l2]
 have hRi:gQ (s7 us i j) (.nd .nil i .nil) 0:=by
  refine⟨⟨i0,by rw[ll];exact il⟩,⟨by rw[ai];exact ik0,by rw[ai];exact ik1,by rw[ai]⟩,?_,trivial,trivial⟩
  simp only[Tr.mem,rK]at iv ⊢
  refine⟨by rw[ai];exact iv.size,?_,?_⟩
  . rw[ai,iv.total];simp[mQ,ai]
  . rw[ai];exact⟨iv.first.1,fun k hk=>.inl (by have h1:=iv.first.1;simp at hk h1;rw[hk,h1])⟩
 have hmi:i∈(Tr.nd (.nd .nil i .nil) j .nil).mem:=by simp[Tr.mem]
 have hmj:j∈(Tr.nd (.nd .nil i .nil) j .nil).mem:=by simp[Tr.mem]
 have nR:∀ e∈R,∀ k∈e.1.mem,k≠i/\k≠j:=fun e he k hk=>⟨fun e' => n3 i hmi (e' ▸ mY he hk),fun e' => n3 j hmj (e' ▸ mY he hk)⟩
 have hnodes:jt ((.nd .nil i .nil,0) :: (.nd .nil j .nil,0) :: R)=jt ((.nd (.nd .nil i .nil) j .nil,0) :: R):=by simp[jt,Tr.mem]
 obtain⟨ρ,r1,r2⟩:=h.q6
 refine⟨⟨fun e he=>?_,fun e he=>?_,by rw[hnodes];exact h.nodup,fun k h0 hk=>by rw[hnodes];exact h.all k h0 (by rw[ll]at hk;exact hk),fun e he=>?_,⟨ρ,fun e he=>?_,fun e he h0=>?_⟩,by rw[oo 0 (fun e=>i0 e.symm) (fun e=>j0 e.symm)];exact h.zero,by rw[ll];exact h.pos,by rw[ll];exact h.len⟩,ll,oo⟩
 . rcases zb.1 he with rfl|he
   . exact hRi
   . rcases zb.1 he with rfl|he
     . exact hRj
     . exact(h.rep e (by simp[he])).qE ll fun k hk=>oo k (nR e he k hk).1 (nR e he k hk).2
 . rcases zb.1 he with rfl|he
   . exact i0
   . rcases zb.1 he with rfl|he
     . exact j0
     . exact h.ne e (by simp[he])
 . rw[ll]
   rcases zb.1 he with rfl|he
   . exact h.pos
   . rcases zb.1 he with rfl|he
     . exact h.pos
     . exact h.par e (by simp[he])
 . rcases zb.1 he with rfl|he
   . intro x hx y hy;simp[Tr.mem]at hx hy;rw[hx,hy]
   . rcases zb.1 he with rfl|he
     . intro x hx y hy;simp[Tr.mem]at hx hy;rw[hx,hy]
     . exact r1 e (by simp[he])
 . rcases zb.1 he with rfl|he
   . exact absurd rfl h0
   . rcases zb.1 he with rfl|he
     . exact absurd rfl h0
     . exact r2 e (by simp[he]) h0
def pJ(zs:List Nd)(a b:Nat):List Nd := 
 let x1:=fR zs a (fun x=>{ x with up:=b })
 iJ (fR x1 b (fun x=>{ x with iO:=IntKind.i64.wrap (x.iO+(fM x1 a).total) })) b
theorem TM{zs:List Nd}{a b:Nat}{x y:Tr}{R:FT}(h:Fo zs ((.nd y b .nil,0) :: (.nd x a .nil,0) :: R)):Fo (pJ zs a b) ((.nd y b .nil,0) :: (.nd x a .nil,b) :: R)/\(pJ zs a b).length=zs.length/\∀ k,k≠a->k≠b->fM (pJ zs a b) k=fM zs k:=by
 obtain⟨n1,n2,n3⟩:=h.split
 have hB:=h.rep (.nd y b .nil,0) s_
 have hA:=h.rep (.nd x a .nil,0) s_
 obtain⟨⟨b0,bl⟩,⟨bk0,bk1,bup⟩,bv,hy,_⟩:=hB
 have a0:=hA.1.1
 have al:=hA.1.2
 have hma:a∈(Tr.nd x a .nil).mem:=by simp[Tr.mem]
 have hmb:b∈(Tr.nd y b .nil).mem:=by simp[Tr.mem]
 have dj:∀ k∈(Tr.nd y b .nil).mem,k∉(Tr.nd x a .nil).mem/\k∉jt R:=fun k hk=>by
  have:=n3 k hk
  simp only[jt,kO,zq,not_or]at this
  exact this
 have hne:a≠b:=fun e=>(dj b hmb).1 (e▸hma)
 have nA:(Tr.nd x a .nil).mem.Nodup/\∀ k∈(Tr.nd x a .nil).mem,k∉jt R:=by
  simp only[jt,kO,zu]at n2
  exact⟨n2.1,fun k h1 h2=>n2.2.2 k h1 k h2 rfl⟩
 obtain⟨x1,e1⟩:∃ z,z=fR zs a (fun x=>{ x with up:=b }):=⟨_,rfl⟩
 obtain⟨x2,e2⟩:∃ z,z=fR x1 b (fun x=>{ x with iO:=IntKind.i64.wrap (x.iO+(fM x1 a).total) }):=⟨_,rfl⟩
 have hcut:pJ zs a b=iJ x2 b:=by rw[e2,e1];rfl
 have l1:x1.length=zs.length:=by rw[e1,gM]
 have l2:x2.length=zs.length:=by rw[e2,gM,l1]
 have a2:fM x2 a={ fM zs a with up:=b }:=by rw[e2,kn (fun e=>hne e.symm),e1,kr al]
 obtain⟨lm,b2⟩:∃ lm,fM x2 b={ fM zs b with iO:=lm }:=⟨_,by rw[e2,kr (by rw[l1];exact bl),e1,kn hne]⟩
 have o2:∀ k,k≠a->k≠b->fM x2 k=fM zs k:=fun k hk hk' => by rw[e2,kn (fun e=>hk' e.symm),e1,kn (fun e=>hk e.symm)]
 have nby:b∉y.mem:=by
  simp only[Tr.mem,zu,zy]at n1
  exact fun h=>n1.2.2 b h b s_ rfl
 have hy2:gQ x2 y b:=hy.qE l2 fun k hk=>o2 k (fun e=>(dj k (by simp[Tr.mem,hk])).1 (e▸hma)) (fun e=>nby (e▸hk))
 obtain⟨oy,hRb⟩:=xl (xs:=x2) (i:=b) (l:=y) (r:=.nil) ⟨b0,o_⟩ hy2 trivial (by rw[b2];exact bk0) (by rw[b2];exact bk1) n1 h.count
 rw[<-hcut]at oy hRb
 rw[show (fM x2 b).up=0 by rw[b2];exact bup]at hRb
 have oo:∀ k,k≠a->k≠b->fM (pJ zs a b) k=fM zs k:=fun k h1 h2=>by rw[oy.other k h2,o2 k h1 h2]
 have ll:(pJ zs a b).length=zs.length:=by rw[oy.len,l2]
 have aa:fM (pJ zs a b) a={ fM zs a with up:=b }:=by rw[oy.other a hne,a2]
 have hRa:gQ (pJ zs a b) (.nd x a .nil) b:=by
  obtain⟨⟨_,_⟩,⟨ak0,ak1,_⟩,av,hx,_⟩:=hA
  have nax:a∉x.mem:=by
   have:=nA.1
   simp only[Tr.mem,zu,zy]at this
   exact fun h=>this.2.2 a h a s_ rfl
  have hxk:∀ k∈x.mem,fM (pJ zs a b) k=fM zs k:=fun k hk=>oo k (fun e=>nax (e▸hk)) (fun e=>(dj b hmb).1 (e▸by simp[Tr.mem,hk]))
  refine⟨⟨a0,by rw[ll];exact al⟩,⟨by rw[aa];exact ak0,by rw[aa];exact ak1,by rw[aa]⟩,?_,hx.qE ll hxk,trivial⟩
  have hkl:∀ k∈x.mem++a :: Tr.nil.mem,(fM (pJ zs a b) k).key=(fM zs k).key/\(fM (pJ zs a b) k).iO=(fM zs k).iO:=fun k hk=>by
   simp only[Tr.mem,zq,zb,rF,or_false]at hk
   rcases hk with hk|rfl
   . rw[hxk k hk];exact⟨rfl,rfl⟩
   . rw[aa];exact⟨rfl,rfl⟩
  refine⟨by rw[aa];exact av.size,?_,?_⟩
  . rw[aa,show mQ (pJ zs a b) (x.mem++a :: Tr.nil.mem)=mQ zs (x.mem++a :: Tr.nil.mem) from congrArg List.sum (zO fun k hk=>by rw[(hkl k hk).2])]
    exact av.total
  . rw[aa]
    refine⟨av.first.1,fun k hk=>?_⟩
    rcases av.first.2 k hk with e|e
    . exact .inl e
    . refine .inr ?_
      rw[<-e]
      simp only[kU,(hkl k hk).1,(hkl _ av.first.1).1]
 have nR:∀ e∈R,∀ k∈e.1.mem,k≠a/\k≠b:=fun e he k hk=>⟨fun e' => nA.2 a hma (e' ▸ mY he hk),fun e' => (dj b hmb).2 (e' ▸ mY he hk)⟩
 have hnodes:jt ((.nd y b .nil,0) :: (.nd x a .nil,b) :: R)=jt ((.nd y b .nil,0) :: (.nd x a .nil,0) :: R):=by simp[jt]
 obtain⟨ρ,r1,r2⟩:=h.q6
 obtain⟨σ,hσ⟩:∃ σ:Nat->Nat,∀ k,σ k=if k∈(Tr.nd y b .nil).mem then ρ k+ρ a+1 else ρ k:=⟨_,fun _=>rfl⟩
 have sin:∀ k∈(Tr.nd y b .nil).mem,σ k=ρ k+ρ a+1:=fun k hk=>by rw[hσ,if_pos hk]
 have sout:∀ k,k∉(Tr.nd y b .nil).mem->σ k=ρ k:=fun k hk=>by rw[hσ,if_neg hk]
 have sge:∀ k,ρ k<=σ k:=fun k=>by rw[hσ];split<;>omega
 have oA:∀ k∈(Tr.nd x a .nil).mem,k∉(Tr.nd y b .nil).mem:=fun k h1 h2=>(dj k h2).1 h1
 have oR:∀ e∈R,∀ k∈e.1.mem,k∉(Tr.nd y b .nil).mem:=fun e he k h1 h2=>(dj k h2).2 (mY he h1)
 refine⟨⟨fun e he=>?_,fun e he=>?_,by rw[hnodes];exact h.nodup,fun k h0 hk=>by rw[hnodes];exact h.all k h0 (by rw[ll]at hk;exact hk),fun e he=>?_,⟨σ,fun e he=>?_,fun e he h0=>?_⟩,by rw[oo 0 (fun e=>a0 e.symm) (fun e=>b0 e.symm)];exact h.zero,by rw[ll];exact h.pos,by rw[ll];exact h.len⟩,ll,oo⟩
 . rcases zb.1 he with rfl|he
   . exact hRb
   . rcases zb.1 he with rfl|he
     . exact hRa
     . exact(h.rep e (by simp[he])).qE ll fun k hk=>oo k (nR e he k hk).1 (nR e he k hk).2
 . rcases zb.1 he with rfl|he
   . exact b0
   . rcases zb.1 he with rfl|he
     . exact a0
     . exact h.ne e (by simp[he])
 . rw[ll]
   rcases zb.1 he with rfl|he
   . exact h.pos
   . rcases zb.1 he with rfl|he
     . exact bl
     . exact h.par e (by simp[he])
 . rcases zb.1 he with rfl|he
   . intro i hi k hk
     rw[sin i hi,sin k hk,r1 (.nd y b .nil,0) s_ i hi k hk]
   . rcases zb.1 he with rfl|he
     . intro i hi k hk
       rw[sout i (oA i hi),sout k (oA k hk),r1 (.nd x a .nil,0) s_ i hi k hk]
     . intro i hi k hk
       rw[sout i (oR e he i hi),sout k (oR e he k hk),r1 e (by simp[he]) i hi k hk]
 . rcases zb.1 he with rfl|he
   . exact absurd rfl h0
   . rcases zb.1 he with rfl|he
     . intro i hi
       have:=r1 (.nd x a .nil,0) s_ i hi a hma
       rw[sout i (oA i hi),sin b hmb]
       omega
     . intro i hi
       have:=r2 e (by simp[he]) h0 i hi
       have:=sge e.2
       rw[sout i (oR e he i hi)]
       omega
def uW(ys:List Nd)(i:Nat)(k:Int):List Nd:=iJ (fR ys i (fun x=>{ x with key:=k })) i
theorem Vf{ys:List Nd}{i:Nat}{a:Tr}{R:FT}{c:Int}(h:Fo ys ((.nd a i .nil,0) :: R)):Fo (uW ys i c) ((.nd a i .nil,0) :: R)/\(uW ys i c).length=ys.length/\(∀ k,k≠i->fM (uW ys i c) k=fM ys k)/\(fM (uW ys i c) i).key=c:=by
 obtain⟨n1,n2,n3⟩:=h.split
 obtain⟨⟨i0,il⟩,⟨k0,k1,up⟩,v,ha,_⟩:=h.rep (.nd a i .nil,0) s_
 obtain⟨x2,e2⟩:∃ z,z=fR ys i (fun x=>{ x with key:=c }):=⟨_,rfl⟩
 have hcut:uW ys i c=iJ x2 i:=by rw[e2];rfl
 have l2:x2.length=ys.length:=by rw[e2,gM]
 have a2:fM x2 i={ fM ys i with key:=c }:=by rw[e2,kr il]
 have o2:∀ k,k≠i->fM x2 k=fM ys k:=fun k hk=>by rw[e2,kn (fun e=>hk e.symm)]
 have nia:i∉a.mem:=by
  simp only[Tr.mem,zu,zy]at n1
  exact fun h=>n1.2.2 i h i s_ rfl
 obtain⟨oy,hRi⟩:=xl (xs:=x2) (i:=i) (l:=a) (r:=.nil) ⟨i0,o_⟩ (ha.qE l2 fun k hk=>o2 k (fun e=>nia (e▸hk))) trivial (by rw[a2];exact k0) (by rw[a2];exact k1) n1 h.count
 rw[<-hcut]at oy hRi
 rw[show (fM x2 i).up=0 by rw[a2];exact up]at hRi
 have oo:∀ k,k≠i->fM (uW ys i c) k=fM ys k:=fun k h1=>by rw[oy.other k h1,o2 k h1]
 have ll:(uW ys i c).length=ys.length:=by rw[oy.len,l2]
 have hm:i∈(Tr.nd a i .nil).mem:=by simp[Tr.mem]
 refine⟨⟨fun e he=>?_,h.ne,h.nodup,fun k h0 hk=>h.all k h0 (by rw[ll]at hk;exact hk),fun e he=>by rw[ll];exact h.par e he,h.q6,by rw[oo 0 (fun e=>i0 e.symm)];exact h.zero,by rw[ll];exact h.pos,by rw[ll];exact h.len⟩,ll,oo,by rw[oy.kl.key,a2]⟩
 rcases zb.1 he with rfl|he
 . exact hRi
 . exact(h.rep e (by simp[he])).qE ll fun k hk=>oo k (fun e' => n3 i hm (e' ▸ mY he hk))
def uf:Nd:=⟨0,0,0,false,0,0,0,0,0⟩
def vo(i:Nat):Nd:=⟨0,0,0,false,0,1,i,0,1⟩
def l9(n k:Nat):List Nd:=(List.range (n+1)).map fun i=>if 1<=i/\i<=k then vo i else uf
theorem oI(n k:Nat):(l9 n k).length=n+1:=by simp[l9]
theorem vU{n k i:Nat}(h:i<n+1):fM (l9 n k) i=if 1<=i/\i<=k then vo i else uf:=by
 simp[fM,l9,Ad h]
theorem Tg(n:Nat):l9 n 0=List.replicate (n+1) uf:=by
 apply List.ext_getElem
 . simp[l9]
 . intro i h1 h2
   simp only[l9,List.getElem_map,List.getElem_range,List.getElem_replicate]
   rw[if_neg o_]
theorem Ub{n k:Nat}(h:k<n):iJ (l9 n k) (k+1)=l9 n (k+1):=by
 have hl:k+1<(l9 n k).length:=by rw[oI];omega
 have hat:fM (l9 n k) (k+1)=uf:=by rw[vU o_,if_neg o_]
 unfold iJ
 rw[hat]
 simp only[uf,lR,if_true]
 apply nq
 intro i
 by_cases hi:i=k+1
 . subst hi
   rw[gy (by rw[gM];exact hl),kr hl,hat,gy (by rw[oI];omega),vU o_,if_pos o_]
   simp only[uf,vo,GI]
   rfl
 . by_cases hlt:i<n+1
   . rw[gy (by rw[gM,oI];exact hlt),kn (fun e=>hi e.symm),gy (by rw[oI];exact hlt),vU hlt,vU hlt]
     by_cases h1:1<=i/\i<=k
     . rw[if_pos h1,if_pos o_]
     . rw[if_neg h1,if_neg o_]
   . rw[mB (by rw[gM,oI];omega),mB (by rw[oI];omega)]
def newF(n:Nat):FT:=(List.range n).map fun v=>(.nd .nil (v+1) .nil,0)
theorem Uy{n:Nat}(h:n<=1000000):Fo (l9 n n) (newF n):=by
 have hnodes:jt (newF n)=(List.range n).map (· + 1):=by
  unfold jt newF
  rw[List.flatMap_map]
  induction List.range n with
  | nil=>rfl
  | cons x l ih =>
   rw[kO,ih]
   rfl
 refine⟨fun e he=>?_,fun e he=>?_,?_,fun j h0 hj=>?_,fun e he=>?_,⟨fun _=>0,fun _ _ _ _ _ _=>rfl,fun e he h0=>?_⟩,?_,by rw[oI];omega,by rw[oI];omega⟩
 . obtain⟨v,hv,rfl⟩:=jW.1 he
   have hv:=mC.1 hv
   have hat:fM (l9 n n) (v+1)=vo (v+1):=by rw[vU o_,if_pos o_]
   refine⟨⟨o_,by rw[oI];omega⟩,⟨by rw[hat];rfl,by rw[hat];rfl,by rw[hat];rfl⟩,⟨by rw[hat];rfl,?_,?_⟩,trivial,trivial⟩
   . rw[hat];simp only[Tr.mem,rK,mQ,z1,wQ,hat];rw[GI];rfl
   . rw[hat];exact⟨by simp[vo,Tr.mem],fun j hj=>.inl (by simpa[vo,Tr.mem]using hj)⟩
 . obtain⟨v,hv,rfl⟩:=jW.1 he
   exact Nat.succ_ne_zero v
 . rw[hnodes]
   exact List.Pairwise.map _ (fun a b (h:a≠b)=>by show a+1≠b+1;omega) BW
 . rw[hnodes]
   rw[oI]at hj
   exact jW.2 ⟨j-1,mC.2 o_,o_⟩
 . obtain⟨v,hv,rfl⟩:=jW.1 he
   rw[oI];show 0<n+1;omega
 . obtain⟨v,hv,rfl⟩:=jW.1 he
   exact absurd rfl h0
 . rw[vU o_,if_neg o_];exact⟨rfl,rfl,rfl⟩
end Go.Sx
namespace Go.Sx
open Go
theorem Nz{α:Type}[Inhabited α]{xs:List α}{i:Nat}{f g:α->α}(h:i<xs.length):fR (fR xs i f) i g=fR xs i (fun x=>g (f x)):=by
 have e:=kr (f:=f) h
 unfold fR at e ⊢
 rw[e,List.set_set]
theorem Ro{xs:List Nd}{i:Nat}(h:i<xs.length):fR (fR (fR xs i (fun x=>{ x with size:=1 })) i (fun x=>{ x with first:=i })) i (fun x=>{ x with total:=IntKind.i64.wrap (1+(fM xs i).iO) })=fR xs i (fun x=>{ x with size:=1,first:=i,total:=IntKind.i64.wrap (1+x.iO) }):=by
 rw[Nz h,Nz h];rfl
theorem sY{xs y:List Nd}{i:Nat}(hy:y=fR xs i (fun x=>{ x with size:=1,first:=i,total:=IntKind.i64.wrap (1+x.iO) }))(h:i<xs.length):iJ xs i=lR (lR y i (fM y i).k0) i (fM y i).k1:=by
 have e0:(fM y i).k0=(fM xs i).k0:=by rw[hy,kr h]
 have e1:(fM y i).k1=(fM xs i).k1:=by rw[hy,kr h]
 rw[e0,e1,hy];rfl
theorem rP{xs:List Nd}{i k:Nat}(h:k=0):lR xs i k=xs:=by simp[lR,h]
section
variable {xs y0 y1 y2:List Nd} {i k:Nat}
theorem rU(h:k≠0)(e0:y0=fR xs i (fun x=>{ x with size:=IntKind.i64.wrap ((fM xs i).size+(fM xs k).size) }))(e1:y1=fR y0 i (fun x=>{ x with total:=IntKind.i64.wrap ((fM y0 i).total+(fM y0 k).total) }))
 (hz:kU y1 (fM y1 k).first (fM y1 i).first=true) (e2:y2=fR y1 i (fun x=>{ x with first:=(fM y1 k).first })):lR xs i k=y2:=by
 subst e0 e1 e2
 simp only[lR,if_neg h]
 exact if_pos hz
theorem rV(h:k≠0)(e0:y0=fR xs i (fun x=>{ x with size:=IntKind.i64.wrap ((fM xs i).size+(fM xs k).size) }))(e1:y1=fR y0 i (fun x=>{ x with total:=IntKind.i64.wrap ((fM y0 i).total+(fM y0 k).total) }))
 (hz:kU y1 (fM y1 k).first (fM y1 i).first=false):lR xs i k=y1:=by
 have hz' : ¬ kU y1 (fM y1 k).first (fM y1 i).first=true:=by rw[hz];simp
 subst e0 e1
 simp only[lR,if_neg h]
 exact if_neg hz'
end
theorem AG(xs:List Nd)(i:Nat):jk xs i=(0,false)\/jk xs i=(0,true)\/jk xs i=(1,true):=by
 unfold jk
 (repeat' split)<;>simp
theorem fZ.kB{xs:List Nd}(h:fZ xs){i s k:Nat}(hi:i<xs.length)(hk:k<xs.length):fZ (iP xs i s k):=by
 have h1:fZ (if s=0 then fR xs i (fun x=>{ x with k0:=k })else fR xs i (fun x=>{ x with k1:=k })):=by
  split
  . exact h.iE hi fun x a b c d e=>⟨hk,b,c,d,e⟩
  . exact h.iE hi fun x a b c d e=>⟨a,hk,c,d,e⟩
 have hl:(if s=0 then fR xs i (fun x=>{ x with k0:=k })else fR xs i (fun x=>{ x with k1:=k })).length=xs.length:=by split<;>exact gM
 by_cases hk0:k=0
 . simp only[iP,if_pos hk0]
   exact h1
 . simp only[iP,if_neg hk0]
   exact h1.iE (by rw[hl];exact hk) fun x a b c d e=>⟨a,b,by rw[hl];exact hi,d,e⟩
theorem Cu(xs:List Nd)(i s k:Nat):(iP xs i s k).length=xs.length:=by
 unfold iP
 simp only
 (repeat' split)<;>simp only[gM]
theorem FO(xs:List Nd)(i k:Nat):(lR xs i k).length=xs.length:=by
 unfold lR
 simp only
 (repeat' split)<;>simp only[gM]
theorem Ct(xs:List Nd)(i:Nat):(iJ xs i).length=xs.length:=by
 simp only[iJ,FO,gM]
theorem fZ.lR{xs:List Nd}(h:fZ xs){i k:Nat}(hi:i<xs.length)(hk:k<xs.length):fZ (lR xs i k):=by
 have h0:fZ (fR xs i (fun x=>{ x with size:=IntKind.i64.wrap (x.size+(fM xs k).size) })):=h.iE hi fun x a b c d e=>⟨a,b,c,d,e⟩
 have l0:(fR xs i (fun x=>{ x with size:=IntKind.i64.wrap (x.size+(fM xs k).size) })).length=xs.length:=gM
 unfold Go.Sx.lR
 simp only
 generalize fR xs i (fun x=>{ x with size:=IntKind.i64.wrap (x.size+(fM xs k).size) })=y0 at h0 l0 ⊢
 have h1:fZ (fR y0 i (fun x=>{ x with total:=IntKind.i64.wrap (x.total+(fM y0 k).total) })):=h0.iE o_ fun x a b c d e=>⟨a,b,c,d,e⟩
 have l1:(fR y0 i (fun x=>{ x with total:=IntKind.i64.wrap (x.total+(fM y0 k).total) })).length=y0.length:=gM
 generalize fR y0 i (fun x=>{ x with total:=IntKind.i64.wrap (x.total+(fM y0 k).total) })=y1 at h1 l1 ⊢
 split
 . exact h
 split
 . exact h1.iE o_ fun x a b c d e=>⟨a,b,c,h1.first k o_,e⟩
 . exact h1
theorem fZ.lB{xs:List Nd}(h:fZ xs){i:Nat}(hi:i<xs.length):fZ (iJ xs i):=by
 have h0:fZ (fR xs i (fun x=>{ x with size:=1,first:=i,total:=IntKind.i64.wrap (1+x.iO) })):=h.iE hi fun x a b c d e=>⟨a,b,c,hi,e⟩
 have l0:(fR xs i (fun x=>{ x with size:=1,first:=i,total:=IntKind.i64.wrap (1+x.iO) })).length=xs.length:=gM
 have a:=h.k0 i hi
 have b:=h.k1 i hi
 unfold iJ
 exact(h0.lR o_ o_).lR (by rw[FO];omega) (by rw[FO];omega)
end Go.Sx
namespace Go.Sx
open Go
theorem om{p:Prop}(h:p:=by first|omega|(simp only[gM];omega)):p:=h
theorem oa{p:Prop}(h:p:=by first|assumption|omega|(simp only[gM];omega)):p:=h
theorem o9{p q:Prop}(h9:q)(h:q->p:=by intro h9;first|omega|(simp only[gM]at h9 ⊢;omega)|(simp only[gM]at h9;omega)|(simp only[gM];omega)):p:=h h9
theorem iF{bs:List (World×List Nat)}{A:gi}{nb t m:Nat}{z:List Nd}{w:World}(hI:fZ z)(hs:St bs [A,blk nb t (z.flatMap Nd.cells)] w)(hl:z.length=m:=by first|omega|(simp only[gM];omega)|(rw[Cu];omega)|(rw[Ct];omega)|omega):∃ y,y=z/\y.length=m/\fZ y/\St bs [A,blk nb t (y.flatMap Nd.cells)] w:=⟨z,rfl,hl,hI,hs⟩
section
variable {Γ:Type} {P:Program} {ops:Array Oper} {Q:Exit->Act->World->Prop} {n:Nat} {ds:List Deferred} {s0:List (Nat×Value)} {l0:List Oper} {pre:List (List Nat)} {mem:List Nat} {V:List (Γ->Value)} {bs:List (World×List Nat)} {Ls:List ((Γ->List gi)×(Γ->World->Prop))} {i:Nat} {s:Γ->List (Nat×Value)} {o:Oper} {l:List Oper} {v:Γ->Value} {vs:List (Γ->Value)}
theorem gC(h:∀ g w,(execOp (ev n (s g)) o).run P w = .ok (.value (v g)) w)(K:lQ P ops Q n ds s0 l0 pre mem V (jS bs Ls) (i+1) (fun g=>jy o.dst (v g) (s g)) l vs)(hm:mem.contains i=false:=by exact rfl)(hg:∀ g,gB ops n (s g) o.guard=true:=by exact fun _=>rfl)(hd:mE o.op=true:=by exact rfl) :
 lQ P ops Q n ds s0 l0 pre mem V (jS bs Ls) i s (o :: l) (v :: vs):=aaS hm (fun g w C=>qv (hg g) hd (h g w)) K
end
section
variable {P:Program} {bs:List (World×List Nat)} {L LL A A' B:List gi} {R R' : gi} {w w' : World}
theorem St.tn(i:Nat)(h:St bs L w)(ht:gp R w w' R')(hi:L[i]? = some R:=by exact rfl)(hL:L.set i R' = LL:=by first|(dsimp only[List.set];exact rfl)|exact rfl):St bs LL w' := St.sD i h hi ht hL
theorem St.tu(h:St bs (gG A :: B) w)(ht:gp (gG A) w w' (gG A')):St bs (A' ++ B) w' := (St.sD 0 h rfl ht rfl).unpack
theorem St.eT(h:St bs (R' :: L) w')(hb:(w,R.gU)∈bs:=by exact zg):gp R w w' R' := h.Dt hb
theorem St.eM(h:St bs (R :: L) w')(hb:(w,[])∈bs:=by simp):gp (gG []) w w' R:=h.AX hb
theorem en{f:FuncId}{fn:Func}{c:Code}{n:Nat}{vs:List Value}{R:Ending->World->Prop}(hf:P.funcs[f]? = some fn)(hn:fn.ntmps=n)(h:WP none P c (bodyPost P fn R) (Fr n (tG vs 0) []) w)(hb:fn.body=some c:=by exact rfl)(hs:Nat.ble vs.length n=true:=by exact rfl):Calls P f vs.toArray w R:=enter hf hb hn hs h
variable {ops:Array Oper} {Q:Exit->Act->World->Prop} {n:Nat} {s:List (Nat×Value)} {ds:List Deferred} {r d:Option Nat} {ty:TypeId} {pos:String} {af:Array Edge} {g:Option (Nat×Bool)} {rest:List Oper}
theorem cl{f:FuncId}{az:List Operand}{T:Array TypeId}{vl:List Value}{R:Value->World->Prop}(he:gz P f)(hc:CR P f vl.toArray w R)(K:∀ v w', R v w' -> WL r P ops Q rest (Fr n (jy d v s) ds) w')(hg:gB ops n s g=true:=by exact rfl)(hvs:az.map (ev n s)=vl:=by exact rfl) :
 WL r P ops Q (⟨d,.call ⟨.value (.func f),az.toArray,T⟩,ty,pos,af,g⟩ :: rest) (Fr n s ds) w:=tP hg hvs he hc K
end
end Go.Sx
namespace Go.Sx
open Go
abbrev lg(k:IntKind)(e:Int×Value×Nat):MapEntry:=⟨.int k e.1,e.2.1,e.2.2⟩
section
variable {P:Program} {k k' : IntKind} {x:Int} {es:List (Int×Value×Nat)}
theorem uy{kt:TypeId}(hk:P.underlying kt=some (.int k'))(em:Bool)(n:Nat)(v:Value)(w:World):(Instr.checkKey em (n+1) kt v).run P w = .ok () w:=by simp[Instr.checkKey,run_underlying hk]
theorem uA{kt:TypeId}{w:World}(hk:P.underlying kt=some (.int k')){l:List MapEntry}{v:Value}{q:Option (Nat×Value)}(h:Instr.findNow (.int k') v l 0=some q):(Instr.findKey kt v l).run P w = .ok q w:=by simp[Instr.findKey,run_underlying hk,h]
theorem Tx(x:Int)(w:World):(Instr.keyThatStays (.int k x) (.int k x)).run P w = .ok (.int k x) w:=by simp[Instr.keyThatStays,Instr.sameBits]
theorem Xz{b:Nat}(w:World)(o:Obj):gD [b] w { w with heap:=w.heap.setIfInBounds b o } :=
 ⟨rfl,rfl,rfl,s_,fun c hc hne=>by
  have:b≠c:=fun e=>hne (by simp[e])
  simp[Array.getElem?_setIfInBounds,this]⟩
theorem AZ{b:Nat}(w:World)(o:Obj):gD [b] w (w.putObj b o) :=
 ⟨rfl,rfl,rfl,by simp[World.putObj],fun c hc hne=>by
  have:b≠c:=fun e=>hne (by simp[e])
  simp[World.putObj,Array.getElem?_setIfInBounds,this]⟩
theorem CH{b:Nat}{w:World}{o:Obj}{m0:Array MapEntry}{c0:Nat}(h:w.heap[b]? = some (.map m0 c0)):(setObj b o).run P w = .ok () (w.putObj b o)/\(w.putObj b o).heap[b]? = some o:=by
 have hlt:=(z8.1 h).1
 exact⟨by simp only[setObj,Sem.run,h,World.putObj],World.putObj_heap_same hlt⟩
end
section
variable {r:Option Nat} {P:Program} {ops:Array Oper} {Q:Exit->Act->World->Prop} {rest l:List Oper} {n:Nat} {s s0:List (Nat×Value)} {ds:List Deferred} {w w0:World} {Nx:Value->World->Prop}
variable {d:Nat} {dd:Option Nat} {ty:TypeId} {pos:String} {af:Array Edge} {g:Option (Nat×Bool)} {x y m:Operand} {bs:List (World×List Nat)} {L L' : List gi} {t e kt:TypeId} {b:Nat} {k k' : IntKind} {ys:List Int} {a:Int}
theorem St.D4{i:Nat}{R R' : gi}{o:Obj}(h:St bs L w)(hi:L[i]? = some R)(hf:R.gU=[b])(hf' : R'.gU=[b])(ho:∀ w' : World,w'.heap[b]? = some o->R'.holds w')(hlt:b<w.heap.size):St bs (L.set i R') (w.putObj b o):=by
 refine h.iE hi (by rw[hf];exact AZ w o) (fun c hc=>.inl (by rw[hf];rwa [hf']at hc)) (by rw[hf'];simp) (fun c hc=>?_) (ho _ (World.putObj_heap_same hlt))
 rw[hf']at hc
 simp only[lY]at hc
 subst hc
 simpa[World.putObj]using hlt
end
end Go.Sx
namespace Go.Sx
open Go
section
variable {γ:Type}
def ij:List (Int×γ)->Int->Option γ
 | [],_=>none
 | (b,y) :: m,a=>if b=a then some y else ij m a
def gm:List (Int×γ)->Int->γ->List (Int×γ)
 | [],a,x=>[(a,x)]
 | (b,y) :: m,a,x=>if b=a then(a,x) :: m else(b,y) :: gm m a x
def gK:List (Int×γ)->Int->List (Int×γ)
 | [],_=>[]
 | (b,y) :: m,a=>if b=a then m else(b,y) :: gK m a
def fU[Inhabited γ](m:List (Int×γ))(a:Int):γ:=(ij m a).getD default
def gR(b:Nat)(k:IntKind)(enc:γ->Value)(m:List (Int×γ)):gi where
 gU:=[b]
 holds w:=∃ (es:List (Int×Value×Nat)) (clk:Nat),w.heap[b]? = some (.map (es.map (lg k)).toArray clk)/\es.map (fun e=>(e.1,e.2.1))=m.map (fun p=>(p.1,enc p.2))/\(es.map (fun e=>e.2.2)).Nodup/\∀ e∈es,e.2.2<clk
 loc w w' h hh:=by
  obtain⟨es,clk,h1,h2⟩:=hh
  exact⟨es,clk,(h b s_).trans h1,h2⟩
theorem xB(m:List (Int×γ))(a c:Int)(x:γ):ij (gm m a x) c=if a=c then some x else ij m c:=by
 induction m with
 | nil=>simp[gm,ij]
 | cons p m ih =>
  obtain⟨b,y⟩:=p
  simp only[gm]
  by_cases h:b=a
  . subst h
    rw[if_pos rfl]
    simp only[ij]
    split<;>rfl
  . rw[if_neg h]
    simp only[ij,ih]
    by_cases h1:b=c
    . rw[if_pos h1,if_neg (fun e=>h (h1.trans e.symm)),if_pos h1]
    . rw[if_neg h1,if_neg h1]
theorem GF{m:List (Int×γ)}(hn:(m.map Prod.fst).Nodup)(a c:Int):ij (gK m a) c=if a=c then none else ij m c:=by
 induction m with
 | nil=>simp[gK,ij]
 | cons p m ih =>
  obtain⟨b,y⟩:=p
  simp only[z1,zy]at hn
  simp only[gK]
  by_cases h:b=a
  . subst h
    rw[if_pos rfl]
    by_cases h1:b=c
    . subst h1
      rw[if_pos rfl]
      have:∀ (l:List (Int×γ)),b∉l.map Prod.fst->ij l b=none:=by
       intro l
       induction l with
       | nil=>intro _;rfl
       | cons q l ih2 =>
        intro hq
        simp only[z1,zb,not_or]at hq
        simp only[ij]
        rw[if_neg (fun e=>hq.1 e.symm)]
        exact ih2 hq.2
      exact this m hn.1
    . rw[if_neg h1]
      simp only[ij]
      rw[if_neg h1]
  . rw[if_neg h]
    simp only[ij,ih hn.2]
    by_cases h1:b=c
    . rw[if_pos h1,if_neg (fun e=>h (h1.trans e.symm)),if_pos h1]
    . rw[if_neg h1,if_neg h1]
theorem MV{m:List (Int×γ)}{a:Int}{x:γ}(h:ij m a=some x):(a,x)∈m:=by
 induction m with
 | nil=>simp[ij]at h
 | cons p m ih =>
  obtain⟨b,y⟩:=p
  simp only[ij]at h
  split at h
  . rename_i e
    cases h
    subst e
    simp
  . exact lu _ (ih h)
theorem CZ{m:List (Int×γ)}{a:Int}:ij m a=none↔a∉m.map Prod.fst:=by
 induction m with
 | nil=>simp[ij]
 | cons p m ih =>
  obtain⟨b,y⟩:=p
  simp only[ij,z1,zb,not_or]
  split
  . rename_i e
    simp[e]
  . rename_i e
    rw[ih]
    exact⟨fun h=>⟨fun e' => e e'.symm,h⟩,fun h=>h.2⟩
theorem KD{m:List (Int×γ)}(hn:(m.map Prod.fst).Nodup){a:Int}{x:γ}(h:(a,x)∈m):ij m a=some x:=by
 induction m with
 | nil=>simp at h
 | cons p m ih =>
  obtain⟨b,y⟩:=p
  simp only[z1,zy]at hn
  simp only[ij]
  rcases zb.1 h with e|h
  . cases e
    simp
  . rw[if_neg (fun e=>hn.1 (by rw[e];exact jW.2 ⟨_,h,rfl⟩))]
    exact ih hn.2 h
theorem TX(m:List (Int×γ))(a:Int)(x:γ):(gm m a x).map Prod.fst=if a∈m.map Prod.fst then m.map Prod.fst else m.map Prod.fst++[a]:=by
 induction m with
 | nil=>simp[gm]
 | cons p m ih =>
  obtain⟨b,y⟩:=p
  simp only[gm]
  by_cases h:b=a
  . subst h
    simp
  . rw[if_neg h]
    simp only[z1,ih,zb]
    by_cases h1:a∈m.map Prod.fst
    . rw[if_pos h1,if_pos (.inr h1)]
    . rw[if_neg h1,if_neg (fun h2=>h2.elim (fun e=>h e.symm) h1)]
      rfl
theorem CJ{m:List (Int×γ)}(hn:(m.map Prod.fst).Nodup)(a:Int)(x:γ):((gm m a x).map Prod.fst).Nodup:=by
 rw[TX]
 split
 . exact hn
 . rename_i h
   rw[zu]
   exact⟨hn,s_,fun c hc d hd e=>by simp at hd;subst hd;subst e;exact h hc⟩
theorem Hj(m:List (Int×γ))(a:Int):(gK m a).Sublist m:=by
 induction m with
 | nil=>exact List.Sublist.slnil
 | cons p m ih =>
  obtain⟨b,y⟩:=p
  simp only[gK]
  split
  . exact JC _ _
  . exact List.Sublist.cons_cons _ ih
theorem KR{m:List (Int×γ)}(hn:(m.map Prod.fst).Nodup)(a:Int):((gK m a).map Prod.fst).Nodup:=hn.sublist ((Hj m a).map _)
end
section
variable {γ:Type} {enc:γ->Value} {P:Program} {k k' : IntKind} {a:Int}
theorem CV(k k' : IntKind)(a:Int):∀ (es:List (Int×Value×Nat)) (m:List (Int×γ)) (i:Nat),es.map (fun e=>(e.1,e.2.1))=m.map (fun p=>(p.1,enc p.2)) ->
 (ij m a=none/\Instr.findNow (.int k') (.int k a) (es.map (lg k)) i=some none/\(∀ y,gm m a y=m++[(a,y)])/\gK m a=m) \/
 (∃ j x e,ij m a=some x/\es[j]? = some e/\e.1=a/\Instr.findNow (.int k') (.int k a) (es.map (lg k)) i=some (some (i+j,enc x)) /\
  (∀ y,(es.set j (a,enc y,e.2.2)).map (fun e=>(e.1,e.2.1))=(gm m a y).map (fun p=>(p.1,enc p.2)))/\(es.eraseIdx j).map (fun e=>(e.1,e.2.1))=(gK m a).map (fun p=>(p.1,enc p.2))):=by
 intro es
 induction es with
 | nil =>
  intro m i h
  cases m with
  | cons p m=>simp at h
  | nil=>exact .inl ⟨rfl,rfl,fun _=>rfl,rfl⟩
 | cons e es ih =>
  intro m i h
  cases m with
  | nil=>simp at h
  | cons p m =>
   obtain⟨b,y⟩:=p
   simp only[z1,List.cons.injEq]at h
   obtain⟨h0,h1⟩:=h
   have h2:e.1=b:=congrArg Prod.fst h0
   have h3:e.2.1=enc y:=congrArg Prod.snd h0
   by_cases hb:b=a
   . refine .inr ⟨0,y,e,by simp[ij,hb],rfl,h2.trans hb,?_,fun y' => ?_,?_⟩
     . have:(a==e.1)=true:=by rw[h2,hb];simp
       simp only[z1,Instr.findNow,Instr.sameNow,if_true,this,h3,mL]
     . simp[gm,hb,h1]
     . simp[gK,hb,h1]
   . have hne:(a==e.1)=false:=by
      rw[h2]
      simp only[beq_eq_false_iff_ne,ne_eq]
      exact fun e' => hb e'.symm
     rcases ih m (i+1) h1 with ⟨g1,g2,g3,g4⟩|⟨j,x,e', g1,g2,g3,g4,g5,g6⟩
     . refine .inl ⟨by simp[ij,hb,g1],?_,fun y' => by simp[gm,hb,g3],by simp[gK,hb,g4]⟩
       simp only[z1,Instr.findNow,Instr.sameNow,if_true,hne]
       exact g2
     . refine .inr ⟨j+1,x,e', by simp[ij,hb,g1],by simpa using g2,g3,?_,fun y' => ?_,?_⟩
       . simp only[z1,Instr.findNow,Instr.sameNow,if_true,hne]
         rw[g4,j4,Nat.add_comm 1 j]
       . simp only[List.set_cons_succ,z1,g5,gm,if_neg hb,h2,h3]
       . simp only[List.eraseIdx_cons_succ,z1,g6,gK,if_neg hb,h2,h3]
theorem S2{es:List (Int×Value×Nat)}{j:Nat}{e:Int×Value×Nat}{v:Value}(h:es[j]? = some e)(he:e.1=a) :
 ((es.map (lg k)).toArray.modify j fun q=>{ q with key:=.int k a,val:=v })=((es.set j (a,v,e.2.2)).map (lg k)).toArray:=by
 apply Array.ext'
 apply nq
 intro q
 simp only[EZ,Cm,kJ,rN]
 by_cases hq:j=q
 . subst hq
   obtain⟨hl,rfl⟩:=zd.1 h
   simp[hl]
 . simp[hq]
theorem Cs{α β:Type}(f:α->β):∀ (l:List α) (j:Nat),(l.map f).eraseIdx j=(l.eraseIdx j).map f
 | [],_=>rfl
 | _ :: _,0=>rfl
 | a :: l,j+1=>by simp[Cs f l j]
theorem Ty{es:List (Int×Value×Nat)}{j:Nat}:((es.map (lg k)).toArray.eraseIdxIfInBounds j)=((es.eraseIdx j).map (lg k)).toArray:=by
 by_cases h:j<es.length
 . rw[Array.eraseIdxIfInBounds,dif_pos (by simpa using h)]
   simp[Cs]
 . rw[Array.eraseIdxIfInBounds,dif_neg (by simpa using h),List.eraseIdx_of_length_le o_]
end
section
variable {γ:Type} {enc:γ->Value}
variable {r:Option Nat} {P:Program} {ops:Array Oper} {Q:Exit->Act->World->Prop} {rest l:List Oper} {n:Nat} {s s0:List (Nat×Value)} {ds:List Deferred} {w w0:World} {Nx:Value->World->Prop}
variable {d:Nat} {dd:Option Nat} {ty:TypeId} {pos:String} {af:Array Edge} {g:Option (Nat×Bool)} {x y m:Operand} {bs:List (World×List Nat)} {L L' : List gi} {t e kt:TypeId} {b sz by_:Nat} {k k' : IntKind} {mm:List (Int×γ)} {a:Int} {z v:Value} {c:γ}
theorem Hx{i:Nat}(hst:St bs L w)(hL:L[i]? = some (gR b k enc mm)):b<w.heap.size:=hst.lt b (qd hL (by simp[gR]))
theorem uj{es:List (Int×Value×Nat)}{clk:Nat}(h:w.heap[b]? = some (.map (es.map (lg k)).toArray clk)):(getObj b).run P w = .ok (.map (es.map (lg k)).toArray clk) w:=by
 simp[getObj,Sem.run,h]
theorem mkV{r' : Option Operand}(enc:γ->Value)(k:IntKind)(hg:gB ops n s g=true)(hr:r' = none)(hst:St bs L w)
 (K:∀ b w', w.heap.size<=b->gD [] w w' -> St bs (gR b k enc [] :: L) w' -> WL r P ops Q rest (Fr n ((d,.map (some b)) :: s) ds) w') :
 WL r P ops Q (⟨some d,.makeMap t r', ty,pos,af,g⟩ :: rest) (Fr n s ds) w:=by
 subst hr
 refine pv (v:=.map (some w.heap.size)) (w' := w.alloc (.map #[] 0)) hg rfl ?_ (K _ _ (zn _) (gD.alloc [] w _) ?_)
 . simp only[execOp,zN,Instr.makeMap]
   rfl
 . exact hst.qX (gD.alloc [] w _) (fun b hb=>by simp[gR]at hb;omega) (by simp[gR]) (fun b hb=>by simp[gR]at hb;simp;omega) ⟨[],0,heap_alloc_new w _,rfl,s_,s_⟩
section
variable [Inhabited γ]
theorem Yq(i:Nat)(hm:ev n s m = .map (some b))(hx:ev n s x = .int k a)(ht:P.underlying t=some (.map kt e))(hk:P.underlying kt=some (.int k'))(he:TI P e sz by_ z)(hz:enc default=z)(hst:St bs L w)(hL:L[i]? = some (gR b k enc mm)) :
 (execOp (ev n s) ⟨dd,.lookup t m x true,ty,pos,af,g⟩).run P w = .ok (.value (.tuple #[enc (fU mm a),.bool (ij mm a).isSome])) w:=by
 obtain⟨es,clk,h1,h2,h3,h4⟩:(gR b k enc mm).holds w:=hst.own _ (zh hL)
 rcases CV k k' a es mm 0 h2 with ⟨g1,g2,_⟩|⟨j,x', e', g1,_,_,g4,_⟩
 . have hf:=uA (P:=P) (w:=w) hk g2
   simp only[execOp,hm,hx,Instr.lookup,zj,run_underlying ht,ze,zm,uj h1,uy hk,hf,he.ux]
   simp[fU,g1,hz]
 . have hf:=uA (P:=P) (w:=w) hk g4
   simp only[execOp,hm,hx,Instr.lookup,zj,run_underlying ht,ze,zm,uj h1,uy hk,hf]
   simp[fU,g1]
theorem sx(i:Nat)(hm:ev n s m = .map (some b))(hx:ev n s x = .int k a)(ht:P.underlying t=some (.map kt e))(hk:P.underlying kt=some (.int k'))(he:TI P e sz by_ z)(hz:enc default=z)(hst:St bs L w)(hL:L[i]? = some (gR b k enc mm)) :
 (execOp (ev n s) ⟨dd,.lookup t m x false,ty,pos,af,g⟩).run P w = .ok (.value (enc (fU mm a))) w:=by
 obtain⟨es,clk,h1,h2,h3,h4⟩:(gR b k enc mm).holds w:=hst.own _ (zh hL)
 rcases CV k k' a es mm 0 h2 with ⟨g1,g2,_⟩|⟨j,x', e', g1,_,_,g4,_⟩
 . have hf:=uA (P:=P) (w:=w) hk g2
   simp only[execOp,hm,hx,Instr.lookup,zj,run_underlying ht,ze,zm,uj h1,uy hk,hf,he.ux]
   simp[fU,g1,hz]
 . have hf:=uA (P:=P) (w:=w) hk g4
   simp only[execOp,hm,hx,Instr.lookup,zj,run_underlying ht,ze,zm,uj h1,uy hk,hf]
   simp[fU,g1]
theorem aaW(i:Nat)(hg:gB ops n s g=true)(hm:ev n s m = .map (some b))(hx:ev n s x = .int k a)(ht:P.underlying t=some (.map kt e))(hk:P.underlying kt=some (.int k'))(he:TI P e sz by_ z)(hz:enc default=z)(hst:St bs L w)(hL:L[i]? = some (gR b k enc mm))
 (K:WL r P ops Q rest (Fr n ((d,.tuple #[enc (fU mm a),.bool (ij mm a).isSome]) :: s) ds) w):WL r P ops Q (⟨some d,.lookup t m x true,ty,pos,af,g⟩ :: rest) (Fr n s ds) w:=pv hg rfl (Yq i hm hx ht hk he hz hst hL) K
theorem Ah(i:Nat)(hg:gB ops n s g=true)(hm:ev n s m = .map (some b))(hx:ev n s x = .int k a)(ht:P.underlying t=some (.map kt e))(hk:P.underlying kt=some (.int k'))(he:TI P e sz by_ z)(hz:enc default=z)(hst:St bs L w)(hL:L[i]? = some (gR b k enc mm))
 (K:WL r P ops Q rest (Fr n ((d,enc (fU mm a)) :: s) ds) w):WL r P ops Q (⟨some d,.lookup t m x false,ty,pos,af,g⟩ :: rest) (Fr n s ds) w:=pv hg rfl (sx i hm hx ht hk he hz hst hL) K
end
theorem OF(i:Nat)(hm:ev n s m = .map (some b))(hx:ev n s x = .int k a)(hy:ev n s y=enc c)(ht:P.underlying t=some (.map kt e))(hk:P.underlying kt=some (.int k'))(hst:St bs L w)(hL:L[i]? = some (gR b k enc mm))(hL' : L.set i (gR b k enc (gm mm a c))=L') :
 ∃ w', (execOp (ev n s) ⟨dd,.mapUpdate t m x y,ty,pos,af,g⟩).run P w = .ok .skip w' /\ St bs L' w' /\ gD [b] w w' := by
 subst hL'
 obtain⟨es,clk,h1,h2,h3,h4⟩:(gR b k enc mm).holds w:=hst.own _ (zh hL)
 have hlt:=Hx hst hL
 rcases CV k k' a es mm 0 h2 with ⟨g1,g2,g3,_⟩|⟨j,x', e', g1,g2,g3,g4,g5,_⟩
 . have hf:=uA (P:=P) (w:=w) hk g2
   have hp:((es.map (lg k)).toArray.push ⟨.int k a,enc c,clk⟩)=((es++[(a,enc c,clk)]).map (lg k)).toArray:=by simp
   refine⟨w.putObj b (.map ((es++[(a,enc c,clk)]).map (lg k)).toArray (clk+1)),?_,hst.D4 hL rfl rfl (fun w' h=>⟨_,_,h,by rw[g3];simp[h2],?_,?_⟩) hlt,AZ w _⟩
   . simp only[execOp,hm,hx,hy,Instr.mapUpdate,zj,run_underlying ht,ze,zm,uj h1,uy hk,hf,hp,(CH h1).1]
   . rw[qL,zu]
     refine⟨h3,s_,fun q hq q' hq' e'' => ?_⟩
     simp at hq'
     subst hq' e''
     obtain⟨p,hp,hpe⟩:=jW.1 hq
     have:=h4 p hp
     omega
   . intro p hp
     rcases zq.1 hp with hp|hp
     . have:=h4 p hp;omega
     . simp at hp;subst hp;simp
 . have hf:=uA (P:=P) (w:=w) hk g4
   have hg1:((es.map (lg k)).toArray[j]?).map (·.key)=some (.int k a):=by simp[g2,g3]
   refine⟨w.putObj b (.map ((es.set j (a,enc c,e'.2.2)).map (lg k)).toArray clk),?_,hst.D4 hL rfl rfl (fun w' h=>⟨_,_,h,g5 c,?_,?_⟩) hlt,AZ w _⟩
   . simp only[execOp,hm,hx,hy,Instr.mapUpdate,zj,run_underlying ht,ze,zm,uj h1,uy hk,hf,jN,hg1,zT,Tx]
     rw[S2 g2 g3]
     simp only[(CH h1).1,zm,ze]
   . have:(es.set j (a,enc c,e'.2.2)).map (fun e=>e.2.2)=es.map (fun e=>e.2.2):=by
      rw[List.map_set]
      have hj:=(zd.1 g2).1
      apply nq
      intro q
      rw[rN]
      split
      . rename_i e''
        subst e''
        rw[if_pos (by simpa using hj),kJ,g2]
        rfl
      . rfl
     rw[this]
     exact h3
   . intro p hp
     rcases JB hp with hp|hp
     . exact h4 p hp
     . subst hp
       exact h4 e' (zh g2)
theorem EL(i:Nat)(hg:gB ops n s g=true)(hm:ev n s m = .map (some b))(hx:ev n s x = .int k a)(hy:ev n s y=enc c)(ht:P.underlying t=some (.map kt e))(hk:P.underlying kt=some (.int k'))(hst:St bs L w)(hL:L[i]? = some (gR b k enc mm))(hL' : L.set i (gR b k enc (gm mm a c))=L')
 (K:∀ w', St bs L' w' -> WL r P ops Q rest (Fr n s ds) w'):WL r P ops Q (⟨none,.mapUpdate t m x y,ty,pos,af,g⟩ :: rest) (Fr n s ds) w:=by
 obtain⟨w', h1,h2,_⟩:=OF (dd:=none) (ty:=ty) (pos:=pos) (af:=af) (g:=g) i hm hx hy ht hk hst hL hL'
 exact xJ hg rfl h1 (K w' h2)
theorem wj(i:Nat)(hg:gB ops n s g=true)(hm:ev n s m = .map (some b))(hx:ev n s x = .int k a)(hy:ev n s y=enc c)(ht:P.underlying t=some (.map kt e))(hk:P.underlying kt=some (.int k'))(hst:St bs L w)(hL:L[i]? = some (gR b k enc mm))(hL' : L.set i (gR b k enc (gm mm a c))=L')
 (K:∀ w', St bs L' w' -> Nx undef w'):lG P ops Q n ds s0 l ⟨none,.mapUpdate t m x y,ty,pos,af,g⟩ s Nx w:=by
 obtain⟨w', h1,h2,_⟩:=OF (dd:=none) (ty:=ty) (pos:=pos) (af:=af) (g:=g) i hm hx hy ht hk hst hL hL'
 exact JY hg rfl h1 (K w' h2)
theorem Pd{t' : TypeId}(i:Nat)(hm:ev n s m = .map (some b))(hx:ev n s x = .int k a)(ht:P.underlying t=some (.map kt e))(hk:P.underlying kt=some (.int k'))(hst:St bs L w)(hL:L[i]? = some (gR b k enc mm))(hL' : L.set i (gR b k enc (gK mm a))=L') :
 ∃ w', (execOp (ev n s) ⟨dd,.call ⟨.builtin .delete,#[m,x],#[t,t']⟩,ty,pos,af,g⟩).run P w = .ok (.value (.tuple #[])) w' /\ St bs L' w' /\ gD [b] w w' := by
 subst hL'
 obtain⟨es,clk,h1,h2,h3,h4⟩:(gR b k enc mm).holds w:=hst.own _ (zh hL)
 have hlt:=Hx hst hL
 rcases CV k k' a es mm 0 h2 with ⟨g1,g2,_,g3⟩|⟨j,x', e', g1,g2,g3,g4,_,g5⟩
 . have hf:=uA (P:=P) (w:=w) hk g2
   refine⟨w.putObj b (.map (es.map (lg k)).toArray clk),?_,hst.D4 hL rfl rfl (fun w' h=>⟨_,_,h,by rw[g3];exact h2,h3,h4⟩) hlt,AZ w _⟩
   simp only[execOp,resolve,invoke,builtin,zj,zm,ze,Fb,z1,wQ,hm,hx]
   simp only[Builtin.delete_]
   simp only[qH,List.getElem?_cons_zero,List.getElem?_cons_succ,zj,run_underlying ht,ze,uj h1,uy hk,hf,(CH h1).1,zm]
 . have hf:=uA (P:=P) (w:=w) hk g4
   refine⟨w.putObj b (.map ((es.eraseIdx j).map (lg k)).toArray clk),?_,hst.D4 hL rfl rfl (fun w' h=>⟨_,_,h,g5,h3.sublist ((Jo _ _).map _),fun p hp=>h4 p ((Jo _ _).subset hp)⟩) hlt,AZ w _⟩
   simp only[execOp,resolve,invoke,builtin,zj,zm,ze,Fb,z1,wQ,hm,hx]
   simp only[Builtin.delete_]
   simp only[qH,List.getElem?_cons_zero,List.getElem?_cons_succ,zj,run_underlying ht,ze,uj h1,uy hk,hf,jN]
   rw[Ty]
   simp only[(CH h1).1,zm,ze]
theorem J4{t' : TypeId}(i:Nat)(hg:gB ops n s g=true)(hm:ev n s m = .map (some b))(hx:ev n s x = .int k a)(ht:P.underlying t=some (.map kt e))(hk:P.underlying kt=some (.int k'))(hst:St bs L w)(hL:L[i]? = some (gR b k enc mm))(hL' : L.set i (gR b k enc (gK mm a))=L')
 (K:∀ w', St bs L' w' -> WL r P ops Q rest (Fr n (jy dd (.tuple #[]) s) ds) w'):WL r P ops Q (⟨dd,.call ⟨.builtin .delete,#[m,x],#[t,t']⟩,ty,pos,af,g⟩ :: rest) (Fr n s ds) w:=by
 obtain⟨w', h1,h2,_⟩:=Pd (dd:=dd) (ty:=ty) (pos:=pos) (af:=af) (g:=g) (t' := t') i hm hx ht hk hst hL hL'
 exact H8 hg rfl h1 (by rw[uz];exact K w' h2)
theorem Pc{t' : TypeId}(i:Nat)(hg:gB ops n s g=true)(hm:ev n s m = .map (some b))(hx:ev n s x = .int k a)(ht:P.underlying t=some (.map kt e))(hk:P.underlying kt=some (.int k'))(hst:St bs L w)(hL:L[i]? = some (gR b k enc mm))(hL' : L.set i (gR b k enc (gK mm a))=L')
 (K:∀ w', St bs L' w' -> Nx (.tuple #[]) w'):lG P ops Q n ds s0 l ⟨dd,.call ⟨.builtin .delete,#[m,x],#[t,t']⟩,ty,pos,af,g⟩ s Nx w:=by
 obtain⟨w', h1,h2,_⟩:=Pd (dd:=dd) (ty:=ty) (pos:=pos) (af:=af) (g:=g) (t' := t') i hm hx ht hk hst hL hL'
 exact Aw hg rfl h1 (K w' h2)
end
end Go.Sx
namespace Go.Sx
open Go
theorem Hr{xs:List Nd}{q:Nat}:∀ {c:Cx} {j:Nat} {L:List Nat},At xs c j L q->Out xs q (kX c L)->∀ (k v:Nat),(iY c j)[k]? = some v ->
 (k<c.length->(jk xs v).2=true/\(iY c j)[k+1]? = some (fM xs v).up)/\(k=c.length->jk xs v=(0,false))
 | [],j,L,h,ho,k,v,hk=>by
  cases k with
  | succ k=>simp[iY]at hk
  | zero =>
   simp[iY]at hk
   subst hk
   exact⟨fun h=>absurd h s_,fun _=>h.stop ho⟩
 | (d,g,s) :: c,j,L,h,ho,k,v,hk=>by
  obtain⟨h1,h2,h3⟩:=h.step
  cases k with
  | zero =>
   simp[iY]at hk
   subst hk
   exact⟨fun _=>⟨by rw[h1],by simp[iY,h2]⟩,fun h=>absurd h s_⟩
  | succ k =>
   have hk' : (iY c g)[k]? = some v:=by simpa[iY]using hk
   have:=Hr h3 ho k v hk'
   refine⟨fun hl=>?_,fun hl=>this.2 (by simpa using hl)⟩
   obtain⟨a,b⟩:=this.1 (by simpa using hl)
   exact⟨a,by simpa[iY]using b⟩
theorem jo.PE{xs0 xs:List Nd}{T0 t s:Tr}{O:Cx}{q g:Nat}{d:Bool}(h:jo xs0 xs T0 O (lT d t g s) q)(hf:(fM xs g).flip=false):jo xs0 xs T0 ((d,g,s) :: O) t q :=
 ⟨h.rep,h.perm,h.ord,h.kl,h.other,fun f hm=>by
  rcases zb.1 hm with rfl|hm
  . exact hf
  . exact h.flip f hm⟩
theorem Im{i:Nat}{t:Tr}{w:List Nat}(h:Way i t w):∃ l r w', t = .nd l (w.headD 0) r/\w=w.headD 0 :: w' := by
 cases t with
 | nil=>exact h.elim
 | nd l j r =>
  rcases h with ⟨rfl,rfl⟩|⟨w', rfl,_⟩
  . exact⟨l,r,[],rfl,rfl⟩
  . exact⟨l,r,w', rfl,rfl⟩
theorem UD{xs0 xs:List Nd}{T0 U:Tr}{O:Cx}{q i j:Nat}{w:List Nat}(h:jo xs0 xs T0 O U q)(hn:T0.mem.Nodup)(hw:Way i U (j :: w)) :
 (w=[]->j=i/\∃ a b,jo xs0 (jK xs j) T0 O (.nd a i b) q/\(fM (jK xs j) i).flip=false)/\(w≠[]->∃ O' U', jo xs0 (jK xs j) T0 O' U' q/\Way i U' w):=by
 obtain⟨l,r,w', e1,e2⟩:=Im hw
 simp only[List.headD_cons]at e1 e2
 subst e1
 obtain⟨l', r', hlr,hm,hf⟩:=h.push hn
 refine⟨fun e=>?_,fun e=>?_⟩
 . rcases hw with ⟨rfl,_⟩|⟨w2,e3,hw⟩
   . exact⟨rfl,l', r', hm,hf⟩
   . cases e3
     subst e
     rcases hw with hw|hw<;>(obtain⟨_,_,_,_,e4⟩:=Im hw;cases e4)
 . rcases hw with ⟨_,e3⟩|⟨w2,e3,hw⟩
   . cases e3
     exact absurd rfl e
   . cases e3
     have c0:Way i l' w\/Way i r' w:=by
      rcases hlr with ⟨rfl,rfl⟩|⟨rfl,rfl⟩
      . exact hw
      . exact hw.symm
     rcases c0 with c0|c0
     . exact⟨(true,j,r') :: O,l', jo.PE (d:=true) hm hf,c0⟩
     . exact⟨(false,j,l') :: O,r', jo.PE (d:=false) hm hf,c0⟩
theorem fZ.push{xs:List Nd}(h:fZ xs){i:Nat}(hi:i<xs.length):fZ (jK xs i)/\(jK xs i).length=xs.length:=by
 unfold jK
 split
 . simp only
   obtain⟨y0,e0⟩:∃ y,y=fR xs i (fun x=>{ x with flip:=false }):=⟨_,rfl⟩
   have h0:fZ y0:=e0▸h.iE hi fun x a b c d e=>⟨a,b,c,d,e⟩
   have l0:y0.length=xs.length:=by rw[e0,gM]
   rw[<-e0]
   obtain⟨y1,e1⟩:∃ y,y=fR y0 i (fun x=>{ x with k0:=(fM y0 i).k1 }):=⟨_,rfl⟩
   have h1:fZ y1:=e1▸h0.iE o_ fun x a b c d e=>⟨h0.k1 i o_,b,c,d,e⟩
   have l1:y1.length=xs.length:=by rw[e1,gM,l0]
   rw[<-e1]
   obtain⟨y2,e2⟩:∃ y,y=fR y1 i (fun x=>{ x with k1:=(fM y0 i).k0 }):=⟨_,rfl⟩
   have hk:(fM y0 i).k0<y1.length:=by
    have:=h0.k0 i o_
    omega
   have h2:fZ y2:=by
    rw[e2]
    exact h1.iE o_ fun x a b c d e=>⟨a,hk,c,d,e⟩
   have l2:y2.length=xs.length:=by rw[e2,gM,l1]
   rw[<-e2]
   obtain⟨y3,e3⟩:∃ y,y=(if (fM y2 i).k0=0 then y2 else fR y2 (fM y2 i).k0 (fun x=>{ x with flip := !(fM y2 (fM y2 i).k0).flip })):=⟨_,rfl⟩
   have h3:fZ y3/\y3.length=xs.length:=by
    rw[e3]
    split
    . exact⟨h2,l2⟩
    . exact⟨h2.iE (h2.k0 i o_) fun x a b c d e=>⟨a,b,c,d,e⟩,by rw[gM,l2]⟩
   rw[<-e3]
   split
   . exact h3
   . exact⟨h3.1.iE (by have:=h2.k1 i o_;omega) fun x a b c d e=>⟨a,b,c,d,e⟩,by rw[gM];exact h3.2⟩
 . exact⟨h,rfl⟩
theorem jo.out{xs0 xs:List Nd}{T0 U:Tr}{O:Cx}{q:Nat}(h:jo xs0 xs T0 O U q)(hq:Out xs0 q T0.mem):Out xs q (kX O U.mem):=by
 have hm:∀ j,j∈kX O U.mem↔j∈T0.mem:=fun j=>by rw[<-nQ];exact h.perm.mem_iff
 rcases hq with e|⟨h1,h2,h3⟩
 . exact .inl e
 . have e:=h.other q h3
   refine .inr ⟨fun k=>h1 ?_,fun k=>h2 ?_,fun k=>h3 ((hm _).1 k)⟩
   . have:=(hm _).1 k
     simpa only[iW,e]using this
   . have:=(hm _).1 k
     simpa only[iW,e]using this
theorem jo.sides{xs0 xs:List Nd}{T0 a b:Tr}{O:Cx}{q i:Nat}(h:jo xs0 xs T0 O (.nd a i b) q)(hn:T0.mem.Nodup)(hq:Out xs0 q T0.mem) :
 (O=[]/\jk xs i=(0,false))\/(∃ d p s,O=[(d,p,s)]/\jk xs i=(sd d,true)/\(fM xs i).up=p/\jk xs p=(0,false)) \/
 (∃ d p s d' g s' c,O=(d,p,s) :: (d', g,s') :: c/\jk xs i=(sd d,true)/\(fM xs i).up=p/\jk xs p=(sd d', true)):=by
 have ha:=At.start h.rep (h.perm.nodup_iff.2 hn)
 have ho:=h.out hq
 match O,ha,ho with
 | [],ha,ho=>exact .inl ⟨rfl,ha.stop ho⟩
 | [(d,p,s)],ha,ho =>
  obtain⟨h1,h2,h3⟩:=ha.step
  exact .inr (.inl ⟨d,p,s,rfl,h1,h2,h3.stop ho⟩)
 | (d,p,s) :: (d', g,s') :: c,ha,ho =>
  obtain⟨h1,h2,h3⟩:=ha.step
  exact .inr (.inr ⟨d,p,s,d', g,s', c,rfl,h1,h2,h3.step.1⟩)
theorem X8{d d' : Bool}(h:sd d=sd d'):d=d' := by cases d<;>cases d' <;> first|rfl|cases h
end Go.Sx
namespace Go.Sx
open Go
section
variable {w:World} {bs:List (World×List Nat)} {L:List gi} {R R' : gi} {i j:Nat} {k:IntKind} {v:Value} {e:TypeId} {ys:List Int}
theorem Te:∀ {L:List gi} {i j:Nat},(iR L).Nodup->L[i]? = some R->L[j]? = some R' -> i≠j->∀ b∈R.gU,b∉R'.gU:=by
 intro L
 induction L with
 | nil=>intro i j _ h;simp at h
 | cons Q L ih =>
  intro i j hn hi hj hne b hb
  rw[nN,zu]at hn
  cases i with
  | zero =>
   simp at hi;subst hi
   cases j with
   | zero=>exact absurd rfl hne
   | succ j=>exact fun hb' => hn.2.2 b hb b (qd (i:=j) (by simpa using hj) hb') rfl
  | succ i =>
   cases j with
   | zero=>simp at hj;subst hj;exact fun hb' => hn.2.2 b hb' b (qd (i:=i) (by simpa using hi) hb) rfl
   | succ j=>exact ih hn.2.1 (by simpa using hi) (by simpa using hj) o_ b hb
theorem St.Vk(h:St bs L w)(hi:L[i]? = some (iA k v e ys))(hk:∀ y∈ys,iC k y)(hj:L[j]? = some R)(hne:i≠j):Ints k (fun b=>b∉R.gU) w v ys:=by
 have hown:w.ownsRow 0 e 1 v ys.length (ys.map (.int k)):=h.own _ (zh hi)
 rcases hown.2 with ⟨rfl,h0⟩|⟨g', cap,cur,rfl,_,hg,h1,h2,_⟩
 . have:ys=[]:=vg h0
   subst this
   exact Sl.nil _ _ _ _
 . refine⟨_,cap,rfl,h1,h2,fun q y hq=>⟨g', 0,[.int k y],rfl,Te h.sep hi hj hne g' (by simp[row,Value.ownBlock]),rfl,⟨rfl,hk y (zh hq)⟩,fun p u hp=>?_⟩⟩
   cases p with
   | zero =>
    simp at hp
    subst hp
    have:=hown.cells (g:=g') rfl q (.int k y) (by simp[hq])
    rw[Addr.add_lit]at this
    simpa using this
   | succ p=>simp at hp
end
end Go.Sx
namespace Go.Sx
open Go
theorem KM{α:Type}{l:List α}{i:Nat}{x:α}(h:l[i]? = some x):l.take (i+1)=l.take i++[x]:=by rw[Ay,h];rfl
theorem fZ.rotate{xs:List Nd}(h:fZ xs){i:Nat}(hi:i<xs.length):fZ (iG xs i)/\(iG xs i).length=xs.length:=by
 have hp:=h.up i hi
 have hg:=h.up _ hp
 unfold iG
 simp only
 obtain⟨y1,e1⟩:∃ y,y=(if (jk xs (fM xs i).up).2=true then iP xs (fM xs (fM xs i).up).up (jk xs (fM xs i).up).1 i else fR xs i (fun x=>{ x with up:=(fM xs (fM xs i).up).up })):=⟨_,rfl⟩
 have h1:fZ y1/\y1.length=xs.length:=by
  rw[e1]
  split
  . exact⟨h.kB hg hi,Cu _ _ _ _⟩
  . exact⟨h.iE hi fun x a b c d e=>⟨a,b,hg,d,e⟩,gM⟩
 rw[<-e1]
 obtain⟨k,ek⟩:∃ k,k=(if (jk xs i).1=0 then(fM y1 i).k1 else(fM y1 i).k0):=⟨_,rfl⟩
 have hk:k<y1.length:=by
  rw[ek]
  split
  . exact h1.1.k1 i o_
  . exact h1.1.k0 i o_
 rw[<-ek]
 have h2:fZ (iP y1 (fM xs i).up (jk xs i).1 k):=h1.1.kB o_ hk
 have l2:(iP y1 (fM xs i).up (jk xs i).1 k).length=xs.length:=by rw[Cu];exact h1.2
 have h3:fZ (iP (iP y1 (fM xs i).up (jk xs i).1 k) i (1-(jk xs i).1) (fM xs i).up):=h2.kB o_ o_
 have l3:(iP (iP y1 (fM xs i).up (jk xs i).1 k) i (1-(jk xs i).1) (fM xs i).up).length=xs.length:=by rw[Cu];exact l2
 exact⟨(h3.lB o_).lB (by rw[Ct];omega),by rw[Ct,Ct];exact l3⟩
theorem AB{xs:List Nd}(h:fZ xs){i:Nat}(hi:i<xs.length):(iG xs i).length=xs.length:=(h.rotate hi).2
def kW(xs:List Nd)(P:List Nat)(k:Nat):List Nd:=(P.reverse.take k).foldl jK xs
theorem K4(xs:List Nd)(P:List Nat):kW xs P 0=xs:=by simp[kW]
theorem K7{xs:List Nd}{P:List Nat}{k j:Nat}(h:P.reverse[k]? = some j):kW xs P (k+1)=jK (kW xs P k) j:=by
 unfold kW
 rw[KM h,List.foldl_append]
 rfl
theorem fZ.kW{xs:List Nd}(h:fZ xs){P:List Nat}(hP:∀ j∈P,j<xs.length):∀ k,fZ (Go.Sx.kW xs P k)/\(Go.Sx.kW xs P k).length=xs.length:=by
 intro k
 induction k with
 | zero=>rw[K4];exact⟨h,rfl⟩
 | succ k ih =>
  cases hk:P.reverse[k]? with
  | none =>
   have:Go.Sx.kW xs P (k+1)=Go.Sx.kW xs P k:=by
    unfold Go.Sx.kW
    rw[Ay,hk]
    simp
   rw[this]
   exact ih
  | some j =>
   rw[K7 hk]
   have hj:j∈P:=by simpa using zh hk
   obtain⟨a,b⟩:=ih.1.push (i:=j) (by rw[ih.2];exact hP j hj)
   exact⟨a,by rw[b,ih.2]⟩
theorem Wg{xs0:List Nd}{T0:Tr}{q i:Nat}(hn:T0.mem.Nodup):∀ (w:List Nat) (xs:List Nd) (O:Cx) (U:Tr),jo xs0 xs T0 O U q->Way i U w->∃ O' a b,jo xs0 (w.foldl jK xs) T0 O' (.nd a i b) q/\(fM (w.foldl jK xs) i).flip=false:=by
 intro w
 induction w with
 | nil =>
  intro xs O U h hw
  obtain⟨_,_,_,_,e⟩:=Im hw
  cases e
 | cons j w ih =>
  intro xs O U h hw
  obtain⟨h1,h2⟩:=UD h hn hw
  by_cases hw0:w=[]
  . obtain⟨rfl,a,b,hm,hf⟩:=h1 hw0
    subst hw0
    exact⟨O,a,b,hm,hf⟩
  . obtain⟨O', U', hm,hw'⟩:=h2 hw0
    exact ih _ _ _ hm hw'
theorem U8{xs:List Nd}{c:Cx}{a b:Tr}{i q:Nat}(hR:gQ xs (jP c (.nd a i b)) q)(hn:(jP c (.nd a i b)).mem.Nodup){k:Nat}(hk:k=(iY c i).length):∃ O a' b', jo xs (kW xs (iY c i) k) (jP c (.nd a i b)) O (.nd a' i b') q/\(fM (kW xs (iY c i) k) i).flip=false:=by
 have:=Wg hn _ xs [] _ (jo.start hR) (Xt c a i b)
 unfold kW
 rw[rE (by simp[hk])]
 exact this
theorem V8{xs:List Nd}{c:Cx}{a b:Tr}{i q:Nat}(hR:gQ xs (jP c (.nd a i b)) q):∀ j∈iY c i,j<xs.length:=by
 intro j hj
 refine(hR.oK j ?_).2
 rw[nQ]
 refine AK.2 ?_
 rcases zb.1 hj with rfl|hj
 . exact .inl (by simp[Tr.mem])
 . obtain⟨f,hf,rfl⟩:=jW.1 hj
   exact .inr (Gj hf)
theorem MW:∀ (c:Cx) (L:List Nat),c.length+L.length<=(kX c L).length
 | [],L=>by simp[kX]
 | (d,g,s) :: c,L=>by
  have:=MW c (jM d L g s)
  rw[kX]
  cases d<;>simp only[jM,cond_true,cond_false,zw,zp]at * <;> omega
theorem Uv{c:Cx}{a b:Tr}{i:Nat}:(iY c i).length=c.length+1/\c.length+1<=(jP c (.nd a i b)).mem.length:=by
 refine⟨by simp[iY],?_⟩
 rw[nQ]
 have:=MW c (Tr.nd a i b).mem
 simp only[Tr.mem,zw,zp]at *
 omega
section
variable {xs:List Nd} {c:Cx} {q j k v s:Nat} {L:List Nat} {i:Nat}
theorem TP(h:At xs c i L q)(ho:Out xs q (kX c L))(hk:(iY c i)[k]? = some v)(hs:jk xs v=(s,false)):k=c.length:=by
 have h1:=Hr h ho k v hk
 have h2:=(zd.1 hk).1
 simp only[iY,zp,zr]at h2
 by_cases h3:k<c.length
 . have:=(h1.1 h3).1
   rw[hs]at this
   cases this
 . omega
theorem MF(h:At xs c i L q)(ho:Out xs q (kX c L))(hk:(iY c i)[k]? = some v)(hs:jk xs v=(s,true)):k<c.length/\(iY c i)[k+1]? = some (fM xs v).up:=by
 have h1:=Hr h ho k v hk
 have h2:=(zd.1 hk).1
 simp only[iY,zp,zr]at h2
 by_cases h3:k<c.length
 . exact⟨h3,(h1.1 h3).2⟩
 . have:=h1.2 o_
   rw[hs]at this
   cases this
end
abbrev gx(P:List Nat):List Int:=P.map (fun(x:Nat)=>(x:Int))
theorem Gg{P:List Nat}{k j:Nat}(h:P[k]? = some j):gx (P.take k)++[(j:Int)]=gx (P.take (k+1)):=by
 rw[KM h,gx,gx,qL]
 rfl
theorem C5{m:Nat}{P:List Nat}(h:∀ j∈P,j<m)(hm:m<=1000001):∀ y∈gx P,iC .i64 y:=by
 intro y hy
 obtain⟨j,hj,rfl⟩:=jW.1 hy
 have:=h j hj
 show (-9223372036854775808:Int)<=_/\_<=(9223372036854775807:Int)
 omega
theorem SV{P:List Nat}{k:Nat}{x:Int}(hk:k<(gx P).length)(h:(gx P)[(gx P).length-1-k]? = some x):∃ j,P.reverse[k]? = some j/\x=(j:Int):=by
 simp only[gx,zr,kJ]at h hk
 rw[List.getElem?_reverse hk]
 cases h1:P[P.length-1-k]? with
 | none=>rw[h1]at h;cases h
 | some j =>
  rw[h1]at h
  simp at h
  exact⟨j,rfl,h.symm⟩
end Go.Sx
namespace Go.Sx
open Go
instance:Inhabited (Value×List Nat):=⟨(.slice none 0 0,[])⟩
abbrev IM:=List (Int×(Value×List Nat))
def iM(e:TypeId)(m:IM):gi:=gG (m.map fun p=>iA .i64 p.2.1 e (gx p.2.2))
theorem Lx{γ:Type}(m:List (Int×γ))(a:Int)(x:γ):(gm m a x).Perm ((a,x) :: gK m a):=by
 induction m with
 | nil=>exact List.Perm.refl _
 | cons p m ih =>
  obtain⟨c,y⟩:=p
  unfold gm gK
  split
  . rename_i h
    exact List.Perm.refl _
  . rename_i h
    exact(List.Perm.cons _ ih).trans (List.Perm.swap _ _ _)
theorem LP{γ:Type}{m:List (Int×γ)}{a:Int}{x:γ}(h:ij m a=some x):m.Perm ((a,x) :: gK m a):=by
 induction m with
 | nil=>simp[ij]at h
 | cons p m ih =>
  obtain⟨c,y⟩:=p
  unfold ij at h
  unfold gK
  split at h
  . rename_i hc
    rw[if_pos hc]
    cases h
    rw[hc]
  . rename_i hc
    rw[if_neg hc]
    exact(List.Perm.cons _ (ih h)).trans (List.Perm.swap _ _ _)
theorem Tl{γ:Type}{m:List (Int×γ)}{a:Int}(h:ij m a=none):gK m a=m:=by
 induction m with
 | nil=>rfl
 | cons p m ih =>
  obtain⟨c,y⟩:=p
  unfold ij at h
  unfold gK
  split at h
  . cases h
  . rename_i hc
    rw[if_neg hc,ih h]
section
variable {bs:List (World×List Nat)} {L:List gi} {w:World} {e:TypeId} {m:IM} {a:Int}
theorem St.vW{m2:IM}(h:St bs (iM e m :: L) w)(hp:m.Perm m2):St bs (iM e m2 :: L) w :=
 St.pack _ _ ((St.unpack h).perm ((hp.map _).append_right _))
theorem St.Nu{p:Int×(Value×List Nat)}(h:St bs (iM e (p :: m) :: L) w):St bs (iA .i64 p.2.1 e (gx p.2.2) :: iM e m :: L) w:=by
 have h1:St bs (([iA .i64 p.2.1 e (gx p.2.2)]++m.map fun p=>iA .i64 p.2.1 e (gx p.2.2))++L) w:=St.unpack h
 rw[mT]at h1
 have h2:=h1.perm (L' := (m.map fun p=>iA .i64 p.2.1 e (gx p.2.2))++([iA .i64 p.2.1 e (gx p.2.2)]++L)) (by
  rw[<-mT,<-mT]
  exact List.Perm.append_right _ rz)
 exact(St.pack _ _ h2).swap
theorem St.HK{p:Int×(Value×List Nat)}(h:St bs (iA .i64 p.2.1 e (gx p.2.2) :: iM e m :: L) w):St bs (iM e (p :: m) :: L) w:=by
 have h1:St bs ((m.map fun p=>iA .i64 p.2.1 e (gx p.2.2))++(iA .i64 p.2.1 e (gx p.2.2) :: L)) w:=St.unpack h.swap
 refine St.pack _ _ (h1.perm ?_)
 show List.Perm _ (iA .i64 p.2.1 e (gx p.2.2) :: ((m.map fun p=>iA .i64 p.2.1 e (gx p.2.2))++L))
 exact u7
theorem St.W4(a:Int)(h:St bs (iM e m :: L) w):St bs (iA .i64 (fU m a).1 e (gx (fU m a).2) :: iM e (gK m a) :: L) w:=by
 unfold fU
 cases hm:ij m a with
 | none =>
  rw[Tl hm]
  exact St.Ot h e 1
 | some x=>exact(h.vW (LP hm)).Nu
theorem St.YK{v:Value}{xs:List Nat}(h:St bs (iA .i64 v e (gx xs) :: iM e (gK m a) :: L) w):St bs (iM e (gm m a (v,xs)) :: L) w :=
 (St.HK (p:=(a,(v,xs))) h).vW (Lx m a (v,xs)).symm
theorem St.H6(h:St bs L w):St bs (iM e [] :: L) w:=St.pack [] L h
end
theorem CY(ds:List Nat)(i:Nat):gx (ds++[i])=gx ds++[(i:Int)]:=by simp[gx]
theorem F7(ds:List Nat)(i:Nat):(gx ds).eraseIdx i=gx (ds.eraseIdx i):=by
 rw[gx,ES,ES]
 simp[gx]
section
variable {P:Program} {ops:Array Oper} {Q:Exit->Act->World->Prop} {l:List Oper} {n:Nat} {s s0:List (Nat×Value)} {ds:List Deferred} {w:World} {Nx:Value->World->Prop}
variable {dd:Option Nat} {ty t e:TypeId} {pos:String} {af:Array Edge} {g:Option (Nat×Bool)} {x y:Operand} {by_:Nat} {z v u:Value} {k:IntKind} {ys zs:List Int} {bs:List (World×List Nat)} {L:List gi}
theorem DZ(i:Nat)(hg:gB ops n s g=true)(hx:ev n s x=v)(hy:ev n s y=u)(ht:P.underlying t=some (.slice e))(hi:TI P e 1 by_ z)(hzs:z.cells.size=1)
 (hst:St bs L w) (hL:L[i]? = some (iA k v e ys)) (hs:Src w u 1 zs.length (zs.map (.int k))) (hb:(ys.length+zs.length)*by_<=140737488355328) (h63:ys.length+zs.length<=9223372036854775807)
 (K:∀ v' w', St bs (L.set i (iA k v' e (ys++zs))) w' -> Nx v' w'):lG P ops Q n ds s0 l ⟨dd,.call ⟨.builtin .append,#[x,y],#[t,t]⟩,ty,pos,af,g⟩ s Nx w:=by
 have hown:w.ownsRow 0 e 1 v ys.length (ys.map (.int k)):=hst.own _ (zh hL)
 obtain⟨v', w', hr,h2,h3,h4,_⟩:=Kl (ty:=ty) ht hi hzs d_ hown hs (MI k zs) hb (by simp only[maxLen];omega)
 refine Aw hg rfl (v:=v') (w' := w') (by simp only[execOp,resolve,invoke,builtin,zj,zm,ze,Fb,z1,wQ,hx,hy,hr]) (K v' w' ?_)
 have h5:w'.ownsRow 0 e 1 v' (ys++zs).length ((ys++zs).map (.int k)):=by simpa using h2
 refine hst.iE hL h3 (fun b hb' => ?_) ?_ (fun b hb' => ?_) h5
 . simp only[row,EX]at hb'
   rcases(h4 b hb').1 with h|h
   . exact .inl (by simp[row,h])
   . exact .inr h
 . show v'.ownBlock.toList.Nodup
   cases v'.ownBlock<;>simp
 . simp only[row,EX]at hb'
   exact(h4 b hb').2
end
end Go.Sx
namespace Go.Sx
open Go
def ic(n c:Nat):Nat:=if c+1=n then 0 else c+1
def dst(n a b:Nat):Nat:=if a<=b then b-a else b+n-a
theorem Ia{n c:Nat}(h:c<n):ic n c<n:=by unfold ic;split<;>omega
theorem Wh{n c:Nat}(h:c<n):(c+1)%n=ic n c:=by
 unfold ic
 split
 . rename_i e;rw[e,Nat.mod_self]
 . exact Nat.mod_eq_of_lt o_
theorem DI{n a b:Nat}(ha:a<n)(hb:b<n):dst n a b<n:=by unfold dst;split<;>omega
theorem s4(n a:Nat):dst n a a=0:=by simp[dst]
theorem C6{n a b:Nat}(ha:a<n)(hb:b<n):dst n a b=0↔a=b:=by unfold dst;split<;>omega
theorem XU{n a c:Nat}(ha:a<n)(hc:c<n)(h:ic n c≠a):dst n a (ic n c)=dst n a c+1:=by
 unfold dst ic at *
 split at h<;>split<;>(try split)<;>(try split)<;>omega
theorem CC{n z c:Nat}(hz:z<n)(hc:c<n)(h:c≠z):dst n (ic n c) z+1=dst n c z:=by
 unfold dst ic at *
 (repeat' split)<;>omega
theorem Du{n a b c:Nat}(ha:a<n)(hb:b<n)(hc:c<n)(h:dst n a b=dst n a c):b=c:=by
 unfold dst at h
 (repeat' split at h)<;>omega
abbrev qz(n a b q:Nat):Prop:=dst n a q<dst n a b
def qJ(n:Nat)(cs:List Nat)(hm:Nat->Nat):Prop:=∀ c i q,c<n->q<n->fM cs c=i+1->qz n (hm i) c q->fM cs q≠0
def th(n:Nat)(cs:List Nat)(ok:Nat->Bool):Nat->Nat->Nat×Bool
 | 0,_=>(0,false)
 | f+1,c=>if fM cs c=0 then(c,false)else if ok (fM cs c-1)then(c,true)else th n cs ok f (ic n c)
theorem KN{n:Nat}{cs:List Nat}{ok:Nat->Bool}{z:Nat}(hz:z<n)(h0:fM cs z=0):∀ (f c:Nat),c<n->dst n c z<f -> 
 ∃ r,r<n/\dst n c r<=dst n c z/\(∀ q,q<n->dst n c q<dst n c r->fM cs q≠0/\ok (fM cs q-1)=false)/\((th n cs ok f c=(r,false)/\fM cs r=0)\/(th n cs ok f c=(r,true)/\fM cs r≠0/\ok (fM cs r-1)=true)):=by
 intro f
 induction f with
 | zero=>intro c _ h;omega
 | succ f ih =>
  intro c hc hf
  unfold th
  by_cases h1:fM cs c=0
  . exact⟨c,hc,by rw[s4];omega,fun q _ hq=>by rw[s4]at hq;omega,.inl ⟨by rw[if_pos h1],h1⟩⟩
  . rw[if_neg h1]
    by_cases h2:ok (fM cs c-1)=true
    . exact⟨c,hc,by rw[s4];omega,fun q _ hq=>by rw[s4]at hq;omega,.inr ⟨by rw[if_pos h2],h1,h2⟩⟩
    . rw[if_neg h2]
      have hcz:c≠z:=fun e=>h1 (by rw[e];exact h0)
      have hs:=CC hz hc hcz
      obtain⟨r,hr,hd,hq,hres⟩:=ih (ic n c) (Ia hc) o_
      have hrc:c≠r:=by
       intro e
       subst e
       have e1:dst n (ic n c) c=n-1:=by unfold dst ic;(repeat' split)<;>omega
       have e2:dst n (ic n c) z<n-1:=by
        have:=DI hc hz
        omega
       omega
      have hs2:=CC hr hc hrc
      refine⟨r,hr,o_,fun q hqn hqd=>?_,hres⟩
      by_cases hqc:c=q
      . subst hqc
        exact⟨h1,by simpa using h2⟩
      . have hs3:=CC hqn hc hqc
        exact hq q hqn o_
theorem RQ{n:Nat}{cs:List Nat}{ok:Nat->Bool}{hm:Nat->Nat}{p i:Nat}(hP:qJ n cs hm)(hp:p<n)(hi:fM cs p=i+1)(hh:hm i<n)(hok:ok i=true)(huniq:∀ q j,q<n->fM cs q=j+1->ok j=true->q=p)(hz:∃ z,z<n/\fM cs z=0):th n cs ok n (hm i)=(p,true):=by
 obtain⟨z,hzn,hz0⟩:=hz
 obtain⟨r,hr,hd,hq,h⟩:=KN (ok:=ok) hzn hz0 n (hm i) hh (DI hh hzn)
 rcases h with ⟨h1,h2⟩|⟨h1,h2,h3⟩
 . exfalso
   rcases qa (dst n (hm i) r) (dst n (hm i) p)with h4|h4
   . exact hP p i r hp hr hi h4 h2
   . rcases qa (dst n (hm i) p) (dst n (hm i) r)with h5|h5
     . have:=(hq p hp h5).2
       rw[hi,Nat.add_sub_cancel,hok]at this
       cases this
     . have e:=Du hh hr hp o_
       rw[e,hi]at h2
       omega
 . have:=huniq r (fM cs r-1) hr o_ h3
   rw[h1,this]
theorem TH{n:Nat}{cs:List Nat}{ok:Nat->Bool}{c:Nat}(hc:c<n)(hno:∀ q j,q<n->fM cs q=j+1->ok j=false)(hz:∃ z,z<n/\fM cs z=0):∃ r,r<n/\th n cs ok n c=(r,false)/\fM cs r=0/\∀ q,q<n->qz n c r q->fM cs q≠0:=by
 obtain⟨z,hzn,hz0⟩:=hz
 obtain⟨r,hr,hd,hq,h⟩:=KN (ok:=ok) hzn hz0 n c hc (DI hc hzn)
 rcases h with ⟨h1,h2⟩|⟨h1,h2,h3⟩
 . exact⟨r,hr,h1,h2,fun q hqn hqd=>(hq q hqn hqd).1⟩
 . have:=hno r (fM cs r-1) hr o_
   rw[this]at h3
   cases h3
theorem qJ.put{n:Nat}{cs:List Nat}{hm:Nat->Nat}{r i:Nat}(h:qJ n cs hm)(hl:cs.length=n)(hr:r<n)(h0:fM cs r=0)(hw:∀ q,q<n->qz n (hm i) r q->fM cs q≠0)(hh:hm i<n):qJ n (fR cs r (fun _=>i+1)) hm:=by
 intro c j q hc hq hj hon
 have hu:=fun q=>j5 (xs:=cs) (k:=r) (j:=q) (f:=fun _=>i+1) o_
 rw[hu]at hj ⊢
 split
 . omega
 . rename_i hne
   split at hj
   . rename_i e
     have:j=i:=by omega
     subst this
     subst e
     exact hw q hq hon
   . exact h c j q hc hq hj hon
structure oB (n:Nat) (hm:Nat->Nat) (i0:Nat) (cs0 cs:List Nat) (hole c z:Nat):Prop where
 len:cs.length=n
 uP:hole<n
 Q6:c<n
 B3:z<n
 home:∀ p i,p<n->p≠hole->fM cs p=i+1->hm i<n
 inj:∀ p q,p<n->q<n->p≠hole->q≠hole->fM cs p≠0->fM cs p=fM cs q->p=q
 mem:∀ i,(∃ p,p<n/\p≠hole/\fM cs p=i+1)↔i≠i0/\∃ p,p<n/\fM cs0 p=i+1
 way:∀ p i q,p<n->q<n->p≠hole->q≠hole->fM cs p=i+1->qz n (hm i) p q->fM cs q≠0
 Qb:∀ p i,p<n->p≠hole->fM cs p=i+1->qz n (hm i) p hole->dst n hole c<dst n hole p
 zero:fM cs z=0
 zc:dst n hole c<dst n hole z
theorem oB.start{n:Nat}{hm:Nat->Nat}{i0:Nat}{cs:List Nat}{hole z:Nat}(hP:qJ n cs hm)(hl:cs.length=n)(hh:hole<n)(hi:fM cs hole=i0+1)(hz:z<n)(hz0:fM cs z=0)(hhm:∀ p i,p<n->fM cs p=i+1->hm i<n)
 (hinj:∀ p q,p<n->q<n->fM cs p≠0->fM cs p=fM cs q->p=q):oB n hm i0 cs cs hole hole z:=by
 have hzh:hole≠z:=fun e=>by rw[e,hz0]at hi;omega
 refine⟨hl,hh,hh,hz,fun p i hp _=>hhm p i hp,fun p q hp hq _ _=>hinj p q hp hq,fun i=>⟨?_,?_⟩,fun p i q hp hq _ _ hpi hon=>hP p i q hp hq hpi hon,fun p i hp hne _ _=>?_,hz0,?_⟩
 . rintro⟨p,hp,hne,hpi⟩
   refine⟨fun e=>hne (hinj p hole hp hh o_ (by rw[hpi,hi,e])),p,hp,hpi⟩
 . rintro⟨hne,p,hp,hpi⟩
   exact⟨p,hp,fun e=>hne (by rw[e,hi]at hpi;omega),hpi⟩
 . rw[s4]
   have:=mt (C6 hh hp).1 (fun e=>hne e.symm)
   omega
 . rw[s4]
   have:=mt (C6 hh hz).1 hzh
   omega
section
variable {n:Nat} {hm:Nat->Nat} {i0:Nat} {cs0 cs:List Nat} {hole c z:Nat}
theorem oB.next(h:oB n hm i0 cs0 cs hole c z):ic n c<n/\ic n c≠hole/\dst n hole (ic n c)=dst n hole c+1/\c≠z/\dst n (ic n c) z<dst n c z:=by
 have h1:=h.zc
 have h2:=h.Q6
 have h3:=h.uP
 have h4:=h.B3
 have hcz:c≠z:=fun e=>by rw[e]at h1;omega
 have hs:=CC h4 h2 hcz
 have hne:ic n c≠hole:=by
  intro e
  have:dst n hole c=n-1:=by rw[<-e];unfold dst ic;(repeat' split)<;>omega
  have:=DI h3 h4
  omega
 exact⟨Ia h2,hne,XU h3 h2 hne,hcz,o_⟩
theorem oB.skip(h:oB n hm i0 cs0 cs hole c z){i:Nat}(hi:fM cs (ic n c)=i+1)(hlt:dst n (hm i) (ic n c)<dst n hole (ic n c)):oB n hm i0 cs0 cs hole (ic n c) z:=by
 obtain⟨h1,h2,h3,h4,h5⟩:=h.next
 refine⟨h.len,h.uP,h1,h.B3,h.home,h.inj,h.mem,h.way,fun p j hp hne hpj hon=>?_,h.zero,?_⟩
 . have h6:=h.Qb p j hp hne hpj hon
   have:p≠ic n c:=by
    intro e
    subst e
    have:j=i:=by omega
    subst this
    have hhm:=h.home _ _ h1 hne hpj
    have h0:=h.uP
    unfold qz dst at *
    (repeat' split at hon)<;>(repeat' split at hlt)<;>omega
   have h7:dst n hole p≠dst n hole (ic n c):=fun e=>this (Du h.uP hp h1 e)
   omega
 . have:z≠ic n c:=fun e=>by
    have:=h.zero
    rw[e,hi]at this
    omega
   have h7:dst n hole z≠dst n hole (ic n c):=fun e=>this (Du h.uP h.B3 h1 e)
   have:=h.zc
   omega
theorem oB.move(h:oB n hm i0 cs0 cs hole c z){i:Nat}(hi:fM cs (ic n c)=i+1)(hge:¬ dst n (hm i) (ic n c)<dst n hole (ic n c)):oB n hm i0 cs0 (fR cs hole (fun _=>i+1)) (ic n c) (ic n c) z:=by
 obtain⟨h1,h2,h3,h4,h5⟩:=h.next
 have hl:=h.len
 have h0:=h.uP
 have hhm:=h.home _ _ h1 h2 hi
 have hu:=fun q=>j5 (xs:=cs) (k:=hole) (j:=q) (f:=fun _=>i+1) o_
 have hzh:hole≠z:=fun e=>by
  have:=h.zc
  rw[<-e,s4]at this
  omega
 have hzn:z≠ic n c:=fun e=>by
  have:=h.zero
  rw[e,hi]at this
  omega
 have hon0:qz n (hm i) (ic n c) hole:=by
  unfold qz dst at *
  (repeat' split at hge)<;>(repeat' split)<;>omega
 refine⟨by rw[gM];exact hl,h1,h1,h.B3,fun p j hp hne hpj=>?_,fun p q hp hq hnp hnq hp0 he=>?_,fun j=>?_,fun p j q hp hq hnp hnq hpj hon=>?_,fun p j hp hne hpj hon=>?_,?_,?_⟩
 . rw[hu]at hpj
   split at hpj
   . have:j=i:=by omega
     subst this
     exact hhm
   . rename_i hn
     exact h.home p j hp (fun e=>hn e.symm) hpj
 . rw[hu]at hp0 he
   rw[hu]at he
   by_cases e1:hole=p
   . by_cases e2:hole=q
     . omega
     . rw[if_pos e1,if_neg e2]at he
       have:=h.inj q (ic n c) hq h1 (fun e=>e2 e.symm) h2 o_ o_
       exact absurd this hnq
   . by_cases e2:hole=q
     . rw[if_neg e1,if_pos e2]at he
       have:=h.inj p (ic n c) hp h1 (fun e=>e1 e.symm) h2 o_ o_
       exact absurd this hnp
     . rw[if_neg e1,if_neg e2]at he
       rw[if_neg e1]at hp0
       exact h.inj p q hp hq (fun e=>e1 e.symm) (fun e=>e2 e.symm) hp0 he
 . rw[<-h.mem j]
   constructor
   . rintro⟨p,hp,hne,hpj⟩
     rw[hu]at hpj
     by_cases e1:hole=p
     . rw[if_pos e1]at hpj
       exact⟨ic n c,h1,h2,o_⟩
     . rw[if_neg e1]at hpj
       exact⟨p,hp,fun e=>e1 e.symm,hpj⟩
   . rintro⟨p,hp,hne,hpj⟩
     by_cases e1:p=ic n c
     . refine⟨hole,h0,fun e=>h2 e.symm,?_⟩
       rw[hu,if_pos rfl]
       rw[e1,hi]at hpj
       omega
     . refine⟨p,hp,e1,?_⟩
       rw[hu,if_neg (fun e=>hne e.symm)]
       exact hpj
 . rw[hu]at hpj ⊢
   by_cases e2:hole=q
   . rw[if_pos e2];omega
   . rw[if_neg e2]
     by_cases e1:hole=p
     . rw[if_pos e1]at hpj
       have:j=i:=by omega
       subst this
       subst e1
       exact h.way (ic n c) j q h1 hq h2 (fun e=>e2 e.symm) hi (Nat.lt_trans hon hon0)
     . rw[if_neg e1]at hpj
       exact h.way p j q hp hq (fun e=>e1 e.symm) (fun e=>e2 e.symm) hpj hon
 . rw[s4]
   have:=mt (C6 h1 hp).1 (fun e=>hne e.symm)
   omega
 . rw[hu,if_neg hzh]
   exact h.zero
 . rw[s4]
   have:=mt (C6 h1 h.B3).1 (fun e=>hzn e.symm)
   omega
theorem oB.done(h:oB n hm i0 cs0 cs hole c z)(h0:fM cs (ic n c)=0)(hi0:∃ p,p<n/\fM cs0 p=i0+1) :
 qJ n (fR cs hole (fun _=>0)) hm/\(∀ p q,p<n->q<n->fM (fR cs hole (fun _=>0)) p≠0->fM (fR cs hole (fun _=>0)) p=fM (fR cs hole (fun _=>0)) q->p=q) /\
 (∀ i,(∃ p,p<n/\fM (fR cs hole (fun _=>0)) p=i+1)↔i≠i0/\∃ p,p<n/\fM cs0 p=i+1):=by
 obtain⟨h1,h2,h3,h4,h5⟩:=h.next
 have hl:=h.len
 have hh:=h.uP
 have hu:=fun q=>j5 (xs:=cs) (k:=hole) (j:=q) (f:=fun _=>0) o_
 refine⟨fun p i q hp hq hpi hon=>?_,fun p q hp hq hp0 he=>?_,fun i=>?_⟩
 . rw[hu]at hpi ⊢
   by_cases e1:hole=p
   . rw[if_pos e1]at hpi;omega
   . rw[if_neg e1]at hpi
     have hhm:=h.home p i hp (fun e=>e1 e.symm) hpi
     by_cases e2:hole=q
     . exfalso
       subst e2
       have h6:=h.Qb p i hp (fun e=>e1 e.symm) hpi hon
       have h7:p≠ic n c:=fun e=>by rw[e,h0]at hpi;omega
       have h8:dst n hole p≠dst n hole (ic n c):=fun e=>h7 (Du hh hp h1 e)
       have h9:qz n (hm i) p (ic n c):=by
        have h10:dst n hole (ic n c)<dst n hole p:=by omega
        clear h6 h8 h3 h5
        unfold qz dst at *
        (repeat' split at hon)<;>(repeat' split at h10)<;>(repeat' split)<;>omega
       exact h.way p i (ic n c) hp h1 (fun e=>e1 e.symm) h2 hpi h9 h0
     . rw[if_neg e2]
       exact h.way p i q hp hq (fun e=>e1 e.symm) (fun e=>e2 e.symm) hpi hon
 . rw[hu]at hp0 he
   rw[hu]at he
   by_cases e1:hole=p
   . rw[if_pos e1]at hp0;omega
   . rw[if_neg e1]at hp0 he
     by_cases e2:hole=q
     . rw[if_pos e2]at he;omega
     . rw[if_neg e2]at he
       exact h.inj p q hp hq (fun e=>e1 e.symm) (fun e=>e2 e.symm) hp0 he
 . rw[<-h.mem i]
   constructor
   . rintro⟨p,hp,hpi⟩
     rw[hu]at hpi
     by_cases e1:hole=p
     . rw[if_pos e1]at hpi;omega
     . rw[if_neg e1]at hpi
       exact⟨p,hp,fun e=>e1 e.symm,hpi⟩
   . rintro⟨p,hp,hne,hpi⟩
     exact⟨p,hp,by rw[hu,if_neg (fun e=>hne e.symm)];exact hpi⟩
end
end Go.Sx
namespace Go.Sx
open Go
structure gj where
 ix:Nat
 key:Int
 deriving Inhabited
def gj.cells(x:gj):List Value:=[.int .i64 x.ix,.int .i64 x.key]
def iH(a b:gj):Prop:=a.key<b.key\/a.key=b.key/\a.ix<b.ix
instance (a b:gj):Decidable (iH a b):=by unfold iH;infer_instance
theorem CL(a:gj):¬ iH a a:=by unfold iH;omega
theorem K9{a b c:gj}(h:iH a b)(k:iH b c):iH a c:=by unfold iH at *;omega
theorem Lf{a b:gj}(h:iH a b):¬ iH b a:=by unfold iH at *;omega
theorem Gr{a b c:gj}(h:¬ iH a b)(k:¬ iH b c):¬ iH a c:=by unfold iH at *;omega
def sB(a b:gj):Int:=if a.key<b.key then -1 else if b.key<a.key then 1 else if a.ix<b.ix then -1 else if b.ix<a.ix then 1 else 0
theorem oH{a b:gj}:sB a b<0↔iH a b:=by
 unfold sB iH
 (repeat' split)<;>constructor<;>intro h<;>omega
abbrev pa(p:Nat):Nat:=(p-1) / 2
def Ord(xs:List gj):Prop:=∀ j,0<j->j<xs.length->¬ iH (fM xs j) (fM xs (pa j))
structure sW (xs:List gj) (p:Nat):Prop where
 rest:∀ j,0<j->j<xs.length->j≠p->pa j≠p->¬ iH (fM xs j) (fM xs (pa j))
 kids:0<p->∀ j,0<j->j<xs.length->pa j=p->¬ iH (fM xs j) (fM xs (pa p))
structure tT (xs:List gj) (p:Nat):Prop where
 rest:∀ j,0<j->j<xs.length->pa j≠p->¬ iH (fM xs j) (fM xs (pa j))
 kids:0<p->∀ j,0<j->j<xs.length->pa j=p->¬ iH (fM xs j) (fM xs (pa p))
def iB(xs:List gj)(p q:Nat):List gj:=fR (fR xs p (fun _=>fM xs q)) q (fun _=>fM xs p)
theorem l7(xs:List gj)(p q:Nat):(iB xs p q).length=xs.length:=by simp[iB,gM]
theorem xD{xs:List gj}{p q:Nat}(hp:p<xs.length)(hq:q<xs.length)(j:Nat):fM (iB xs p q) j=if q=j then fM xs p else if p=j then fM xs q else fM xs j:=by
 unfold iB
 rw[j5 (by rw[gM];exact hq),j5 hp]
theorem sW.up{xs:List gj}{p:Nat}(h:sW xs p)(h0:0<p)(hp:p<xs.length)(hlt:iH (fM xs p) (fM xs (pa p))):sW (iB xs p (pa p)) (pa p):=by
 have hq:pa p<p:=by simp only[pa];omega
 have hs:=xD hp (show pa p<xs.length by omega)
 refine⟨fun j j0 hj hne hpa=>?_,fun hq0 j j0 hj e=>?_⟩
 . rw[l7]at hj
   rw[hs,hs]
   by_cases e1:p=j
   . subst e1;exact absurd rfl hpa
   . rw[if_neg (fun e=>hne e.symm),if_neg e1,if_neg (fun e=>hpa e.symm)]
     by_cases e2:p=pa j
     . rw[if_pos e2]
       exact h.kids h0 j j0 hj e2.symm
     . rw[if_neg e2]
       exact h.rest j j0 hj (fun e=>e1 e.symm) (fun e=>e2 e.symm)
 . rw[l7]at hj
   have hpp:pa (pa p)<pa p:=by simp only[pa]at hq0 ⊢;omega
   have ht:fM (iB xs p (pa p)) (pa (pa p))=fM xs (pa (pa p)):=by rw[hs,if_neg o_,if_neg o_]
   have hqq:¬ iH (fM xs (pa p)) (fM xs (pa (pa p))):=h.rest (pa p) hq0 o_ o_ o_
   rw[ht,hs]
   have hjq:pa p≠j:=fun e' => by rw[<-e']at e;simp only[pa]at *;omega
   rw[if_neg hjq]
   by_cases e1:p=j
   . rw[if_pos e1];exact hqq
   . rw[if_neg e1]
     have h5:=h.rest j j0 hj (fun e=>e1 e.symm) o_
     rw[e]at h5
     exact Gr h5 hqq
theorem sW.stop{xs:List gj}{p:Nat}(h:sW xs p)(hn:¬ (0<p/\iH (fM xs p) (fM xs (pa p)))):tT xs p:=by
 refine⟨fun j h0 hj hpa=>?_,h.kids⟩
 by_cases e:j=p
 . subst e
   exact fun hl=>hn ⟨h0,hl⟩
 . exact h.rest j h0 hj e hpa
def jc(xs:List gj)(p:Nat):Nat :=
 let f:=if 2*p+1<xs.length/\iH (fM xs (2*p+1)) (fM xs p)then 2*p+1 else p
 if 2*p+2<xs.length/\iH (fM xs (2*p+2)) (fM xs f)then 2*p+2 else f
theorem Of{j p:Nat}(h0:0<j):pa j=p↔j=2*p+1\/j=2*p+2:=by simp only[pa];omega
theorem Ta{xs:List gj}{p:Nat}(h:jc xs p=p):∀ j,0<j->j<xs.length->pa j=p->¬ iH (fM xs j) (fM xs p):=by
 intro j h0 hj e
 unfold jc at h
 simp only at h
 rcases(Of h0).1 e with rfl|rfl
 . intro hl
   rw[if_pos (show 2*p+1<xs.length/\_ from⟨hj,hl⟩)]at h
   split at h<;>omega
 . intro hl
   by_cases h1:2*p+1<xs.length/\iH (fM xs (2*p+1)) (fM xs p)
   . rw[if_pos h1]at h
     split at h<;>omega
   . rw[if_neg h1,if_pos ⟨hj,hl⟩]at h
     omega
theorem Mf{xs:List gj}{p:Nat}(h:jc xs p≠p):jc xs p<xs.length/\p<jc xs p/\pa (jc xs p)=p/\iH (fM xs (jc xs p)) (fM xs p)/\∀ j,0<j->j<xs.length->pa j=p->¬ iH (fM xs j) (fM xs (jc xs p)):=by
 have hk:∀ j,0<j->j<xs.length->pa j=p->j=2*p+1\/j=2*p+2:=fun j h0 _ e=>(Of h0).1 e
 have e0:jc xs p=(if 2*p+2<xs.length/\iH (fM xs (2*p+2)) (fM xs (if 2*p+1<xs.length/\iH (fM xs (2*p+1)) (fM xs p)then 2*p+1 else p))then 2*p+2 else(if 2*p+1<xs.length/\iH (fM xs (2*p+1)) (fM xs p)then 2*p+1 else p)):=rfl
 rw[e0]at h ⊢
 by_cases h1:2*p+1<xs.length/\iH (fM xs (2*p+1)) (fM xs p)
 . rw[if_pos h1]at h ⊢
   by_cases h2:2*p+2<xs.length/\iH (fM xs (2*p+2)) (fM xs (2*p+1))
   . rw[if_pos h2]at h ⊢
     refine⟨h2.1,o_,by simp only[pa];omega,K9 h2.2 h1.2,fun j j0 hj e=>?_⟩
     rcases hk j j0 hj e with rfl|rfl
     . exact Lf h2.2
     . exact CL _
   . rw[if_neg h2]at h ⊢
     refine⟨h1.1,o_,by simp only[pa];omega,h1.2,fun j j0 hj e=>?_⟩
     rcases hk j j0 hj e with rfl|rfl
     . exact CL _
     . exact fun hl=>h2 ⟨hj,hl⟩
 . rw[if_neg h1]at h ⊢
   by_cases h2:2*p+2<xs.length/\iH (fM xs (2*p+2)) (fM xs p)
   . rw[if_pos h2]at h ⊢
     refine⟨h2.1,o_,by simp only[pa];omega,h2.2,fun j j0 hj e=>?_⟩
     rcases hk j j0 hj e with rfl|rfl
     . intro hl
       exact h1 ⟨hj,K9 hl h2.2⟩
     . exact CL _
   . rw[if_neg h2]at h
     exact absurd rfl h
theorem tT.down{xs:List gj}{p c:Nat}(h:tT xs p)(hc:jc xs p=c)(hne:c≠p):tT (iB xs p c) c:=by
 subst hc
 obtain⟨hcl,hpc,hpa,hlt,hmin⟩:=Mf hne
 generalize jc xs p=c at *
 have hs:=xD (show p<xs.length by omega) hcl
 refine⟨fun j j0 hj hne' => ?_,fun _ j j0 hj e=>?_⟩
 . rw[l7]at hj
   rw[hs,hs]
   by_cases e1:c=j
   . subst e1
     rw[if_pos rfl,if_neg o_,if_pos hpa.symm]
     exact Lf hlt
   . rw[if_neg e1,if_neg (show ¬ c=pa j from fun e=>hne' e.symm)]
     by_cases e2:p=j
     . subst e2
       rw[if_pos rfl,if_neg (by simp only[pa];omega)]
       exact h.kids j0 c o_ hcl hpa
     . rw[if_neg e2]
       by_cases e3:p=pa j
       . rw[if_pos e3]
         exact hmin j j0 hj e3.symm
       . rw[if_neg e3]
         exact h.rest j j0 hj (fun e=>e3 e.symm)
 . rw[l7]at hj
   have hjc:c<j:=by simp only[pa]at e;omega
   rw[hs,hs,if_neg o_,if_neg o_,hpa,if_neg o_,if_pos rfl]
   have:=h.rest j j0 hj o_
   rw[e]at this
   exact this
theorem tT.stop{xs:List gj}{p:Nat}(h:tT xs p)(hb:jc xs p=p):Ord xs:=by
 intro j j0 hj
 by_cases e:pa j=p
 . rw[e];exact Ta hb j j0 hj e
 . exact h.rest j j0 hj e
structure Hp (n:Nat) (xs:List gj) (pl:List Nat):Prop where
 ix:∀ p,p<xs.length->(fM xs p).ix<n
 key:∀ p,p<xs.length->iC .i64 (fM xs p).key
 at_:∀ p,p<xs.length->fM pl (fM xs p).ix=p+1
 of:∀ i p,i<n->fM pl i=p+1->p<xs.length/\(fM xs p).ix=i
 pl:n<=pl.length
 len:xs.length<=n
theorem Hp.inj{n:Nat}{xs:List gj}{pl:List Nat}(h:Hp n xs pl){p q:Nat}(hp:p<xs.length)(hq:q<xs.length)(e:(fM xs p).ix=(fM xs q).ix):p=q:=by
 have h1:=h.at_ p hp
 have h2:=h.at_ q hq
 rw[e]at h1
 omega
def iQ(pl:List Nat)(i p:Nat):List Nat:=fR pl i (fun _=>p)
theorem Hp.swap{n:Nat}{xs:List gj}{pl:List Nat}(h:Hp n xs pl){p q:Nat}(hp:p<xs.length)(hq:q<xs.length) :
 Hp n (iB xs p q) (iQ (iQ pl (fM (iB xs p q) p).ix (p+1)) (fM (iB xs p q) q).ix (q+1)):=by
 have hs:=xD hp hq
 have eq_:fM (iB xs p q) q=fM xs p:=by rw[hs,if_pos rfl]
 have ep:fM (iB xs p q) p=fM xs q:=by
  rw[hs]
  split
  . rename_i e;rw[e]
  . rw[if_pos rfl]
 rw[eq_,ep]
 have hpl:=h.pl
 have ip:=h.ix p hp
 have iq:=h.ix q hq
 have hput:∀ i,fM (iQ (iQ pl (fM xs q).ix (p+1)) (fM xs p).ix (q+1)) i=if (fM xs p).ix=i then q+1 else if (fM xs q).ix=i then p+1 else fM pl i:=fun i=>by
  unfold iQ
  rw[j5 (by rw[gM];omega),j5 o_]
 refine⟨fun j hj=>?_,fun j hj=>?_,fun j hj=>?_,fun i j hi hij=>?_,by simp[iQ,gM];exact hpl,by rw[l7];exact h.len⟩
 . rw[l7]at hj
   rw[hs]
   split
   . exact ip
   . split
     . exact iq
     . exact h.ix j hj
 . rw[l7]at hj
   rw[hs]
   split
   . exact h.key p hp
   . split
     . exact h.key q hq
     . exact h.key j hj
 . rw[l7]at hj
   rw[hput,hs]
   by_cases e1:q=j
   . rw[if_pos e1,if_pos rfl,e1]
   . rw[if_neg e1]
     by_cases e2:p=j
     . rw[if_pos e2]
       subst e2
       by_cases e3:(fM xs p).ix=(fM xs q).ix
       . exact absurd (h.inj hp hq e3).symm e1
       . rw[if_neg e3,if_pos rfl]
     . rw[if_neg e2,if_neg (fun e=>e2 (h.inj hp hj e)),if_neg (fun e=>e1 (h.inj hq hj e))]
       exact h.at_ j hj
 . rw[hput]at hij
   rw[l7,hs]
   by_cases e1:(fM xs p).ix=i
   . rw[if_pos e1]at hij
     have:j=q:=by omega
     subst this
     exact⟨hq,by rw[if_pos rfl];exact e1⟩
   . rw[if_neg e1]at hij
     by_cases e2:(fM xs q).ix=i
     . rw[if_pos e2]at hij
       have:j=p:=by omega
       subst this
       refine⟨hp,?_⟩
       split
       . rename_i e;subst e;exact absurd e2 e1
       . rw[if_pos rfl];exact e2
     . rw[if_neg e2]at hij
       obtain⟨a,b⟩:=h.of i j hi hij
       refine⟨a,?_⟩
       rw[if_neg (fun e=>e1 (by rw[e]at hq;subst e;exact absurd b (fun b=>e2 b))),if_neg (fun e=>e1 (by subst e;exact b))]
       exact b
theorem Hp.push{n:Nat}{xs:List gj}{pl:List Nat}(h:Hp n xs pl){i:Nat}{k:Int}(hi:i<n)(h0:fM pl i=0)(hk:iC .i64 k):Hp n (xs++[⟨i,k⟩]) (iQ pl i (xs.length+1)):=by
 have hpl:=h.pl
 have hput:∀ j,fM (iQ pl i (xs.length+1)) j=if i=j then xs.length+1 else fM pl j:=fun j=>j5 o_
 have hn:∀ p,fM (xs++[⟨i,k⟩]) p=if p<xs.length then fM xs p else if p=xs.length then⟨i,k⟩else default:=fun p=>by
  unfold fM
  rw[zS]
  split
  . rfl
  . split
    . rename_i e;subst e;simp
    . rw[mB (by simp;omega)];rfl
 have hnew:∀ p,p<xs.length->(fM xs p).ix≠i:=fun p hp e=>by
  have:=h.at_ p hp
  rw[e,h0]at this
  omega
 refine⟨fun p hp=>?_,fun p hp=>?_,fun p hp=>?_,fun j p hj hp=>?_,by simp[iQ,gM];exact hpl,?_⟩
 . rw[hn]
   split
   . rename_i h1;exact h.ix p h1
   . rw[if_pos (by simp at hp;omega)];exact hi
 . rw[hn]
   split
   . rename_i h1;exact h.key p h1
   . rw[if_pos (by simp at hp;omega)];exact hk
 . rw[hput,hn]
   by_cases h1:p<xs.length
   . rw[if_pos h1,if_neg (fun e=>hnew p h1 e.symm)]
     exact h.at_ p h1
   . simp at hp
     have hpe:p=xs.length:=by omega
     subst hpe
     rw[if_neg h1,if_pos rfl,if_pos rfl]
 . rw[hput]at hp
   rw[hn]
   split at hp
   . rename_i e
     have:p=xs.length:=by omega
     subst this
     refine⟨s_,?_⟩
     rw[if_neg o_,if_pos rfl]
     exact e
   . obtain⟨a,b⟩:=h.of j p hj hp
     exact⟨by simp;omega,by rw[if_pos a];exact b⟩
 . -- places of different indexes: no more entries than indexes
   have hnd:((xs++[(⟨i,k⟩:gj)]).map gj.ix).Nodup:=by
    rw[qL,zu]
    refine⟨?_,s_,fun a ha b hb e=>?_⟩
    . refine wU.2 fun a b ha hb hlt hab=>?_
      simp only[zr]at ha hb
      refine absurd (h.inj ha hb ?_) o_
      have e1:(fM xs a).ix=xs[a].ix:=by simp[fM,ha]
      have e2:(fM xs b).ix=xs[b].ix:=by simp[fM,hb]
      rw[e1,e2]
      simpa using hab
    . simp at hb
      subst hb e
      obtain⟨x,hx,hxe⟩:=jW.1 ha
      obtain⟨p,hp,rfl⟩:=E7.1 hx
      exact hnew p hp (by rw[<-hxe];simp[fM,hp])
   have:=nodup_len n _ hnd fun j hj=>by
    obtain⟨x,hx,rfl⟩:=jW.1 hj
    rcases zq.1 hx with hx|hx
    . obtain⟨p,hp,rfl⟩:=E7.1 hx
      have:=h.ix p hp
      simpa[fM,hp]using this
    . simp at hx
      subst hx
      exact hi
   simpa using this
where
 nodup_len:∀ (n:Nat) (L:List Nat),L.Nodup->(∀ j∈L,j<n)->L.length<=n
  | 0,L,_,h=>by
   cases L with
   | nil=>simp
   | cons x L=>exact absurd (h x s_) o_
  | n+1,L,hn,h=>by
   have h1:=nodup_len n (L.erase n) (hn.erase n) (fun j hj=>by
    have h2:=h j (List.mem_of_mem_erase hj)
    have h3:j≠n:=fun e=>by subst e;exact(List.Nodup.not_mem_erase hn) hj
    omega)
   have:=List.length_erase_le (a:=n) (l:=L)
   by_cases hm:n∈L
   . have:=Jw hm
     have:=JF hm
     omega
   . rw[List.erase_of_not_mem hm]at h1;omega
theorem pG{α:Type}[Inhabited α]{xs:List α}{e:α}:e∈xs↔∃ p,p<xs.length/\fM xs p=e:=by
 constructor
 . intro h
   obtain⟨p,hp,rfl⟩:=E7.1 h
   exact⟨p,hp,by simp[fM,hp]⟩
 . rintro⟨p,hp,rfl⟩
   exact zh (gy hp)
theorem Gw{xs:List gj}{p q:Nat}(hp:p<xs.length)(hq:q<xs.length)(e:gj):e∈iB xs p q↔e∈xs:=by
 have hs:=xD hp hq
 rw[pG,pG,l7]
 constructor
 . rintro⟨j,hj,rfl⟩
   rw[hs]
   split
   . exact⟨p,hp,rfl⟩
   . split
     . exact⟨q,hq,rfl⟩
     . exact⟨j,hj,rfl⟩
 . rintro⟨j,hj,rfl⟩
   by_cases e1:j=p
   . subst e1;exact⟨q,hq,by rw[hs,if_pos rfl]⟩
   . by_cases e2:j=q
     . subst e2
       refine⟨p,hp,?_⟩
       rw[hs]
       split
       . rename_i e;exact absurd e e1
       . rw[if_pos rfl]
     . exact⟨j,hj,by rw[hs,if_neg (fun e=>e2 e.symm),if_neg (fun e=>e1 e.symm)]⟩
theorem Ord.first{xs:List gj}(h:Ord xs):∀ p,p<xs.length->¬ iH (fM xs p) (fM xs 0):=by
 intro p
 induction p using Nat.strongRecOn with
 | _ p ih =>
  intro hp
  by_cases h0:p=0
  . subst h0;exact CL _
  . have h1:pa p<p:=by simp only[pa];omega
    exact Gr (h p o_ hp) (ih (pa p) h1 o_)
theorem Ord.min{xs:List gj}(h:Ord xs){e:gj}(he:e∈xs):¬ iH e (fM xs 0):=by
 obtain⟨p,hp,rfl⟩:=pG.1 he
 exact h.first p hp
theorem qm{α:Type}[Inhabited α]{xs:List α}{m j:Nat}(h:j<m):fM (xs.take m) j=fM xs j:=by
 unfold fM
 rw[pZ,if_pos h]
theorem Hp.cut{n:Nat}{xs:List gj}{pl:List Nat}{m:Nat}(h:Hp n xs pl)(hm:xs.length=m+1):Hp n (xs.take m) (iQ pl (fM xs m).ix 0):=by
 have hpl:=h.pl
 have hlm:=h.ix m o_
 have hput:∀ j,fM (iQ pl (fM xs m).ix 0) j=if (fM xs m).ix=j then 0 else fM pl j:=fun j=>j5 o_
 have hl:(xs.take m).length=m:=by rw[kD];omega
 refine⟨fun p hp=>?_,fun p hp=>?_,fun p hp=>?_,fun i p hi hp=>?_,by simp[iQ,gM];exact hpl,by have:=h.len;omega⟩
 . rw[hl]at hp;rw[qm hp];exact h.ix p o_
 . rw[hl]at hp;rw[qm hp];exact h.key p o_
 . rw[hl]at hp
   rw[qm hp,hput,if_neg (fun e=>by have:=h.inj (p:=m) (q:=p) o_ o_ e;omega)]
   exact h.at_ p o_
 . rw[hput]at hp
   split at hp
   . omega
   . rename_i hne
     obtain⟨a,b⟩:=h.of i p hi hp
     have hpm:p<m:=by
      have:p≠m:=fun e=>hne (by rw[<-e];exact b)
      omega
     rw[hl,qm hpm]
     exact⟨hpm,b⟩
theorem WI{n:Nat}{xs:List gj}{pl:List Nat}{m:Nat}(h:Hp n xs pl)(hm:xs.length=m+1)(e:gj):e∈xs.take m↔e∈xs/\e.ix≠(fM xs m).ix:=by
 have hl:(xs.take m).length=m:=by rw[kD];omega
 rw[pG,pG,hl]
 constructor
 . rintro⟨j,hj,rfl⟩
   rw[qm hj]
   exact⟨⟨j,o_,rfl⟩,fun e=>by have:=h.inj (p:=j) (q:=m) o_ o_ e;omega⟩
 . rintro⟨⟨j,hj,rfl⟩,hne⟩
   have:j≠m:=fun e=>hne (by rw[e])
   exact⟨j,o_,qm o_⟩
theorem Ord.cut{xs:List gj}{p m:Nat}(h:Ord xs)(hm:xs.length=m+1)(hp:p<m):sW ((iB xs p m).take m) p:=by
 have hl:((iB xs p m).take m).length=m:=by rw[kD,l7];omega
 have hs:=xD (xs:=xs) (show p<xs.length by omega) (show m<xs.length by omega)
 refine⟨fun j h0 hj hne hpa=>?_,fun h0 j hj0 hj e=>?_⟩
 . rw[hl]at hj
   have h1:pa j<m:=by simp only[pa];omega
   rw[qm hj,qm h1,hs,hs,if_neg o_,if_neg (fun e=>hne e.symm),if_neg o_,if_neg (fun e=>hpa e.symm)]
   exact h j h0 o_
 . rw[hl]at hj
   have h1:pa p<p:=by simp only[pa];omega
   have h2:j≠p:=by rintro rfl;omega
   rw[qm hj,qm o_,hs,hs,if_neg o_,if_neg (fun e=>h2 e.symm),if_neg o_,if_neg o_]
   exact Gr (h j hj0 o_) (by rw[e];exact h p h0 o_)
theorem Ord.We{xs:List gj}{m:Nat}(h:Ord xs)(hm:m<=xs.length):Ord (xs.take m):=by
 intro j h0 hj
 rw[kD]at hj
 have h1:pa j<m:=by simp only[pa];omega
 rw[qm o_,qm h1]
 exact h j h0 o_
theorem TQ{xs:List gj}{p:Nat}(hp:p<xs.length):iB xs p p=xs:=by
 have e:∀ (l:List gj),p<l.length->fR l p (fun _=>fM l p)=l:=fun l hl=>by
  apply nq
  intro j
  unfold fR
  rw[rN]
  split
  . rename_i e;subst e;rw[gy hl]
  . rfl
 have e1:=e xs hp
 unfold iB
 rw[e1,e1]
theorem U6{xs:List gj}(h:Ord xs)(e:gj):sW (xs++[e]) xs.length:=by
 have hn:∀ p,p<xs.length->fM (xs++[e]) p=fM xs p:=fun p hp=>by
  unfold fM
  rw[sS hp]
 refine⟨fun j h0 hj hne hpa=>?_,fun h0 j hj0 hj e' => ?_⟩
 . simp at hj
   have h1:pa j<j:=by simp only[pa];omega
   rw[hn j o_,hn (pa j) o_]
   exact h j h0 o_
 . simp at hj
   have h1:pa j<j:=by simp only[pa];omega
   omega
end Go.Sx
namespace Go.Sx
open Go
section
variable {r:Option Nat} {P:Program} {ops:Array Oper} {Q:Exit->Act->World->Prop} {rest:List Oper} {n:Nat} {s:List (Nat×Value)} {ds:List Deferred} {w:World}
variable {d:Nat} {dd:Option Nat} {ty t t' e:TypeId} {pos:String} {af:Array Edge} {g:Option (Nat×Bool)} {x y:Operand} {a:Addr} {sz by_:Nat} {z:Value}
theorem Ri(k:Nat)(ht:P.underlying t=some (.pointer e))(hi:TI P e (sz+1) by_ z):(Op.equalIn (k+1) t (.pointer (some a)) (.pointer (some a))).run P w = .ok true w:=by
 simp[Op.equalIn,run_underlying ht,hi.size,sameAddr]
theorem Yh(hx:ev n s x = .pointer (some a))(hy:ev n s y = .pointer (some a))(ht:P.underlying t=some (.pointer e))(hi:TI P e (sz+1) by_ z) :
 (execOp (ev n s) ⟨dd,.binOp .eql t x y t', ty,pos,af,g⟩).run P w = .ok (.value (.bool true)) w:=by
 simp[execOp,hx,hy,eqGuard,binOp,Op.equal,Op.maxDepth,Ri 9999 ht hi]
theorem Eu(hg:gB ops n s g=true)(hx:ev n s x = .pointer (some a))(hy:ev n s y = .pointer (some a))(ht:P.underlying t=some (.pointer e))(hi:TI P e (sz+1) by_ z)
 (K:WL r P ops Q rest (Fr n ((d,.bool true) :: s) ds) w):WL r P ops Q (⟨some d,.binOp .eql t x y t', ty,pos,af,g⟩ :: rest) (Fr n s ds) w:=pv hg rfl (Yh hx hy ht hi) K
end
end Go.Sx
namespace Go.Sx
open Go
theorem uN(b:Nat){a:Nat}(h:a<=9223372036854775807):IntKind.i64.wrap ((a:Int).tdiv (b:Int))=((a / b:Nat):Int):=by
 have:a / b<=a:=Nat.div_le_self _ _
 rw[Int.tdiv_eq_ediv_of_nonneg o_,show (a:Int) / (b:Int)=((a / b:Nat):Int) from rfl]
 generalize a / b=c at this
 rw[IntKind.wrap_i64]
 omega
theorem BK(b:Nat){a:Nat}:(a:Int).tmod (b:Int)=((a%b:Nat):Int):=by
 rw[EC o_];rfl
def mc(x y:Int):Int:=if x<y then -1 else if y<x then 1 else 0
theorem W6(x y:Int):iC .i64 (mc x y):=by
 show (-9223372036854775808:Int)<=_/\_<=(9223372036854775807:Int)
 unfold mc
 (repeat' split)<;>omega
def ov:List Int->Int
 | []=>0
 | x :: l=>if x=0 then ov l else x
theorem Mm{xs:List Int}{k:Nat}(h:∀ j x,j<k->xs[j]? = some x->x=0):ov xs=ov (xs.drop k):=by
 induction xs generalizing k with
 | nil=>simp[ov]
 | cons y xs ih =>
  cases k with
  | zero=>rfl
  | succ k =>
   have h0:=h 0 y o_ rfl
   simp only[ov,if_pos h0,List.drop_succ_cons]
   exact ih fun j x hj hx=>h (j+1) x o_ (by simpa using hx)
theorem Ye{xs:List Int}{k:Nat}{x:Int}(h:∀ j x,j<k->xs[j]? = some x->x=0)(hx:xs[k]? = some x)(h0:x≠0):ov xs=x:=by
 rw[Mm h]
 have:=(zd.1 hx)
 obtain⟨hl,e⟩:=this
 rw[wY hl,e]
 simp[ov,h0]
theorem Wl{xs:List Int}{k:Nat}(h:∀ j x,j<k->xs[j]? = some x->x=0)(hk:k=xs.length):ov xs=0:=by
 rw[Mm h,hk]
 simp[ov]
theorem Xo{xs:List Int}{k:Nat}{y:Int}(h:∀ j x,j<k->xs[j]? = some x->x=0)(hx:xs[k]? = some y)(h0:y=0):∀ j x,j<k+1->xs[j]? = some x->x=0:=by
 intro j x hj hjx
 by_cases e:j=k
 . subst e
   rw[hx]at hjx
   cases hjx
   exact h0
 . exact h j x o_ hjx
theorem Xv(a b:gj):ov [mc a.key b.key,mc a.ix b.ix]=sB a b:=by
 unfold ov ov ov mc sB
 (repeat' split)<;>omega
structure je (n:Nat) (ps:List (Option Nat)) (pl:List Nat):Prop where
 len:pl.length=64*ps.length
 room:n<=pl.length
 zero:∀ j,ps[j]? = some none->∀ i,i / 64=j->fM pl i=0
 val:∀ i,fM pl i<=65536
 n:n<=65536
 top:ps.length<=1000000
theorem je.at{n:Nat}{ps:List (Option Nat)}{pl:List Nat}(h:je n ps pl){i:Nat}(hi:i<n):i / 64<ps.length:=by
 have h1:=h.len
 have h2:=h.room
 omega
theorem je.Yb{n:Nat}{ps:List (Option Nat)}{pl:List Nat}(h:je n ps pl){j:Nat}(hj:ps[j]? = some none):List.replicate 64 (Value.int .i64 0)=((pl.drop (64*j)).take 64).flatMap (fun(x:Nat)=>[.int .i64 (x:Int)]):=by
 have hjl:=(zd.1 hj).1
 have hl:=h.len
 have e:(pl.drop (64*j)).take 64=List.replicate 64 0:=by
  rw[List.eq_replicate_iff]
  refine⟨by rw[kD,tU];omega,fun x hx=>?_⟩
  obtain⟨q,hq,rfl⟩:=E7.1 hx
  rw[kD,tU]at hq
  have h1:=h.zero j hj (64*j+q) o_
  have h2:64*j+q<pl.length:=by omega
  simp only[fM,zk h2,zT]at h1
  simp[h1]
 rw[e]
 rfl
theorem je.set{n:Nat}{ps:List (Option Nat)}{pl:List Nat}(h:je n ps pl){i p b:Nat}(hi:i<n)(hp:p<=65536)(hb:ps[i / 64]? = some (some b)):je n ps (iQ pl i p):=by
 have hr:=h.room
 refine⟨by simp only[iQ,gM];exact h.len,by simp only[iQ,gM];exact hr,fun j hj q hq=>?_,fun q=>?_,h.n,h.top⟩
 . unfold iQ
   rw[j5 o_,if_neg (fun e=>by subst e;rw[hq]at hb;rw[hj]at hb;cases hb)]
   exact h.zero j hj q hq
 . unfold iQ
   rw[j5 o_]
   split
   . exact hp
   . exact h.val q
theorem je.made{n:Nat}{ps:List (Option Nat)}{pl:List Nat}(h:je n ps pl){j b:Nat}:je n (ps.set j (some b)) pl:=by
 refine⟨by rw[List.length_set];exact h.len,h.room,fun q hq=>?_,h.val,h.n,by rw[List.length_set];exact h.top⟩
 rw[rN]at hq
 split at hq
 . split at hq<;>cases hq
 . exact h.zero q hq
instance:Inhabited (Option Nat):=⟨none⟩
abbrev gL(x:Nat):List Value:=[.int .i64 (x:Int)]
theorem paN{p:Nat}(h:p<=65536):IntKind.i64.wrap (((p:Int)-1).tdiv 2)=((pa p:Nat):Int):=by
 cases p with
 | zero=>rfl
 | succ p =>
  have e:((p+1:Nat):Int)-1=(p:Int):=by omega
  rw[e]
  have:=uN 2 (a:=p) o_
  exact this
def qq(xs:List gj)(p:Nat):Int:=if 0<p/\iH (fM xs p) (fM xs (pa p))then(pa p:Int)else -1
def mM(xs:List gj)(p:Nat):Int:=if jc xs p=p then -1 else(jc xs p:Int)
theorem TF{xs:List gj}{p:Nat}(h:qq xs p ≠ -1):qq xs p=((pa p:Nat):Int)/\0<p/\iH (fM xs p) (fM xs (pa p)):=by
 unfold qq at h ⊢
 split
 . rename_i h1;exact⟨rfl,h1⟩
 . rename_i h1;rw[if_neg h1]at h;exact absurd rfl h
theorem Sf{xs:List gj}{p:Nat}(h:qq xs p = -1):¬ (0<p/\iH (fM xs p) (fM xs (pa p))):=by
 intro h1
 unfold qq at h
 rw[if_pos h1]at h
 omega
theorem Uo{xs:List gj}{p:Nat}(h:mM xs p ≠ -1):mM xs p=((jc xs p:Nat):Int)/\jc xs p≠p:=by
 unfold mM at h ⊢
 split
 . rename_i h1;rw[if_pos h1]at h;exact absurd rfl h
 . rename_i h1;exact⟨rfl,h1⟩
theorem Sh{xs:List gj}{p:Nat}(h:mM xs p = -1):jc xs p=p:=by
 unfold mM at h
 split at h
 . assumption
 . omega
structure lN (n:Nat) (xs ys:List gj) (ps qs:List (Option Nat)) (pl:List Nat):Prop where
 hp:Hp n ys pl
 ir:je n qs pl
 len:ys.length=xs.length
 mem:∀ e,e∈ys↔e∈xs
 nJ:qs.length=ps.length
theorem lN.swap{n:Nat}{xs ys:List gj}{ps qs rs:List (Option Nat)}{pl:List Nat}{p q:Nat}(h:lN n xs ys ps qs pl)(hp:p<ys.length)(hq:q<ys.length)(hl:rs.length=qs.length)
 (hP:je n rs (iQ (iQ pl (fM (iB ys p q) p).ix (p+1)) (fM (iB ys p q) q).ix (q+1))):lN n xs (iB ys p q) ps rs (iQ (iQ pl (fM (iB ys p q) p).ix (p+1)) (fM (iB ys p q) q).ix (q+1)) :=
 ⟨h.hp.swap hp hq,hP,by rw[l7,h.len],fun e=>(Gw hp hq e).trans (h.mem e),hl.trans h.nJ⟩
theorem lN.refl{n:Nat}{xs:List gj}{ps:List (Option Nat)}{pl:List Nat}(h:Hp n xs pl)(hP:je n ps pl):lN n xs xs ps ps pl:=⟨h,hP,rfl,fun _=>Iff.rfl,rfl⟩
theorem lN.trans{n:Nat}{xs ys zs:List gj}{ps qs rs:List (Option Nat)}{pl ql:List Nat}(h:lN n xs ys ps qs pl)(k:lN n ys zs qs rs ql):lN n xs zs ps rs ql :=
 ⟨k.hp,k.ir,k.len.trans h.len,fun e=>(k.mem e).trans (h.mem e),k.nJ.trans h.nJ⟩
theorem je.copy{n k:Nat}{ps qs:List (Option Nat)}{pl:List Nat}(h:je n ps pl)(c:qc ps qs k)(hk:k=ps.length):je n qs pl :=
 ⟨by rw[c.len];exact h.len,h.room,fun j hj i hi=>h.zero j (c.done j (by have:=(zd.1 hj).1;have:=c.len;omega) hj) i hi,h.val,h.n,by rw[c.len];exact h.top⟩
theorem je.new{n m:Nat}(hn:n<=65536)(hm:m=(n+63) / 64):je n (List.replicate m none) (List.replicate (64*m) 0):=by
 have h0:∀ i,fM (List.replicate (64*m) 0) i=0:=fun i=>by
  unfold fM
  rw[Cg]
  split<;>rfl
 exact⟨s_,by simp;omega,fun j _ i _=>h0 i,fun i=>by rw[h0];omega,hn,by simp;omega⟩
theorem Hp.new{n m:Nat}(hm:m=(n+63) / 64):Hp n [] (List.replicate (64*m) 0):=by
 have h0:∀ i,fM (List.replicate (64*m) 0) i=0:=fun i=>by
  unfold fM
  rw[Cg]
  split<;>rfl
 exact⟨fun p hp=>by simp at hp,fun p hp=>by simp at hp,fun p hp=>by simp at hp,fun i p _ hp=>by rw[h0]at hp;omega,by simp;omega,s_⟩
theorem Ord.nil:Ord []:=fun j _ hj=>by simp at hj
end Go.Sx
namespace Go.Sx
open Go
structure gO where
 st:Int
 after:Int
 times:Int
 deriving Inhabited
def gO.cells(x:gO):List Value:=[.int .i64 x.st,.int .i64 x.after,.int .u64 x.times]
structure As where
 n:Nat
 begun:Nat
 used:Nat
 last:Int
 sl:List gO
 fl:List Nat
 ps:List (Option Nat)
def BP(sl:List gO):Int->List Nat->Prop
 | l,[]=>l = -1
 | l,i :: r=>l=(i:Int)/\BP sl (fM sl i).after r
def As.ig(A:As)(i:Nat):Prop:=i<A.begun/\i∉A.fl
structure As.ok (A:As):Prop where
 n:A.n<=65536
 le:A.begun<=A.n
 nJ:A.ps.length=(A.begun+63) / 64
 ps:∀ j,j<A.ps.length->∃ b,A.ps[j]? = some (some b)
 sl:A.sl.length=64*A.ps.length
 nodup:A.fl.Nodup
 fl:∀ i∈A.fl,i<A.begun
 chain:BP A.sl A.last A.fl
 st:∀ i,i<A.begun->(fM A.sl i).st=if i∈A.fl then 2 else 1
 used:A.used+A.fl.length=A.begun
theorem CW:∀ (L M:List Nat),L.Nodup->(∀ j∈L,j∈M)->L.length<=M.length
 | [],_,_,_=>by simp
 | x :: L,M,hn,h=>by
  have hx:=h x s_
  have h1:=CW L (M.erase x) (zy.1 hn).2 (fun j hj=>(List.mem_erase_of_ne (fun e=>(zy.1 hn).1 (by rw[<-e];exact hj))).2 (h j (by simp[hj])))
  rw[Jw hx]at h1
  have:=JF hx
  simp only[zp]
  omega
theorem AP(n:Nat)(L:List Nat)(hn:L.Nodup)(h:∀ j∈L,j<n):L.length<=n:=by
 have:=CW L (List.range n) hn (fun j hj=>mC.2 (h j hj))
 simpa using this
theorem As.ok.room{A:As}(h:A.ok){i:Nat}(hi:i<A.begun):i<A.sl.length/\i / 64<A.ps.length:=by
 have h1:=h.sl
 have h2:=h.nJ
 omega
theorem As.ok.at{A:As}(h:A.ok){i:Nat}(hi:i<A.begun):∃ b,A.ps[i / 64]? = some (some b):=h.ps _ (h.room hi).2
theorem BP.congr{sl sl' : List gO}:∀ {r:List Nat} {l:Int},BP sl l r->(∀ i∈r,(fM sl' i).after=(fM sl i).after)->BP sl' l r
 | [],_,h,_=>h
 | i :: r,l,h,he=>⟨h.1,by rw[he i s_];exact h.2.congr fun j hj=>he j (by simp[hj])⟩
def tk(x:gO):gO:=⟨1,-1,IntKind.u64.wrap (x.times+1)⟩
theorem JJ{sl:List gO}{i:Nat}(hi:i<sl.length){t:Int}(ht:t=IntKind.u64.wrap ((fM sl i).times+1)):fR (fR (fR sl i (fun x=>{ x with st:=1 })) i (fun x=>{ x with after := -1 })) i (fun x=>{ x with times:=t })=fR sl i tk:=by
 subst ht
 have e:∀ (l:List gO) (f g:gO->gO),i<l.length->fR (fR l i f) i g=fR l i (fun x=>g (f x)):=fun l f g h=>by
  have e:=kr (f:=f) h
  unfold fR at e ⊢
  rw[e,List.set_set]
 rw[e _ _ _ hi,e _ _ _ hi]
 rfl
theorem As.ok.pop{A:As}(h:A.ok){i:Nat}{r:List Nat}(hf:A.fl=i :: r) :
 As.ok ⟨A.n,A.begun,A.used+1,(fM A.sl i).after,fR A.sl i tk,r,A.ps⟩/\(∀ j,As.ig ⟨A.n,A.begun,A.used+1,(fM A.sl i).after,fR A.sl i tk,r,A.ps⟩ j↔A.ig j\/j=i)/\¬ A.ig i/\i<A.begun/\A.last=(i:Int):=by
 have hc:=h.chain
 have hn:=h.nodup
 rw[hf]at hc hn
 rw[zy]at hn
 have hib:i<A.begun:=h.fl i (by rw[hf];simp)
 have hil:=(h.room hib).1
 have hu:=fun j=>j5 (xs:=A.sl) (k:=i) (j:=j) (f:=tk) hil
 refine⟨⟨h.n,h.le,h.nJ,h.ps,by simp only[gM];exact h.sl,hn.2,fun j hj=>h.fl j (by rw[hf];simp[hj]),?_,fun j hj=>?_,?_⟩,fun j=>?_,fun hu=>hu.2 (by rw[hf];simp),hib,hc.1⟩
 . refine hc.2.congr fun j hj=>?_
   rw[hu,if_neg (fun e=>hn.1 (by rw[e];exact hj))]
 . simp only
   rw[hu]
   split
   . rename_i e
     subst e
     rw[if_neg hn.1]
     rfl
   . rename_i e
     have:=h.st j hj
     rw[this,hf]
     simp only[zb]
     by_cases h1:j∈r
     . rw[if_pos (.inr h1),if_pos h1]
     . rw[if_neg (fun h2=>h2.elim (fun h3=>e h3.symm) h1),if_neg h1]
 . have:=h.used
   rw[hf]at this
   simp only[zp]at this
   show A.used+1+r.length=A.begun
   omega
 . simp only[As.ig,hf,zb,not_or]
   constructor
   . rintro⟨a,b⟩
     by_cases e:j=i
     . exact .inr e
     . exact .inl ⟨a,e,b⟩
   . rintro(⟨a,b,c⟩|rfl)
     . exact⟨a,c⟩
     . exact⟨hib,hn.1⟩
theorem As.ok.fresh{A:As}(h:A.ok)(hf:A.fl=[])(hlt:A.begun<A.n){ps2:List (Option Nat)}{sl2:List gO}{b:Nat}(hb:(A.begun%64=0/\ps2=A.ps++[some b]/\sl2=A.sl++List.replicate 64 ⟨0,0,0⟩)\/(A.begun%64≠0/\ps2=A.ps/\sl2=A.sl)) :
 As.ok ⟨A.n,A.begun+1,A.used+1,A.last,fR sl2 A.begun tk,[],ps2⟩/\(∀ j,As.ig ⟨A.n,A.begun+1,A.used+1,A.last,fR sl2 A.begun tk,[],ps2⟩ j↔A.ig j\/j=A.begun)/\¬ A.ig A.begun/\A.last = -1/\A.begun<sl2.length/\∃ c,ps2[A.begun / 64]? = some (some c):=by
 have hc:=h.chain
 have h1:=h.sl
 have h2:=h.nJ
 rw[hf]at hc
 have hps:ps2.length=(A.begun+1+63) / 64/\sl2.length=64*ps2.length/\(∀ j,j<ps2.length->∃ b,ps2[j]? = some (some b))/\∀ j,j<A.begun->fM sl2 j=fM A.sl j:=by
  rcases hb with ⟨e,rfl,rfl⟩|⟨e,rfl,rfl⟩
  . refine⟨by simp;omega,by simp;omega,fun j hj=>?_,fun j hj=>?_⟩
    . rw[zS]
      split
      . exact h.ps j (by assumption)
      . simp at hj
        have:j-A.ps.length=0:=by omega
        rw[this]
        exact⟨b,rfl⟩
    . unfold fM
      rw[sS o_]
  . exact⟨o_,h1,h.ps,fun j _=>rfl⟩
 obtain⟨p1,p2,p3,p4⟩:=hps
 have hlt2:A.begun<sl2.length:=by omega
 have hu:=fun j=>j5 (xs:=sl2) (k:=A.begun) (j:=j) (f:=tk) hlt2
 refine⟨⟨h.n,by show A.begun+1<=A.n;omega,p1,p3,by simp only[gM];exact p2,xh,fun i hi=>by simp at hi,hc,fun j hj=>?_,?_⟩,fun j=>?_,fun hu=>absurd hu.1 o_,hc,hlt2,p3 _ o_⟩
 . simp only[rF,if_false]
   rw[hu]
   split
   . rfl
   . rename_i e
     have hj' : j<A.begun:=by
      have:j<A.begun+1:=hj
      omega
     rw[p4 j hj', h.st j hj', hf]
     simp
 . have:=h.used
   rw[hf]at this
   simp at this ⊢
   omega
 . simp only[As.ig,hf,rF,not_false_eq_true,and_true]
   omega
theorem As.ok.full{A:As}(h:A.ok)(hu:A.used<A.n):(∃ i r,A.fl=i :: r)\/(A.fl=[]/\A.begun<A.n):=by
 have h1:=h.used
 cases hf:A.fl with
 | cons i r=>exact .inl ⟨i,r,rfl⟩
 | nil =>
  rw[hf]at h1
  simp at h1
  exact .inr ⟨rfl,o_⟩
theorem As.ok.free{A:As}(h:A.ok){i:Nat}(hi:A.ig i){sl2:List gO}(hs:sl2=fR (fR A.sl i (fun x=>{ x with st:=2 })) i (fun x=>{ x with after:=A.last })) :
 As.ok ⟨A.n,A.begun,A.used-1,(i:Int),sl2,i :: A.fl,A.ps⟩/\(∀ j,As.ig ⟨A.n,A.begun,A.used-1,(i:Int),sl2,i :: A.fl,A.ps⟩ j↔A.ig j/\j≠i)/\0<A.used:=by
 obtain⟨hib,hif⟩:=hi
 have hil:=(h.room hib).1
 have h1:=h.used
 have hu0:0<A.used:=by
  have hsub:(i :: A.fl).length<=A.begun:=by
   have hn:(i :: A.fl).Nodup:=zy.2 ⟨hif,h.nodup⟩
   exact AP A.begun _ hn fun j hj=>by
    rcases zb.1 hj with rfl|hj
    . exact hib
    . exact h.fl j hj
  simp only[zp]at hsub
  omega
 have hu:∀ j,fM sl2 j=if i=j then { fM A.sl i with st:=2,after:=A.last } else fM A.sl j:=fun j=>by
  subst hs
  rw[j5 (by rw[gM];exact hil)]
  by_cases e:i=j
  . rw[if_pos e,if_pos e,kr hil]
  . rw[if_neg e,if_neg e,kn e]
 refine⟨⟨h.n,h.le,h.nJ,h.ps,by rw[hs];simp only[gM];exact h.sl,zy.2 ⟨hif,h.nodup⟩,fun j hj=>?_,⟨rfl,?_⟩,fun j hj=>?_,by simp only[zp];omega⟩,fun j=>?_,hu0⟩
 . rcases zb.1 hj with rfl|hj
   . exact hib
   . exact h.fl j hj
 . rw[hu,if_pos rfl]
   refine h.chain.congr fun j hj=>?_
   rw[hu,if_neg (fun e=>hif (by rw[e];exact hj))]
 . simp only
   rw[hu]
   split
   . rename_i e
     subst e
     simp
   . rename_i e
     rw[h.st j hj]
     simp only[zb]
     by_cases h1:j∈A.fl
     . rw[if_pos h1,if_pos (.inr h1)]
     . rw[if_neg h1,if_neg (fun h2=>h2.elim (fun h3=>e h3.symm) h1)]
 . simp only[As.ig,zb,not_or]
   constructor
   . rintro⟨a,b,c⟩;exact⟨⟨a,c⟩,b⟩
   . rintro⟨⟨a,c⟩,b⟩;exact⟨a,b,c⟩
def As.list(A:As)(k:Nat):List Nat:=(List.range k).filter fun i=>decide ((fM A.sl i).st=1)
theorem As.Li(A:As)(k:Nat):A.list (k+1)=if (fM A.sl k).st=1 then A.list k++[k]else A.list k:=by
 unfold As.list
 rw[List.range_succ,List.filter_append]
 split
 . rename_i h;simp[h]
 . rename_i h;simp[h]
theorem As.Mj(A:As):∀ k,(A.list k).length<=k:=fun k=>by
 have:=List.length_filter_le (fun i=>decide ((fM A.sl i).st=1)) (List.range k)
 simpa[As.list]using this
theorem As.ok.nO{A:As}(h:A.ok)(i:Nat):i∈A.list A.begun↔A.ig i:=by
 simp only[As.list,Fq,mC,decide_eq_true_eq,As.ig]
 constructor
 . rintro⟨a,b⟩
   refine⟨a,fun hf=>?_⟩
   rw[h.st i a,if_pos hf]at b
   omega
 . rintro⟨a,b⟩
   exact⟨a,by rw[h.st i a,if_neg b]⟩
theorem As.Cz(A:As)(k:Nat):(A.list k).Pairwise (· < ·):=List.Pairwise.filter _ List.pairwise_lt_range
theorem As.ok.AM{A:As}(h:A.ok):(A.list A.begun).length=A.used:=by
 have hn:(A.list A.begun++A.fl).Nodup:=by
  rw[zu]
  refine⟨(A.Cz _).imp (fun h=>BR h),h.nodup,fun a ha b hb e=>?_⟩
  subst e
  exact((h.nO a).1 ha).2 hb
 have h1:(A.list A.begun++A.fl).length<=A.begun:=AP _ _ hn fun j hj=>by
  rcases zq.1 hj with hj|hj
  . exact((h.nO j).1 hj).1
  . exact h.fl j hj
 have h2:(List.range A.begun).length<=(A.list A.begun++A.fl).length:=by
  refine CW _ _ BW fun j hj=>?_
  rw[mC]at hj
  by_cases e:j∈A.fl
  . exact vE _ e
  . exact ve _ ((h.nO j).2 ⟨hj,e⟩)
 have h3:=h.used
 simp only[zw,List.length_range]at h1 h2
 omega
def As.new(n:Nat):As:=⟨n,0,0,-1,[],[],[]⟩
theorem As.uD{n:Nat}(hn:n<=65536):(As.new n).ok :=
 ⟨hn,mS _,by simp[As.new],fun j hj=>by simp[As.new]at hj,rfl,xh,fun i hi=>by simp[As.new]at hi,rfl,fun i hi=>by simp[As.new]at hi,rfl⟩
theorem As.ok.copy{A:As}(h:A.ok){qs:List (Option Nat)}(hl:qs.length=A.ps.length)(hq:∀ j,j<qs.length->∃ b,qs[j]? = some (some b)):As.ok { A with ps:=qs } :=
 ⟨h.n,h.le,by show qs.length=_;rw[hl];exact h.nJ,hq,by show A.sl.length=_;rw[h.sl,hl],h.nodup,h.fl,h.chain,h.st,h.used⟩
theorem S7{α:Type}(l:List α)(B k:Nat):l.take (B*k)++(l.drop (B*k)).take B=l.take (B*(k+1)):=by
 rw[zY,zX,List.take_add]
structure wZ (qs:List (Option Nat)) (k:Nat):Prop where
 len:qs.length=k
 all:∀ j,j<qs.length->∃ b,qs[j]? = some (some b)
theorem wZ.start:wZ [] 0:=⟨rfl,fun j hj=>by simp at hj⟩
theorem wZ.next{qs:List (Option Nat)}{k b:Nat}(h:wZ qs k):wZ (qs++[some b]) (k+1) :=
 ⟨by simp[h.len],fun j hj=>by
  rw[zS]
  split
  . exact h.all j (by assumption)
  . simp at hj
    have:j-qs.length=0:=by omega
    rw[this]
    exact⟨b,rfl⟩⟩
theorem XY{α:Type}{l:List α}{B m k:Nat}(hl:l.length=B*m)(hk:k<m):((l.drop (B*k)).take B).length=B/\(l.take (B*k)).length=B*k:=by
 have:B*(k+1)<=B*m:=Cc _ hk
 rw[zY]at this
 rw[kD,tU,kD]
 omega
end Go.Sx
namespace Go.Sx
open Go
structure AW where
 bv:Value
 A:As
structure AW.put (A A2:As) (i:Nat):Prop where
 n:A2.n=A.n
 used:A2.used=A.used+1
 ig:∀ j,A2.ig j↔A.ig j\/j=i
 new:¬ A.ig i
 oG:(i<A.begun/\A2.begun=A.begun)\/(i=A.begun/\A2.begun=A.begun+1)
structure AW.del (A A2:As) (i:Nat):Prop where
 n:A2.n=A.n
 oG:A2.begun=A.begun
 used:A2.used=A.used-1
 pos:0<A.used
 ig:∀ j,A2.ig j↔A.ig j/\j≠i
def kH(a:Int):Int:=(mV .xor .u64 a (a.fdiv (2 ^ 33))).getD 0
def lZ(c a:Int):Int:=IntKind.u64.wrap (a*c)
def yH(id:Int):Int:=kH (lZ 14181476777654086739 (kH (lZ 18397679294719823053 (kH id))))
def kf(n:Nat)(id:Int):Nat:=(yH id%(n:Int)).toNat
theorem vP{n:Nat}{id:Int}(h:0<n):kf n id<n:=by
 have h1:=Int.emod_lt_of_pos (yH id) (show (0:Int)<n by omega)
 have h2:=Cr (yH id) (show (n:Int)≠0 by omega)
 unfold kf
 omega
theorem Uc{n:Nat}{id:Int}(h:0<n):yH id%(n:Int)=(kf n id:Int):=by
 have h2:=Cr (yH id) (show (n:Int)≠0 by omega)
 unfold kf
 omega
def P2(n:Nat):Prop:=∃ k,k<=40/\n=2 ^ k
theorem P2.pos{n:Nat}(h:P2 n):0<n:=by
 obtain⟨k,_,rfl⟩:=h
 exact Nat.two_pow_pos k
theorem P2.le{n:Nat}(h:P2 n):n<=1099511627776:=by
 obtain⟨k,hk,rfl⟩:=h
 calc 2 ^ k<=2 ^ 40:=Nat.pow_le_pow_right d_ hk
  _=1099511627776:=by decide
theorem P2.QN{n:Nat}(h:P2 n)(x:Int):((BitVec.ofInt 64 x) &&& (BitVec.ofInt 64 ((n:Int)-1))).toNat=(x%(n:Int)).toNat:=by
 have hn:=h.pos
 have hl:=h.le
 obtain⟨k,hk,rfl⟩:=h
 rw[BitVec.toNat_and,BitVec.toNat_ofInt,BitVec.toNat_ofInt]
 have e:(((2 ^ k:Nat):Int)-1)%((2 ^ 64:Nat):Int)=((2 ^ k-1:Nat):Int):=by
  rw[Int.emod_eq_of_lt o_ o_]
  omega
 rw[e,rD,Nat.and_two_pow_sub_one_eq_mod]
 have hd:(((2 ^ k:Nat):Int)) ∣ ((2 ^ 64:Nat):Int):=by
  refine Int.natCast_dvd_natCast.2 (Nat.pow_dvd_pow 2 o_)
 have h0:0<=x%((2 ^ 64:Nat):Int):=Cr _ d_
 have h1:=Int.emod_emod_of_dvd x hd
 have h2:((x%((2 ^ 64:Nat):Int)).toNat%2 ^ k:Nat)=((x%((2 ^ 64:Nat):Int))%((2 ^ k:Nat):Int)).toNat:=by
  obtain⟨m,hm⟩:=Int.eq_ofNat_of_zero_le h0
  rw[hm]
  simp only[rD]
  rw[<-Int.natCast_emod,rD]
 rw[h2,h1]
theorem P2.Pb{n:Nat}(h:P2 n)(x:Int):mV .and .i64 x ((n:Int)-1)=some (x%(n:Int)):=by
 have h1:=Int.emod_lt_of_pos x (show (0:Int)<n by have:=h.pos;omega)
 have h2:=Cr x (show (n:Int)≠0 by have:=h.pos;omega)
 have h3:=h.le
 have e:=h.QN x
 show some (IntKind.i64.wrap (((BitVec.ofInt 64 x) &&& (BitVec.ofInt 64 ((n:Int)-1))).toNat:Int))=_
 rw[e,iV o_]
 congr 1
 omega
theorem P2.aaB{n:Nat}(h:P2 n)(x:Int):mV .and .u64 x ((n:Int)-1)=some (x%(n:Int)):=by
 have h1:=Int.emod_lt_of_pos x (show (0:Int)<n by have:=h.pos;omega)
 have h2:=Cr x (show (n:Int)≠0 by have:=h.pos;omega)
 have h3:=h.le
 have e:=h.QN x
 show some (IntKind.u64.wrap (((BitVec.ofInt 64 x) &&& (BitVec.ofInt 64 ((n:Int)-1))).toNat:Int))=_
 rw[e,uV o_]
 congr 1
 omega
theorem P2.nx{n c:Nat}(h:P2 n)(hc:c<n):mV .and .i64 ((c:Int)+1) ((n:Int)-1)=some ((ic n c:Nat):Int):=by
 rw[h.Pb,<-Wh hc]
 rfl
theorem P2.dst{n a b:Nat}(h:P2 n)(ha:a<n)(hb:b<n):mV .and .i64 ((b:Int)-(a:Int)) ((n:Int)-1)=some ((dst n a b:Nat):Int):=by
 rw[h.Pb]
 congr 1
 unfold Sx.dst
 split
 . rw[Int.emod_eq_of_lt o_ o_]
   omega
 . rw[show (b:Int)-(a:Int)=((b:Int)-a+n)+n*(-1) by omega,Int.add_mul_emod_self_left,Int.emod_eq_of_lt o_ o_]
   omega
theorem Hz(a:Int):mV .xor .u64 a (a.fdiv (2 ^ 33))=some (kH a):=rfl
theorem P2.home{n:Nat}(h:P2 n)(id:Int):mV .and .u64 (yH id) ((n:Int)-1)=some ((kf n id:Nat):Int):=by
 rw[h.aaB,Uc h.pos]
def gW(x:Int):List Value:=[.int .u64 x]
structure TW where
 iv:Value
 cv:Value
 w:AW
 ids:List Int
 cs:List Nat
abbrev TW.A(t:TW):As:=t.w.A
abbrev TW.n(t:TW):Nat:=t.cs.length
structure TW.ok (t:TW):Prop where
 p2:P2 t.n
 top:t.n<=1000000
 two:2<=t.n
 room:2*t.A.n<=t.n
 an:t.A.n<=65536
 vw:t.ids.length=t.A.begun
 ids:∀ i,iC .u64 (fM t.ids i)
 cell:∀ i,(∃ p,p<t.n/\fM t.cs p=i+1)↔t.A.ig i
 inj:∀ p q,p<t.n->q<t.n->fM t.cs p≠0->fM t.cs p=fM t.cs q->p=q
 uniq:∀ i j,t.A.ig i->t.A.ig j->fM t.ids i=fM t.ids j->i=j
 Fh:qJ t.n t.cs (fun i=>kf t.n (fM t.ids i))
 oG:t.A.begun<=t.A.n
 ul:t.A.used<=t.A.n
structure TW.Sz (n:Nat):Prop where
 p2:P2 n
 two:2<=n
 top:n<=1000000
theorem TW.ok.sz{t:TW}(h:t.ok):TW.Sz t.n:=⟨h.p2,h.two,h.top⟩
def TW.mem(t:TW)(id:Int):Prop:=∃ i,t.A.ig i/\fM t.ids i=id
theorem TW.ok.val{t:TW}(h:t.ok){p i:Nat}(hp:p<t.n)(hc:fM t.cs p=i+1):t.A.ig i/\i<t.A.begun/\i<t.ids.length/\i<t.A.n:=by
 have h1:=(h.cell i).1 ⟨p,hp,hc⟩
 have h2:=h1.1
 have h3:=h.vw
 have h4:=h.oG
 exact⟨h1,h2,o_,o_⟩
theorem TW.ok.zero{t:TW}(h:t.ok):∃ z,z<t.n/\fM t.cs z=0:=by
 by_cases hz:∃ z,z<t.n/\fM t.cs z=0
 . exact hz
 . exfalso
   have hn:∀ p,p<t.n->fM t.cs p≠0:=fun p hp h0=>hz ⟨p,hp,h0⟩
   have h1:((List.range t.n).map fun p=>fM t.cs p-1).length<=t.A.n:=by
    refine AP _ _ ?_ ?_
    . unfold List.Nodup
      rw[List.pairwise_map]
      refine List.Pairwise.imp_of_mem ?_ (List.pairwise_lt_range (n:=t.n))
      intro p q hp hq hlt e
      rw[mC]at hp hq
      have a1:=hn p hp
      have a2:=hn q hq
      have:=h.inj p q hp hq a1 o_
      omega
    . intro j hj
      obtain⟨p,hp,rfl⟩:=jW.1 hj
      rw[mC]at hp
      have a1:=hn p hp
      exact(h.val hp (i:=fM t.cs p-1) o_).2.2.2
   rw[zr,List.length_range]at h1
   have:=h.room
   have:=h.two
   omega
def TW.find(t:TW)(id:Int):Nat×Bool:=th t.n t.cs (fun i=>fM t.ids i==id) t.n (kf t.n id)
theorem TW.ok.Hy{t:TW}(h:t.ok){i:Nat}(hi:t.A.ig i):∃ p,p<t.n/\fM t.cs p=i+1/\t.find (fM t.ids i)=(p,true):=by
 obtain⟨p,hp,hc⟩:=(h.cell i).2 hi
 refine⟨p,hp,hc,?_⟩
 refine RQ (hm:=fun i=>kf t.n (fM t.ids i)) h.Fh hp hc (vP (by have:=h.two;omega)) s_ ?_ h.zero
 intro q j hq hj hok
 have hj2:=(h.val hq hj).1
 have:=h.uniq j i hj2 hi (by simpa using hok)
 subst this
 exact h.inj q p hq hp o_ o_
theorem TW.ok.ML{t:TW}(h:t.ok){id:Int}(hn:¬ t.mem id):∃ r,r<t.n/\t.find id=(r,false)/\fM t.cs r=0/\∀ q,q<t.n->qz t.n (kf t.n id) r q->fM t.cs q≠0:=by
 refine TH (vP (by have:=h.two;omega)) ?_ h.zero
 intro q j hq hj
 have hj2:=(h.val hq hj).1
 have:fM t.ids j≠id:=fun e=>hn ⟨j,hj2,e⟩
 simpa using this
def wC(ids:List Int)(i:Nat)(id:Int):List Int:=fR (if i=ids.length then ids++[0]else ids) i (fun _=>id)
theorem W5{ids:List Int}{i:Nat}{id:Int}(h:i<=ids.length)(j:Nat):fM (wC ids i id) j=if i=j then id else fM ids j:=by
 unfold wC
 split
 . rename_i e
   rw[j5 (by simp[e])]
   split
   . rfl
   . rename_i hne
     simp only[fM,zS]
     split
     . rfl
     . have h1:(ids[j]? : Option Int)=none:=mB o_
       rw[h1]
       cases hj:([0]:List Int)[j-ids.length]? with
       | none=>rfl
       | some x => 
        have:=zd.1 hj
        simp at this
        omega
 . rw[j5 o_]
theorem VF{ids:List Int}{i:Nat}{id:Int}(h:i<=ids.length):(wC ids i id).length=if i=ids.length then ids.length+1 else ids.length:=by
 unfold wC
 rw[gM]
 split<;>simp
section
variable {t:TW}
theorem TW.ok.put(h:t.ok){id:Int}(hn:¬ t.mem id)(hid:iC .u64 id){v2:AW}{i r:Nat}(hA2:v2.A.ok)(hp:AW.put t.A v2.A i)(hr:r<t.n)(h0:fM t.cs r=0)(hw:∀ q,q<t.n->qz t.n (kf t.n id) r q->fM t.cs q≠0)(iv cv:Value){is2:List Int}{cs2:List Nat}(his:is2=wC t.ids i id)(hcs:cs2=fR t.cs r (fun _=>i+1)) :
 TW.ok ⟨iv,cv,v2,is2,cs2⟩/\∀ x,TW.mem ⟨iv,cv,v2,is2,cs2⟩ x↔t.mem x\/x=id:=by
 have hil:=h.vw
 have hle:i<=t.ids.length:=by
  rcases hp.oG with h1|h1<;>omega
 have hat:∀ j,fM is2 j=if i=j then id else fM t.ids j:=by rw[his];exact W5 hle
 have hcu:∀ q,fM cs2 q=if r=q then i+1 else fM t.cs q:=by rw[hcs];exact fun q=>j5 hr
 have hnl:cs2.length=t.n:=by rw[hcs];exact gM
 have hpl:is2.length=if i=t.ids.length then t.ids.length+1 else t.ids.length:=by rw[his];exact VF hle
 have hin:=hp.ig
 have hni:=hp.new
 have hne:∀ j,t.A.ig j->i≠j:=fun j hj e=>hni (e▸hj)
 have hmem:∀ x,TW.mem ⟨iv,cv,v2,is2,cs2⟩ x↔t.mem x\/x=id:=by
  intro x
  constructor
  . rintro⟨j,hj,hx⟩
    change fM is2 j=x at hx
    rw[hat]at hx
    split at hx
    . exact .inr hx.symm
    . rename_i hij
      rcases(hin j).1 hj with h1|h1
      . exact .inl ⟨j,h1,hx⟩
      . exact absurd h1.symm hij
  . rintro(⟨j,hj,hx⟩|rfl)
    . exact⟨j,(hin j).2 (.inl hj),by show fM is2 j=x;rw[hat,if_neg (hne j hj)];exact hx⟩
    . exact⟨i,(hin i).2 (.inr rfl),by show fM is2 i=x;rw[hat,if_pos rfl]⟩
 have hno:∀ p,p<t.n->fM t.cs p≠i+1:=fun p hp' hc=>hni (h.val hp' hc).1
 refine⟨⟨?_,?_,?_,?_,?_,?_,?_,?_,?_,?_,?_,?_,?_⟩,hmem⟩
 . show P2 cs2.length;rw[hnl];exact h.p2
 . show cs2.length<=_;rw[hnl];exact h.top
 . show 2<=cs2.length;rw[hnl];exact h.two
 . show 2*v2.A.n<=cs2.length;rw[hnl,hp.n];exact h.room
 . show v2.A.n<=_;rw[hp.n];exact h.an
 . show is2.length=v2.A.begun
   rw[hpl]
   rcases hp.oG with h1|h1
   . rw[if_neg o_];omega
   . rw[if_pos o_];omega
 . intro j
   show iC .u64 (fM is2 j)
   rw[hat]
   split
   . exact hid
   . exact h.ids j
 . intro j
   show (∃ p,p<cs2.length/\fM cs2 p=j+1)↔v2.A.ig j
   rw[hnl,hin]
   constructor
   . rintro⟨p,hp', hc⟩
     rw[hcu]at hc
     split at hc
     . exact .inr o_
     . exact .inl ((h.cell j).1 ⟨p,hp', hc⟩)
   . rintro(h1|rfl)
     . obtain⟨p,hp', hc⟩:=(h.cell j).2 h1
       refine⟨p,hp', ?_⟩
       rw[hcu,if_neg (fun e=>by rw[e,hc]at h0;omega)]
       exact hc
     . exact⟨r,hr,by rw[hcu,if_pos rfl]⟩
 . intro p q hp' hq
   show fM cs2 p≠0->fM cs2 p=fM cs2 q->p=q
   change p<cs2.length at hp'
   change q<cs2.length at hq
   rw[hnl]at hp' hq
   rw[hcu,hcu]
   intro a b
   by_cases h1:r=p
   . by_cases h2:r=q
     . omega
     . rw[if_pos h1,if_neg h2]at b
       exact absurd b.symm (hno q hq)
   . by_cases h2:r=q
     . rw[if_neg h1,if_pos h2]at b
       exact absurd b (hno p hp')
     . rw[if_neg h1,if_neg h2]at b
       rw[if_neg h1]at a
       exact h.inj p q hp' hq a b
 . intro a b ha hb
   show fM is2 a=fM is2 b->a=b
   rw[hat,hat]
   intro e
   rcases(hin a).1 ha with h1|h1<;>rcases(hin b).1 hb with h2|h2
   . rw[if_neg (hne a h1),if_neg (hne b h2)]at e
     exact h.uniq a b h1 h2 e
   . rw[if_neg (hne a h1),if_pos h2.symm]at e
     exact absurd ⟨a,h1,e⟩ hn
   . rw[if_pos h1.symm,if_neg (hne b h2)]at e
     exact absurd ⟨b,h2,e.symm⟩ hn
   . omega
 . show qJ cs2.length _ (fun j=>kf cs2.length (fM is2 j))
   rw[hnl]
   have hP:qJ t.n t.cs (fun j=>kf t.n (fM is2 j)):=by
    intro c j q hc hq hj hon
    have h1:=hne j (h.val hc hj).1
    simp only[hat,if_neg h1]at hon
    exact h.Fh c j q hc hq hj hon
   have hP2:=hP.put rfl hr h0 (i:=i) (by
    intro q hq hon
    simp only[hat,if_pos]at hon
    exact hw q hq hon) (vP (by have:=h.two;omega))
   rw[hcs]
   exact hP2
 . show v2.A.begun<=v2.A.n
   exact hA2.le
 . show v2.A.used<=v2.A.n
   have:=hA2.used
   have:=hA2.le
   omega
end
section
variable {t:TW}
def TW.rest(t:TW)(id:Int)(k c:Nat):Prop:=t.find id=th t.n t.cs (fun i=>fM t.ids i==id) (t.n-k) c
theorem TW.Sy(t:TW)(id:Int):t.rest id 0 (kf t.n id):=rfl
theorem TW.He{id:Int}{k c:Nat}(h:t.rest id k c)(hk:k<t.n):t.find id=if fM t.cs c=0 then(c,false)else if (fM t.ids (fM t.cs c-1)==id)=true then(c,true)else th t.n t.cs (fun i=>fM t.ids i==id) (t.n-(k+1)) (ic t.n c):=by
 have e:t.n-k=(t.n-(k+1))+1:=by omega
 unfold TW.rest at h
 rw[e]at h
 exact h
theorem TW.TR{id:Int}{k c:Nat}(h:t.rest id k c)(hk:k<t.n)(h0:fM t.cs c=0):t.find id=(c,false):=by
 rw[TW.He h hk,if_pos h0]
theorem TW.UJ{id:Int}{k c j:Nat}(h:t.rest id k c)(hk:k<t.n)(hj:fM t.cs c=j+1)(he:fM t.ids j=id):t.find id=(c,true):=by
 rw[TW.He h hk,if_neg o_,if_pos (by rw[hj];simpa using he)]
theorem TW.Tn{id:Int}{k c j:Nat}(h:t.rest id k c)(hk:k<t.n)(hj:fM t.cs c=j+1)(he:fM t.ids j≠id):t.rest id (k+1) (ic t.n c):=by
 have:=TW.He h hk
 rw[if_neg o_,if_neg (by rw[hj];simpa using he)]at this
 exact this
theorem TW.VW{id:Int}{c:Nat}(h:t.rest id t.n c):t.find id=(0,false):=by
 unfold TW.rest at h
 rw[Nat.sub_self]at h
 exact h
end
def TW.vz(t:TW)(id:Int)(z:Nat)(b:Bool):Prop:=(b=true/\t.A.ig z/\fM t.ids z=id)\/(b=false/\z=0/\¬ t.mem id)
section
variable {t:TW}
theorem TW.ok.del(h:t.ok){i:Nat}(hi:t.A.ig i){v2:AW}(hA2:v2.A.ok)(hd:AW.del t.A v2.A i){cs2:List Nat}(hnl:cs2.length=t.n)
 (hc:qJ t.n cs2 (fun j=>kf t.n (fM t.ids j))/\(∀ p q,p<t.n->q<t.n->fM cs2 p≠0->fM cs2 p=fM cs2 q->p=q)/\(∀ i2,(∃ p,p<t.n/\fM cs2 p=i2+1)↔i2≠i/\∃ p,p<t.n/\fM t.cs p=i2+1)) (iv cv:Value) {is2:List Int} (his:is2=fR t.ids i (fun _=>0)) :
 TW.ok ⟨iv,cv,v2,is2,cs2⟩/\∀ x,TW.mem ⟨iv,cv,v2,is2,cs2⟩ x↔t.mem x/\x≠fM t.ids i:=by
 obtain⟨hP,hinj,hmem⟩:=hc
 have hil:i<t.ids.length:=by have:=hi.1;have:=h.vw;omega
 have hat:∀ j,fM is2 j=if i=j then 0 else fM t.ids j:=by rw[his];exact fun j=>j5 hil
 have hin:=hd.ig
 have hcell:∀ j,(∃ p,p<t.n/\fM cs2 p=j+1)↔v2.A.ig j:=by
  intro j
  rw[hmem,hin,h.cell]
  exact And.comm
 refine⟨⟨?_,?_,?_,?_,?_,?_,?_,?_,?_,?_,?_,?_,?_⟩,fun x=>⟨?_,?_⟩⟩
 . show P2 cs2.length;rw[hnl];exact h.p2
 . show cs2.length<=_;rw[hnl];exact h.top
 . show 2<=cs2.length;rw[hnl];exact h.two
 . show 2*v2.A.n<=cs2.length;rw[hnl,hd.n];exact h.room
 . show v2.A.n<=_;rw[hd.n];exact h.an
 . show is2.length=v2.A.begun;rw[his,gM,hd.oG];exact h.vw
 . intro j
   show iC .u64 (fM is2 j)
   rw[hat]
   split
   . exact⟨d_,d_⟩
   . exact h.ids j
 . intro j
   show (∃ p,p<cs2.length/\fM cs2 p=j+1)↔v2.A.ig j
   rw[hnl]
   exact hcell j
 . intro p q hp hq
   change p<cs2.length at hp
   change q<cs2.length at hq
   rw[hnl]at hp hq
   exact hinj p q hp hq
 . intro a b ha hb
   show fM is2 a=fM is2 b->a=b
   have h1:=(hin a).1 ha
   have h2:=(hin b).1 hb
   rw[hat,hat,if_neg (fun e=>h1.2 e.symm),if_neg (fun e=>h2.2 e.symm)]
   exact h.uniq a b h1.1 h2.1
 . show qJ cs2.length _ (fun j=>kf cs2.length (fM is2 j))
   rw[hnl]
   intro c j q hc hq hj hon
   have h1:j≠i:=((hmem j).1 ⟨c,hc,hj⟩).1
   simp only[hat,if_neg (fun e=>h1 e.symm:¬ i=j)]at hon
   exact hP c j q hc hq hj hon
 . show v2.A.begun<=v2.A.n
   exact hA2.le
 . show v2.A.used<=v2.A.n
   have:=hA2.used
   have:=hA2.le
   omega
 . rintro⟨j,hj,hx⟩
   change fM is2 j=x at hx
   have h1:=(hin j).1 hj
   rw[hat,if_neg (fun e=>h1.2 e.symm)]at hx
   exact⟨⟨j,h1.1,hx⟩,fun e=>h1.2 (h.uniq j i h1.1 hi (hx.trans e))⟩
 . rintro⟨⟨j,hj,hx⟩,hne⟩
   have hji:j≠i:=fun e=>hne (by rw[<-hx,e])
   exact⟨j,(hin j).2 ⟨hj,hji⟩,by show fM is2 j=x;rw[hat,if_neg (fun e=>hji e.symm)];exact hx⟩
theorem TW.ok.copy(h:t.ok){v2:AW}{qs:List (Option Nat)}(hv:v2.A={ t.A with ps:=qs })(iv cv:Value):TW.ok ⟨iv,cv,v2,t.ids,t.cs⟩/\∀ x,TW.mem ⟨iv,cv,v2,t.ids,t.cs⟩ x↔t.mem x:=by
 have hin:∀ j,v2.A.ig j↔t.A.ig j:=fun j=>by rw[hv];rfl
 have e1:v2.A.n=t.A.n:=by rw[hv]
 have e2:v2.A.begun=t.A.begun:=by rw[hv]
 refine⟨⟨h.p2,h.top,h.two,?_,?_,?_,h.ids,?_,h.inj,?_,h.Fh,?_,?_⟩,fun x=>?_⟩
 . show 2*v2.A.n<=_;rw[e1];exact h.room
 . show v2.A.n<=_;rw[e1];exact h.an
 . show t.ids.length=v2.A.begun;rw[e2];exact h.vw
 . exact fun i=>(h.cell i).trans (hin i).symm
 . exact fun a b ha hb=>h.uniq a b ((hin a).1 ha) ((hin b).1 hb)
 . show v2.A.begun<=v2.A.n;rw[e1,e2];exact h.oG
 . show v2.A.used<=v2.A.n;rw[hv];exact h.ul
 . exact exists_congr fun i=>and_congr_left fun _=>hin i
theorem P2.two:P2 2:=⟨1,d_,rfl⟩
theorem P2.dbl{n:Nat}(h:P2 n)(hn:n<=1000000):P2 (n*2):=by
 obtain⟨k,hk,rfl⟩:=h
 refine⟨k+1,?_,by rw[Nat.pow_succ]⟩
 by_cases h9:k+1<=40
 . exact h9
 . have:2 ^ 20<=2 ^ k:=Nat.pow_le_pow_right d_ o_
   have e:(2:Nat) ^ 20=1048576:=by decide
   omega
theorem TW.uD{m n:Nat}{v:AW}(hv:v.A=As.new m)(hm:m<=65536)(hn:P2 n)(h1:2<=n)(h2:2*m<=n)(h3:n<=1000000)(iv cv:Value):TW.ok ⟨iv,cv,v,[],List.replicate n 0⟩/\∀ x,¬ TW.mem ⟨iv,cv,v,[],List.replicate n 0⟩ x:=by
 have hnl:(List.replicate n 0).length=n:=Fy
 have hz:∀ p,fM (List.replicate n 0) p=0:=by
  intro p
  simp only[fM,Cg]
  split<;>rfl
 have hin:∀ j,¬ v.A.ig j:=fun j hj=>by rw[hv]at hj;exact absurd hj.1 (by simp[As.new])
 have e1:v.A.n=m:=by rw[hv];rfl
 have e2:v.A.begun=0:=by rw[hv];rfl
 refine⟨⟨?_,?_,?_,?_,?_,?_,?_,?_,?_,?_,?_,?_,?_⟩,fun x ⟨j,hj,_⟩=>hin j hj⟩
 . show P2 (List.replicate n 0).length;rw[hnl];exact hn
 . show (List.replicate n 0).length<=_;rw[hnl];exact h3
 . show 2<=(List.replicate n 0).length;rw[hnl];exact h1
 . show 2*v.A.n<=(List.replicate n 0).length;rw[hnl,e1];exact h2
 . show v.A.n<=_;rw[e1];exact hm
 . show ([]:List Int).length=v.A.begun;rw[e2];rfl
 . intro j
   have e:fM ([]:List Int) j=0:=by show (none:Option Int).getD default=0;rfl
   show iC .u64 (fM ([]:List Int) j)
   rw[e]
   exact⟨d_,d_⟩
 . intro i
   constructor
   . rintro⟨p,_,hp⟩
     change fM (List.replicate n 0) p=i+1 at hp
     rw[hz]at hp
     omega
   . exact fun h=>absurd h (hin i)
 . intro p q _ _ h0
   exact absurd (hz p) h0
 . exact fun a b ha=>absurd ha (hin a)
 . intro c j q _ _ hj
   change fM (List.replicate n 0) c=j+1 at hj
   rw[hz]at hj
   omega
 . show v.A.begun<=v.A.n;rw[e2];omega
 . show v.A.used<=v.A.n;rw[hv];exact mS _
end
end Go.Sx
namespace Go.Sx
open Go
structure Lv where
 slot:Int
 seq:Int
 u:Int
 v:Int
 wt:Int
 t:Int
 exp:Int
structure Cf where
 win:Int
 fN:Int
 fQ:Int
 jw:Int
instance:Inhabited Lv:=⟨⟨0,0,0,0,0,0,0⟩⟩
def Lv.cells(x:Lv):List Value:=[.int .i64 x.slot,.int .u64 x.seq,.int .u64 x.u,.int .u64 x.v,.int .i64 x.wt,.int .i64 x.t,.int .i64 x.exp]
structure Lv.ok (x:Lv):Prop where
 slot:iC .i64 x.slot
 seq:iC .u64 x.seq
 u:iC .u64 x.u
 v:iC .u64 x.v
 wt:iC .i64 x.wt
 t:iC .i64 x.t
 exp:iC .i64 x.exp
end Go.Sx
namespace Go.Sx
open Go
end Go.Sx
namespace Go.Sx
open Go
structure fW where
 iN:Nat
 tb:Nat
 ab:Nat
 mb:Nat
 lv:Value
 last:Int
 aw:AW
 t:TW
 live:List Lv
 im:IM
abbrev fW.A(s:fW):As:=s.aw.A
abbrev Lv.at(x:Lv)(id:Int):Prop:=x.u=id\/x.v=id
def fW.inc(s:fW)(id:Int):List Nat:=(fU s.im id).2
structure fW.ok (fQ fN:Nat) (s:fW):Prop where
 n:s.A.n=fN
 tn:s.t.A.n=fQ
 en:fN<=16384
 vn:fQ<=4096
 lH:s.A.ok
 tok:s.t.ok
 ll:s.live.length=s.A.begun
 slot:∀ i,s.A.ig i->(fM s.live i).slot=(i:Int)
 JO:∀ i,(fM s.live i).ok
 ne:∀ i,s.A.ig i->(fM s.live i).u≠(fM s.live i).v
 mem:∀ id,s.t.mem id↔∃ i,s.A.ig i/\(fM s.live i).at id
 keys:(s.im.map Prod.fst).Nodup
 inc:∀ id i,i∈s.inc id↔s.A.ig i/\(fM s.live i).at id
 nd:∀ id,(s.inc id).Nodup
 empty:∀ id,ij s.im id=none↔s.inc id=[]
 seq:∀ i,s.A.ig i->(fM s.live i).seq<=s.last
 El:∀ i j,s.A.ig i->s.A.ig j->(fM s.live i).seq=(fM s.live j).seq->i=j
 sv:0<=s.last
def fW.has(s:fW)(x:Lv):Prop:=∃ i,s.A.ig i/\fM s.live i=x
noncomputable def TW.cnt(t:TW)(id:Int):Nat:=by
 classical
 exact if t.mem id then 0 else 1
theorem TW.xX{t:TW}{id:Int}(h:t.mem id):t.cnt id=0:=by unfold TW.cnt;exact if_pos h
theorem TW.uC{t:TW}{id:Int}(h:¬ t.mem id):t.cnt id=1:=by unfold TW.cnt;exact if_neg h
theorem TW.vz.cnt{t:TW}{id:Int}{z:Nat}{b:Bool}(h:t.vz id z b):t.cnt id=if b then 0 else 1:=by
 rcases h with ⟨rfl,h1,h2⟩|⟨rfl,_,h⟩
 . exact TW.xX ⟨z,h1,h2⟩
 . exact TW.uC h
noncomputable def fW.gH(s:fW)(fQ fN:Nat)(u v:Int):Int:=by
 classical
 exact if u=v then 9 else if fN<=s.A.used then 12 else if fQ<s.t.A.used+(s.t.cnt u+s.t.cnt v)then 11 else 0
theorem fW.MR{s:fW}{fQ fN:Nat}{u v:Int}(h:u=v):s.gH fQ fN u v=9:=by unfold fW.gH;rw[if_pos h]
theorem fW.Lj{s:fW}{fQ fN:Nat}{u v:Int}(h:u≠v)(h1:fN<=s.A.used):s.gH fQ fN u v=12:=by unfold fW.gH;rw[if_neg h,if_pos h1]
theorem fW.AN{s:fW}{fQ fN:Nat}{u v:Int}(h:u≠v)(h1:¬ fN<=s.A.used)(h2:fQ<s.t.A.used+(s.t.cnt u+s.t.cnt v)):s.gH fQ fN u v=11:=by unfold fW.gH;rw[if_neg h,if_neg h1,if_pos h2]
theorem fW.Ba{s:fW}{fQ fN:Nat}{u v:Int}(h:u≠v)(h1:¬ fN<=s.A.used)(h2:¬ fQ<s.t.A.used+(s.t.cnt u+s.t.cnt v)):s.gH fQ fN u v=0:=by unfold fW.gH;rw[if_neg h,if_neg h1,if_neg h2]
theorem fW.MO{s:fW}{fQ fN:Nat}{u v:Int}(h:s.gH fQ fN u v=0):u≠v/\s.A.used<fN/\s.t.A.used+(s.t.cnt u+s.t.cnt v)<=fQ:=by
 by_cases h1:u=v
 . rw[fW.MR h1]at h;cases h
 . by_cases h2:fN<=s.A.used
   . rw[fW.Lj h1 h2]at h;cases h
   . by_cases h3:fQ<s.t.A.used+(s.t.cnt u+s.t.cnt v)
     . rw[fW.AN h1 h2 h3]at h;cases h
     . exact⟨h1,o_,o_⟩
def wv(ls:List Lv)(i:Nat)(x:Lv):List Lv:=fR (if i=ls.length then ls++[default]else ls) i (fun _=>x)
theorem Xw{ls:List Lv}{i:Nat}{x:Lv}(h:i<=ls.length)(j:Nat):fM (wv ls i x) j=if i=j then x else fM ls j:=by
 unfold wv
 split
 . rename_i e
   rw[j5 (by simp[e])]
   split
   . rfl
   . rename_i hne
     simp only[fM,zS]
     split
     . rfl
     . have h1:(ls[j]? : Option Lv)=none:=mB o_
       rw[h1,mB (by simp;omega)]
 . rw[j5 o_]
theorem UY{ls:List Lv}{i:Nat}{x:Lv}(h:i<=ls.length):(wv ls i x).length=if i=ls.length then ls.length+1 else ls.length:=by
 unfold wv
 rw[gM]
 split<;>simp
section
variable {fQ fN:Nat} {s:fW}
theorem fW.ok.ins(h:s.ok fQ fN){e:Lv}{i:Nat}{aw2:AW}{t3:TW}(hp:AW.put s.A aw2.A i)(ha:aw2.A.ok)(hto:t3.ok)(hes:e.slot=(i:Int))(heq:e.seq=s.last+1)(heo:e.ok)(hne:e.u≠e.v)
 (ht:∀ x,t3.mem x↔(s.t.mem x\/x=e.u)\/x=e.v) (htn:t3.A.n=s.t.A.n) {lv2 v1 v2:Value} {ls:List Lv} (hls:ls=wv s.live i e) {im2:IM}
 (him:im2=gm (gm s.im e.u (v1,s.inc e.u++[i])) e.v (v2,s.inc e.v++[i])) :
 fW.ok fQ fN ⟨s.iN,s.tb,s.ab,s.mb,lv2,s.last+1,aw2,t3,ls,im2⟩/\∀ x,fW.has ⟨s.iN,s.tb,s.ab,s.mb,lv2,s.last+1,aw2,t3,ls,im2⟩ x↔s.has x\/x=e:=by
 have hll:=h.ll
 have hle:i<=s.live.length:=by
  rcases hp.oG with h1|h1<;>omega
 have hat:∀ j,fM ls j=if i=j then e else fM s.live j:=by rw[hls];exact Xw hle
 have hln:ls.length=if i=s.live.length then s.live.length+1 else s.live.length:=by rw[hls];exact UY hle
 have hin:=hp.ig
 have hni:=hp.new
 have hnj:∀ j,s.A.ig j->i≠j:=fun j hj e=>hni (e▸hj)
 have hold:∀ j,s.A.ig j->fM ls j=fM s.live j:=fun j hj=>by rw[hat,if_neg (hnj j hj)]
 have hnew:fM ls i=e:=by rw[hat,if_pos rfl]
 have hget:∀ id,ij im2 id=if e.v=id then some (v2,s.inc e.v++[i])else if e.u=id then some (v1,s.inc e.u++[i])else ij s.im id:=by
  intro id
  rw[him,xB,xB]
 have hinc:∀ id,(fU im2 id).2=if e.v=id then s.inc e.v++[i]else if e.u=id then s.inc e.u++[i]else s.inc id:=by
  intro id
  unfold fU
  rw[hget]
  split
  . rfl
  . split
    . rfl
    . rfl
 have hnot:∀ id,i∉s.inc id:=fun id hi=>hni ((h.inc id i).1 hi).1
 refine⟨⟨?_,?_,h.en,h.vn,ha,hto,?_,?_,?_,?_,?_,?_,?_,?_,?_,?_,?_,?_⟩,fun x=>⟨?_,?_⟩⟩
 . exact hp.n.trans h.n
 . exact htn.trans h.tn
 . show ls.length=aw2.A.begun
   rw[hln]
   rcases hp.oG with h1|h1
   . rw[if_neg o_];omega
   . rw[if_pos o_];omega
 . intro j hj
   show (fM ls j).slot=(j:Int)
   rcases(hin j).1 hj with h1|rfl
   . rw[hold j h1];exact h.slot j h1
   . rw[hnew];exact hes
 . intro j
   show (fM ls j).ok
   rw[hat]
   split
   . exact heo
   . exact h.JO j
 . intro j hj
   show (fM ls j).u≠(fM ls j).v
   rcases(hin j).1 hj with h1|rfl
   . rw[hold j h1];exact h.ne j h1
   . rw[hnew];exact hne
 . intro id
   show t3.mem id↔∃ j,aw2.A.ig j/\(fM ls j).at id
   rw[ht,h.mem]
   constructor
   . rintro((⟨j,hj,hx⟩|rfl)|rfl)
     . exact⟨j,(hin j).2 (.inl hj),by rw[hold j hj];exact hx⟩
     . exact⟨i,(hin i).2 (.inr rfl),by rw[hnew];exact .inl rfl⟩
     . exact⟨i,(hin i).2 (.inr rfl),by rw[hnew];exact .inr rfl⟩
   . rintro⟨j,hj,hx⟩
     rcases(hin j).1 hj with h1|rfl
     . rw[hold j h1]at hx
       exact .inl (.inl ⟨j,h1,hx⟩)
     . rw[hnew]at hx
       rcases hx with hx|hx
       . exact .inl (.inr hx.symm)
       . exact .inr hx.symm
 . show (im2.map Prod.fst).Nodup
   rw[him]
   exact CJ (CJ h.keys _ _) _ _
 . intro id j
   show j∈(fU im2 id).2↔aw2.A.ig j/\(fM ls j).at id
   rw[hinc,hin]
   have hi0:=h.inc id j
   have haux:j∈s.inc id↔(s.A.ig j\/j=i)/\j≠i/\(fM ls j).at id:=by
    rw[hi0]
    constructor
    . rintro⟨h1,h2⟩
      exact⟨.inl h1,fun e=>hnj j h1 e.symm,by rw[hold j h1];exact h2⟩
    . rintro⟨h1|h1,h2,h3⟩
      . rw[hold j h1]at h3;exact⟨h1,h3⟩
      . exact absurd h1 h2
   have hii:j=i->((fM ls j).at id↔e.u=id\/e.v=id):=by rintro rfl;rw[hnew]
   by_cases hv:e.v=id
   . rw[if_pos hv,zq,lY,hv,haux]
     constructor
     . rintro(⟨h1,_,h3⟩|h1)
       . exact⟨h1,h3⟩
       . exact⟨.inr h1,(hii h1).2 (.inr hv)⟩
     . rintro⟨h1,h2⟩
       by_cases hj:j=i
       . exact .inr hj
       . exact .inl ⟨h1,hj,h2⟩
   . rw[if_neg hv]
     by_cases hu:e.u=id
     . rw[if_pos hu,zq,lY,hu,haux]
       constructor
       . rintro(⟨h1,_,h3⟩|h1)
         . exact⟨h1,h3⟩
         . exact⟨.inr h1,(hii h1).2 (.inl hu)⟩
       . rintro⟨h1,h2⟩
         by_cases hj:j=i
         . exact .inr hj
         . exact .inl ⟨h1,hj,h2⟩
     . rw[if_neg hu,haux]
       constructor
       . rintro⟨h1,_,h3⟩
         exact⟨h1,h3⟩
       . rintro⟨h1,h2⟩
         refine⟨h1,fun hj=>?_,h2⟩
         rcases(hii hj).1 h2 with h3|h3
         . exact hu h3
         . exact hv h3
 . intro id
   show (fU im2 id).2.Nodup
   rw[hinc]
   have hap:∀ id,(s.inc id++[i]).Nodup:=fun id=>zu.2 ⟨h.nd id,s_,fun a ha b hb=>by
    rw[lY]at hb
    subst hb
    rintro rfl
    exact hnot id ha⟩
   split
   . exact hap _
   . split
     . exact hap _
     . exact h.nd id
 . intro id
   show ij im2 id=none↔(fU im2 id).2=[]
   rw[hinc,hget]
   split
   . simp
   . split
     . simp
     . exact h.empty id
 . intro j hj
   show (fM ls j).seq<=s.last+1
   rcases(hin j).1 hj with h1|rfl
   . rw[hold j h1];have:=h.seq j h1;omega
   . rw[hnew,heq];omega
 . intro a b hja hjb
   show (fM ls a).seq=(fM ls b).seq->a=b
   rcases(hin a).1 hja with h1|h1<;>rcases(hin b).1 hjb with h2|h2
   . rw[hold a h1,hold b h2];exact h.El a b h1 h2
   . rw[hold a h1,h2,hnew,heq];intro e9;have:=h.seq a h1;omega
   . rw[hold b h2,h1,hnew,heq];intro e9;have:=h.seq b h2;omega
   . intro _;omega
 . show 0<=s.last+1
   have:=h.sv
   omega
 . rintro⟨j,hj,hx⟩
   change fM ls j=x at hx
   rcases(hin j).1 hj with h1|h1
   . rw[hold j h1]at hx;exact .inl ⟨j,h1,hx⟩
   . rw[h1,hnew]at hx;exact .inr hx.symm
 . rintro(⟨j,hj,hx⟩|rfl)
   . exact⟨j,(hin j).2 (.inl hj),by show fM ls j=x;rw[hold j hj];exact hx⟩
   . exact⟨i,(hin i).2 (.inr rfl),hnew⟩
end
structure TW.Jx (t t2:TW) (id:Int):Prop where
 mem:∀ x,t2.mem x↔t.mem x\/x=id
 n:t2.A.n=t.A.n
 used:t2.A.used=t.A.used+t.cnt id
theorem TW.OJ{t:TW}{u:Int}(h:t.A.used+t.cnt u<=t.A.n):t.mem u\/t.A.used<t.A.n:=by
 by_cases hm:t.mem u
 . exact .inl hm
 . rw[TW.uC hm]at h
   exact .inr o_
theorem TW.Jx.room{t t2:TW}{u v:Int}(p:TW.Jx t t2 u)(h:t.A.used+(t.cnt u+t.cnt v)<=t.A.n):t2.mem v\/t2.A.used<t2.A.n:=by
 by_cases hm:t2.mem v
 . exact .inl hm
 . have hn:¬ t.mem v:=fun h9=>hm ((p.mem v).2 (.inl h9))
   rw[TW.uC hn]at h
   rw[p.used,p.n]
   exact .inr o_
theorem rR{γ:Type}[Inhabited γ]{m:List (Int×γ)}{a c:Int}{x:γ}(h:a≠c):fU (gm m a x) c=fU m c:=by
 unfold fU
 rw[xB,if_neg h]
theorem lE{a:Int}(h : -9223372036854775808<=a/\a<=9223372036854775807):iC .i64 a:=h
theorem pP{a:Int}(h:0<=a/\a<=18446744073709551615):iC .u64 a:=h
theorem fW.ok.Je{fQ fN:Nat}{s:fW}(h:s.ok fQ fN)(id:Int):(s.inc id).length<=65536:=by
 refine z7 (AP s.A.begun _ (h.nd id) fun j hj=>((h.inc id j).1 hj).1.1) ?_
 have:=h.lH.le
 have:=h.n
 have:=h.en
 omega
structure mK (im:IM) (t:TW) (im2:IM) (t2:TW) (id:Int) (i:Nat):Prop where
 get:∀ c j,j∈(fU im2 c).2↔j∈(fU im c).2/\(c=id->j≠i)
 nd:(∀ c,(fU im c).2.Nodup)->∀ c,(fU im2 c).2.Nodup
 none:(∀ c,ij im c=none↔(fU im c).2=[])->∀ c,ij im2 c=none↔(fU im2 c).2=[]
 keys:(im.map Prod.fst).Nodup->(im2.map Prod.fst).Nodup
 mem:∀ x,t2.mem x↔t.mem x/\(x=id->(fU im2 id).2≠[])
 n:t2.A.n=t.A.n
theorem UL{γ:Type}[Inhabited γ]{m:List (Int×γ)}{a c:Int}{x:γ}:fU (gm m a x) c=if a=c then x else fU m c:=by
 unfold fU
 rw[xB]
 split<;>rfl
theorem UQ{m:IM}(hn:(m.map Prod.fst).Nodup){a c:Int}:fU (gK m a) c=if a=c then default else fU m c:=by
 unfold fU
 rw[GF hn]
 split<;>rfl
theorem Ib{xs:List Nat}(hn:xs.Nodup){a b:Nat}(ha:a<xs.length)(hb:b<xs.length)(e:xs[a]=xs[b]):a=b:=by
 rcases tV a b with h|h|h
 . exact absurd e (wU.1 hn a b ha hb h)
 . exact h
 . exact absurd e.symm (wU.1 hn b a hb ha h)
theorem LG{xs:List Nat}{i k:Nat}(hn:xs.Nodup)(hk:xs[k]? = some i)(j:Nat):j∈xs.eraseIdx k↔j∈xs/\j≠i:=by
 obtain⟨hkl,hke⟩:=zd.1 hk
 rw[List.mem_eraseIdx_iff_getElem]
 constructor
 . rintro⟨a,ha,hne,rfl⟩
   refine⟨List.getElem_mem ha,fun e=>hne ?_⟩
   exact Ib hn ha hkl (e.trans hke.symm)
 . rintro⟨hj,hne⟩
   obtain⟨a,ha,rfl⟩:=zP hj
   exact⟨a,ha,fun e=>hne (by subst e;exact hke),rfl⟩
theorem mK.keep{im:IM}{t:TW}{id:Int}{i k:Nat}{v:Value}(hn:(fU im id).2.Nodup)(hk:(fU im id).2[k]? = some i)(hne:(fU im id).2.eraseIdx k≠[]):mK im t (gm im id (v,(fU im id).2.eraseIdx k)) t id i:=by
 have hg:∀ c,(fU (gm im id (v,(fU im id).2.eraseIdx k)) c).2=if id=c then(fU im id).2.eraseIdx k else(fU im c).2:=fun c=>by rw[UL];split<;>rfl
 refine⟨fun c j=>?_,fun h c=>?_,fun h c=>?_,fun h=>CJ h _ _,fun x=>⟨fun h=>⟨h,fun _=>?_⟩,fun h=>h.1⟩,rfl⟩
 . rw[hg]
   split
   . rename_i e
     subst e
     rw[LG hn hk]
     exact⟨fun h=>⟨h.1,fun _=>h.2⟩,fun h=>⟨h.1,h.2 rfl⟩⟩
   . rename_i e
     exact⟨fun h=>⟨h,fun e2=>absurd e2.symm e⟩,fun h=>h.1⟩
 . rw[hg]
   split
   . exact hn.sublist (Jo _ _)
   . exact h c
 . rw[hg,xB]
   split
   . exact⟨fun h=>(by cases h),fun h=>absurd h hne⟩
   . exact h c
 . rw[hg,if_pos rfl];exact hne
theorem mK.drop{im:IM}{t t2:TW}{id:Int}{i k:Nat}(hky:(im.map Prod.fst).Nodup)(hn:(fU im id).2.Nodup)(hk:(fU im id).2[k]? = some i)(he:(fU im id).2.eraseIdx k=[])(ht:∀ x,t2.mem x↔t.mem x/\x≠id)(htn:t2.A.n=t.A.n):mK im t (gK im id) t2 id i:=by
 have hg:∀ c,(fU (gK im id) c).2=if id=c then[]else(fU im c).2:=fun c=>by rw[UQ hky];split<;>rfl
 have hem:=LG hn hk
 rw[he]at hem
 refine⟨fun c j=>?_,fun h c=>?_,fun h c=>?_,fun h=>KR h _,fun x=>?_,htn⟩
 . rw[hg]
   split
   . rename_i e
     subst e
     rw[hem]
     exact⟨fun h=>⟨h.1,fun _=>h.2⟩,fun h=>⟨h.1,h.2 rfl⟩⟩
   . rename_i e
     exact⟨fun h=>⟨h,fun e2=>absurd e2.symm e⟩,fun h=>h.1⟩
 . rw[hg]
   split
   . exact xh
   . exact h c
 . rw[hg,GF hky]
   split
   . exact⟨fun _=>rfl,fun _=>rfl⟩
   . exact h c
 . rw[ht,hg,if_pos rfl]
   exact and_congr_right fun _=>⟨fun h e=>absurd e h,fun h e=>h e rfl⟩
section
variable {fQ fN:Nat} {s:fW}
theorem fW.ok.rem(h:s.ok fQ fN){i:Nat}(hi:s.A.ig i){aw2:AW}(hd:AW.del s.A aw2.A i)(ha:aw2.A.ok){im1 im2:IM}{t1 t2:TW}(hto:t2.ok)
 (o1:mK s.im s.t im1 t1 (fM s.live i).u i) (o2:mK im1 t1 im2 t2 (fM s.live i).v i) {lv2:Value} {ls:List Lv} (hls:ls=fR s.live i (fun _=>default)) :
 fW.ok fQ fN ⟨s.iN,s.tb,s.ab,s.mb,lv2,s.last,aw2,t2,ls,im2⟩/\∀ x,fW.has ⟨s.iN,s.tb,s.ab,s.mb,lv2,s.last,aw2,t2,ls,im2⟩ x↔s.has x/\x.slot≠(i:Int):=by
 have hll:=h.ll
 have hil:i<s.live.length:=by have:=hi.1;omega
 have hat:∀ j,fM ls j=if i=j then default else fM s.live j:=by rw[hls];exact fun j=>j5 hil
 have hin:=hd.ig
 have hne:=h.ne i hi
 have hinc:∀ c j,j∈(fU im2 c).2↔j∈s.inc c/\(c=(fM s.live i).u->j≠i)/\(c=(fM s.live i).v->j≠i):=by
  intro c j
  rw[o2.get,o1.get,and_assoc]
  rfl
 have hinc2:∀ c j,j∈(fU im2 c).2↔aw2.A.ig j/\(fM ls j).at c:=by
  intro c j
  rw[hinc,hin,h.inc]
  constructor
  . rintro⟨⟨h1,h2⟩,h3,h4⟩
    have hji:j≠i:=by
     rintro rfl
     rcases h2 with h2|h2
     . exact h3 h2.symm rfl
     . exact h4 h2.symm rfl
    exact⟨⟨h1,hji⟩,by rw[hat,if_neg (fun e=>hji e.symm)];exact h2⟩
  . rintro⟨⟨h1,hji⟩,h2⟩
    rw[hat,if_neg (fun e=>hji e.symm)]at h2
    exact⟨⟨h1,h2⟩,fun _=>hji,fun _=>hji⟩
 have hold:∀ j,aw2.A.ig j->fM ls j=fM s.live j:=fun j hj=>by rw[hat,if_neg (fun e=>((hin j).1 hj).2 e.symm)]
 refine⟨⟨hd.n.trans h.n,(o2.n.trans o1.n).trans h.tn,h.en,h.vn,ha,hto,?_,?_,?_,?_,?_,o2.keys (o1.keys h.keys),hinc2,o2.nd (o1.nd h.nd),o2.none (o1.none h.empty),?_,?_,h.sv⟩,fun x=>⟨?_,?_⟩⟩
 . show ls.length=aw2.A.begun
   rw[hls,gM,hd.oG]
   exact hll
 . intro j hj
   show (fM ls j).slot=(j:Int)
   rw[hold j hj]
   exact h.slot j ((hin j).1 hj).1
 . intro j
   show (fM ls j).ok
   rw[hat]
   split
   . exact⟨lE (by show _/\_;decide),pP (by show _/\_;decide),pP (by show _/\_;decide),pP (by show _/\_;decide),lE (by show _/\_;decide),lE (by show _/\_;decide),lE (by show _/\_;decide)⟩
   . exact h.JO j
 . intro j hj
   show (fM ls j).u≠(fM ls j).v
   rw[hold j hj]
   exact h.ne j ((hin j).1 hj).1
 . intro x
   show t2.mem x↔∃ j,aw2.A.ig j/\(fM ls j).at x
   rw[o2.mem,o1.mem]
   have hex:(∃ j,aw2.A.ig j/\(fM ls j).at x)↔(fU im2 x).2≠[]:=by
    constructor
    . rintro⟨j,hj⟩ e
      have:=(hinc2 x j).2 hj
      rw[e]at this
      simp at this
    . intro hne9
      obtain⟨j,hj⟩:=J9 _ hne9
      exact⟨j,(hinc2 x j).1 hj⟩
   rw[hex]
   constructor
   . rintro⟨⟨h1,h2⟩,h3⟩
     by_cases hv:x=(fM s.live i).v
     . rw[hv];exact h3 hv
     . by_cases hu:x=(fM s.live i).u
       . have h4:=h2 hu
         intro e
         obtain⟨j,hj⟩:=J9 _ h4
         have:j∈(fU im2 x).2:=(o2.get x j).2 ⟨by rw[hu];exact hj,fun e2=>absurd e2 hv⟩
         rw[e]at this
         simp at this
       . obtain⟨j,hj,hjx⟩:=(h.mem x).1 h1
         intro e
         have:j∈(fU im2 x).2:=(hinc x j).2 ⟨(h.inc x j).2 ⟨hj,hjx⟩,fun e2=>absurd e2 hu,fun e2=>absurd e2 hv⟩
         rw[e]at this
         simp at this
   . intro h1
     obtain⟨j,hj⟩:=J9 _ h1
     have h2:=(hinc x j).1 hj
     have h3:=(h.inc x j).1 h2.1
     refine⟨⟨(h.mem x).2 ⟨j,h3.1,h3.2⟩,fun e=>?_⟩,fun e=>by rw[<-e];exact h1⟩
     intro e2
     have:j∈(fU im1 x).2:=((o2.get x j).1 hj).1
     rw[e,e2]at this
     simp at this
 . intro j hj
   show (fM ls j).seq<=s.last
   rw[hold j hj]
   exact h.seq j ((hin j).1 hj).1
 . intro a b hja hjb
   show (fM ls a).seq=(fM ls b).seq->a=b
   rw[hold a hja,hold b hjb]
   exact h.El a b ((hin a).1 hja).1 ((hin b).1 hjb).1
 . rintro⟨j,hj,hx⟩
   change fM ls j=x at hx
   rw[hold j hj]at hx
   have h1:=(hin j).1 hj
   refine⟨⟨j,h1.1,hx⟩,?_⟩
   rw[<-hx,h.slot j h1.1]
   intro e
   exact h1.2 o_
 . rintro⟨⟨j,hj,hx⟩,hs⟩
   have hji:j≠i:=by
    rintro rfl
    rw[<-hx,h.slot j hj]at hs
    exact hs rfl
   have h1:=(hin j).2 ⟨hj,hji⟩
   exact⟨j,h1,by show fM ls j=x;rw[hold j h1];exact hx⟩
end
theorem Gp{xs:List Nat}{i:Nat}(h:i∈xs)(hn:xs.Nodup):∃ k,xs[k]? = some i/\(gx xs)[k]? = some (i:Int)/\∀ (j:Nat) (y:Int),j<k->(gx xs)[j]? = some y->y≠(i:Int):=by
 obtain⟨k,hk,e⟩:=zP h
 refine⟨k,by rw[zk hk,e],by simp[gx,kJ,zk hk,e],fun j y hj hy hyi=>?_⟩
 simp only[gx,kJ,Option.map_eq_some_iff]at hy
 obtain⟨a,ha,rfl⟩:=hy
 obtain⟨hjl,hja⟩:=zd.1 ha
 have:j=k:=Ib hn hjl hk (by rw[hja,e];omega)
 omega
theorem Gf{xs:List Nat}(h:∀ j∈xs,j<65536):∀ y∈gx xs,iC .i64 y:=by
 intro y hy
 obtain⟨j,hj,rfl⟩:=jW.1 hy
 have:=h j hj
 exact lE o_
theorem H7{fQ fN:Nat}{s:fW}(h:s.ok fQ fN){id:Int}{P:Nat->Prop}(hs:∀ j,P j->j∈s.inc id){j:Nat}(hj:P j):j<65536:=by
 have h1:=((h.inc id j).1 (hs j hj)).1.1
 have:=h.lH.le
 have:=h.n
 have:=h.en
 omega
theorem inc_le{fQ fN:Nat}{s:fW}(h:s.ok fQ fN){im1:IM}{t1:TW}{id:Int}{i:Nat}(o:mK s.im s.t im1 t1 id i)(c:Int):(fU im1 c).2.length<=65536:=by
 refine z7 (AP s.A.begun _ (o.nd h.nd c) fun j hj=>((h.inc c j).1 ((o.get c j).1 hj).1).1.1) ?_
 have:=h.lH.le
 have:=h.n
 have:=h.en
 omega
theorem fW.uD{fQ fN:Nat}{aw:AW}{t:TW}(ha:aw.A=As.new fN)(hto:t.ok)(htm:∀ x,¬ t.mem x)(htn:t.A.n=fQ)(he:fN<=16384)(hv:fQ<=4096)(iN tb ab mb:Nat) :
 fW.ok fQ fN ⟨iN,tb,ab,mb,.slice none 0 0,0,aw,t,[],[]⟩/\∀ x,¬ fW.has ⟨iN,tb,ab,mb,.slice none 0 0,0,aw,t,[],[]⟩ x:=by
 have hin:∀ j,¬ aw.A.ig j:=fun j hj=>by rw[ha]at hj;exact absurd hj.1 (by simp[As.new])
 have hd:∀ j,fM ([]:List Lv) j=⟨0,0,0,0,0,0,0⟩:=fun j=>rfl
 refine⟨⟨?_,htn,he,hv,?_,hto,?_,?_,?_,?_,?_,?_,?_,?_,?_,?_,?_,?_⟩,fun x ⟨j,hj,_⟩=>hin j hj⟩
 . show aw.A.n=fN;rw[ha];rfl
 . show aw.A.ok;rw[ha];exact As.uD o_
 . show ([]:List Lv).length=aw.A.begun;rw[ha];rfl
 . exact fun j hj=>absurd hj (hin j)
 . intro j
   show Lv.ok (⟨0,0,0,0,0,0,0⟩:Lv)
   exact⟨lE (by show _/\_;decide),pP (by show _/\_;decide),pP (by show _/\_;decide),pP (by show _/\_;decide),lE (by show _/\_;decide),lE (by show _/\_;decide),lE (by show _/\_;decide)⟩
 . exact fun j hj=>absurd hj (hin j)
 . exact fun id=>⟨fun h=>absurd h (htm id),fun⟨j,hj,_⟩=>absurd hj (hin j)⟩
 . exact xh
 . exact fun id j=>⟨fun h=>(by cases h),fun h=>absurd h.1 (hin j)⟩
 . exact fun id=>xh
 . exact fun id=>⟨fun _=>rfl,fun _=>rfl⟩
 . exact fun j hj=>absurd hj (hin j)
 . exact fun j _ hj=>absurd hj (hin j)
 . exact Int.le_refl 0
end Go.Sx
namespace Go.Sx
open Go
theorem CM:∀ (L M:List Int),L.Nodup->(∀ j∈L,j∈M)->L.length<=M.length
 | [],_,_,_=>by simp
 | x :: L,M,hn,h=>by
  have hx:=h x s_
  have h1:=CM L (M.erase x) (zy.1 hn).2 (fun j hj=>(List.mem_erase_of_ne (fun e=>(zy.1 hn).1 (by rw[<-e];exact hj))).2 (h j (by simp[hj])))
  rw[Jw hx]at h1
  have:=JF hx
  simp only[zp]
  omega
def TW.sJ(t:TW):List Int:=(t.A.list t.A.begun).map (fM t.ids)
theorem TW.HU{t:TW}(hA:t.A.ok)(x:Int):x∈t.sJ↔t.mem x:=by
 unfold TW.sJ TW.mem
 rw[jW]
 exact⟨fun⟨i,h1,h2⟩=>⟨i,(hA.nO i).1 h1,h2⟩,fun⟨i,h1,h2⟩=>⟨i,(hA.nO i).2 h1,h2⟩⟩
theorem TW.Ng{t:TW}(hA:t.A.ok):t.sJ.length=t.A.used:=by rw[TW.sJ,zr,hA.AM]
theorem FN{α β:Type}{f:α->β}:∀ {l:List α},l.Nodup->(∀ x∈l,∀ y∈l,f x=f y->x=y)->(l.map f).Nodup
 | [],_,_=>xh
 | a :: l,h,hf=>by
  rw[z1,zy]
  refine⟨fun hm=>?_,FN (zy.1 h).2 fun x hx y hy=>hf x (by simp[hx]) y (by simp[hy])⟩
  obtain⟨b,hb,e⟩:=jW.1 hm
  have:=hf b (by simp[hb]) a s_ e
  subst this
  exact(zy.1 h).1 hb
theorem TW.Le{t:TW}(h:t.ok)(hA:t.A.ok):t.sJ.Nodup :=
 FN ((t.A.Cz _).imp fun h=>BR h) fun x hx y hy e=>h.uniq x y ((hA.nO x).1 hx) ((hA.nO y).1 hy) e
theorem TW.OL{t:TW}(h:t.ok)(hA:t.A.ok){u v:Int}(huv:u≠v):∃ K:List Int,K.Nodup/\K.length=t.A.used+(t.cnt u+t.cnt v)/\∀ x,x∈K↔t.mem x\/x=u\/x=v:=by
 have hn:=TW.Le h hA
 have hl:=TW.Ng hA
 have hm:=TW.HU hA
 by_cases hu:t.mem u<;>by_cases hv:t.mem v
 . rw[TW.xX hu,TW.xX hv]
   refine⟨t.sJ,hn,o_,fun x=>(hm x).trans ⟨.inl,?_⟩⟩
   rintro(h1|rfl|rfl)
   . exact h1
   . exact hu
   . exact hv
 . rw[TW.xX hu,TW.uC hv]
   refine⟨v :: t.sJ,zy.2 ⟨fun h1=>hv ((hm v).1 h1),hn⟩,by simp;omega,fun x=>?_⟩
   rw[zb,hm]
   constructor
   . rintro(h1|h1)
     . exact .inr (.inr h1)
     . exact .inl h1
   . rintro(h1|rfl|h1)
     . exact .inr h1
     . exact .inr hu
     . exact .inl h1
 . rw[TW.uC hu,TW.xX hv]
   refine⟨u :: t.sJ,zy.2 ⟨fun h1=>hu ((hm u).1 h1),hn⟩,by simp;omega,fun x=>?_⟩
   rw[zb,hm]
   constructor
   . rintro(h1|h1)
     . exact .inr (.inl h1)
     . exact .inl h1
   . rintro(h1|h1|rfl)
     . exact .inr h1
     . exact .inl h1
     . exact .inr hv
 . rw[TW.uC hu,TW.uC hv]
   refine⟨u :: v :: t.sJ,zy.2 ⟨fun h1=>?_,zy.2 ⟨fun h1=>hv ((hm v).1 h1),hn⟩⟩,by simp;omega,fun x=>?_⟩
   . rcases zb.1 h1 with h2|h2
     . exact huv h2
     . exact hu ((hm u).1 h2)
   . rw[zb,zb,hm]
     constructor
     . rintro(h1|h1|h1)
       . exact .inr (.inl h1)
       . exact .inr (.inr h1)
       . exact .inl h1
     . rintro(h1|h1|h1)
       . exact .inr (.inr h1)
       . exact .inl h1
       . exact .inr (.inl h1)
section
variable {fQ fN:Nat} {s s1 s2:fW}
theorem fW.ok.xG(h:s.ok fQ fN){x:Lv}(hx:s.has x):∃ i:Nat,x.slot=(i:Int)/\s.A.ig i/\fM s.live i=x/\i<fN:=by
 obtain⟨i,hi,rfl⟩:=hx
 refine⟨i,h.slot i hi,hi,rfl,?_⟩
 have:=hi.1
 have:=h.lH.le
 have:=h.n
 omega
theorem fW.ok.GH(h:s.ok fQ fN){x y:Lv}(hx:s.has x)(hy:s.has y)(e:x.slot=y.slot):x=y:=by
 obtain⟨i,h1,_,h3,_⟩:=h.xG hx
 obtain⟨j,g1,_,g3,_⟩:=h.xG hy
 have:i=j:=by omega
 subst this
 rw[<-h3,<-g3]
theorem fW.ok.Om(h:s.ok fQ fN){x:Lv}(hx:s.has x):x.seq<=s.last:=by
 obtain⟨i,hi,rfl⟩:=hx
 exact h.seq i hi
theorem fW.Xi(h1:s1.ok fQ fN)(h2:s2.ok fQ fN)(hs:∀ x,s1.has x->s2.has x):s1.A.used<=s2.A.used:=by
 rw[<-h1.lH.AM,<-h2.lH.AM]
 refine CW _ _ ((s1.A.Cz _).imp fun h=>BR h) fun i hi=>?_
 have hi1:=(h1.lH.nO i).1 hi
 obtain⟨j,hj,e⟩:=hs _ ⟨i,hi1,rfl⟩
 have h3:=h2.slot j hj
 rw[e,h1.slot i hi1]at h3
 have:i=j:=by omega
 subst this
 exact(h2.lH.nO i).2 hj
theorem fW.Vh(h1:s1.ok fQ fN)(hA1:s1.t.A.ok)(h2:s2.ok fQ fN)(hA2:s2.t.A.ok)(hs:∀ x,s1.has x->s2.has x){u v:Int}(hc:s2.gH fQ fN u v=0):s1.gH fQ fN u v=0:=by
 obtain⟨c1,c2,c3⟩:=fW.MO hc
 have hu:=fW.Xi h1 h2 hs
 obtain⟨K1,k1,k2,k3⟩:=TW.OL h1.tok hA1 c1
 obtain⟨K2,g1,g2,g3⟩:=TW.OL h2.tok hA2 c1
 have hK:K1.length<=K2.length:=CM K1 K2 k1 fun x hx=>(g3 x).2 ((k3 x).1 hx |>.imp_left fun hm=>by
  obtain⟨i,hi,ha⟩:=(h1.mem x).1 hm
  obtain⟨j,hj,e⟩:=hs _ ⟨i,hi,rfl⟩
  exact(h2.mem x).2 ⟨j,hj,by rw[e];exact ha⟩)
 exact fW.Ba c1 o_ o_
structure fW.nt (s:fW) (L:List Lv):Prop where
 mem:∀ x,x∈L↔s.has x
 qA:L.Pairwise fun a b=>a.seq<b.seq
theorem fW.nt.nodup{L:List Lv}(h:s.nt L):L.Nodup:=h.qA.imp fun {a b} hlt e=>by rw[e]at hlt;omega
theorem fW.nt.slots{L:List Lv}(hl:s.nt L)(h:s.ok fQ fN):(L.map Lv.slot).Nodup :=
 FN hl.nodup fun x hx y hy e=>h.GH ((hl.mem x).1 hx) ((hl.mem y).1 hy) e
theorem fW.nt.len{L:List Lv}(hl:s.nt L)(h:s.ok fQ fN):L.length<=fN:=by
 have h1:(L.map Lv.slot).length<=((List.range fN).map fun i:Nat=>(i:Int)).length:=CM _ _ (hl.slots h) fun j hj=>by
  obtain⟨x,hx,rfl⟩:=jW.1 hj
  obtain⟨i,e,_,_,hi⟩:=h.xG ((hl.mem x).1 hx)
  rw[e]
  exact jW.2 ⟨i,mC.2 hi,rfl⟩
 simpa using h1
theorem fW.Yd{ys:List Lv}(h:s.ok fQ fN)(hp:ys.Perm ((s.A.list s.A.begun).map (fM s.live)))(hs:ys.Pairwise fun a b=>a.seq<=b.seq):s.nt ys:=by
 refine⟨fun x=>?_,?_⟩
 . rw[hp.mem_iff,jW]
   exact⟨fun⟨i,h1,h2⟩=>⟨i,(h.lH.nO i).1 h1,h2⟩,fun⟨i,h1,h2⟩=>⟨i,(h.lH.nO i).2 h1,h2⟩⟩
 . have h1:((s.A.list s.A.begun).map (fM s.live)).Pairwise fun a b=>a.seq≠b.seq:=by
    rw[List.pairwise_map]
    refine(s.A.Cz _).imp_of_mem fun {a b} ha hb hlt e=>?_
    have:=h.El a b ((h.lH.nO a).1 ha) ((h.lH.nO b).1 hb) e
    omega
   have h2:ys.Pairwise fun a b=>a.seq≠b.seq:=hp.symm.pairwise h1 fun {a b} hne e=>hne e.symm
   exact(hs.and h2).imp fun {a b} h=>by have:=h.1;have:=h.2;omega
theorem K3{α β:Type}[Inhabited α]{l:List α}(f:α->β){k:Nat}(hk:k<l.length):(l.take (k+1)).map f=(l.take k).map f++[f (fM l k)]:=by
 have h1:l[k]? = some (fM l k):=gy hk
 rw[Ay,h1]
 simp
end
end Go.Sx
namespace Go.Sx
open Go
structure QS where
 iv:Value
 pv:Value
 ps:List (Option Nat)
 fO:List gj
 pl:List Nat
structure QS.ok (n:Nat) (s:QS):Prop where
 hp:Hp n s.fO s.pl
 ir:je n s.ps s.pl
 ord:Ord s.fO
theorem QS.ok.free{n:Nat}{s:QS}(h:s.ok n){i:Nat}(hi:i<n)(hf:∀ e∈s.fO,e.ix≠i):fM s.pl i=0:=by
 rcases vt (fM s.pl i)with h0|h0
 . exact h0
 . obtain⟨h1,h2⟩:=h.hp.of i (fM s.pl i-1) hi o_
   exact absurd h2 (hf _ (pG.2 ⟨_,h1,rfl⟩))
theorem QS.ok.lt{n:Nat}{s:QS}(h:s.ok n){e:gj}(he:e∈s.fO):e.ix<n:=by
 obtain⟨p,hp,rfl⟩:=pG.1 he
 exact h.hp.ix p hp
theorem QS.ok.inj{n:Nat}{s:QS}(h:s.ok n){e f:gj}(he:e∈s.fO)(hf:f∈s.fO)(hx:e.ix=f.ix):e=f:=by
 obtain⟨p,hp,rfl⟩:=pG.1 he
 obtain⟨q,hq,rfl⟩:=pG.1 hf
 rw[h.hp.inj hp hq hx]
structure tF (s0 s:List gj) (ds:List Nat) (now:Int):Prop where
 rest:∀ e,e∈s↔e∈s0/\e.ix∉ds
 JW:∀ i∈ds,∃ e∈s0,e.ix=i/\e.key<=now
 nd:ds.Nodup
 len:s.length+ds.length=s0.length
theorem tF.start(s:List gj)(now:Int):tF s s [] now:=⟨fun e=>by simp,fun i hi=>by simp at hi,xh,s_⟩
theorem tF.step{s0 s s1:List gj}{ds:List Nat}{now:Int}(h:tF s0 s ds now)(h0:0<s.length)(hk:(fM s 0).key<=now)(hm:∀ e,e∈s1↔e∈s/\e.ix≠(fM s 0).ix)(hl:s1.length+1=s.length):tF s0 s1 (ds++[(fM s 0).ix]) now:=by
 have hin:fM s 0∈s:=pG.2 ⟨0,h0,rfl⟩
 have hin0:=(h.rest _).1 hin
 refine⟨fun e=>?_,fun i hi=>?_,?_,?_⟩
 . rw[hm,h.rest,zq,lY,not_or,and_assoc]
 . rcases zq.1 hi with h1|h1
   . exact h.JW i h1
   . rw[lY]at h1
     subst h1
     exact⟨_,hin0.1,rfl,hk⟩
 . refine zu.2 ⟨h.nd,s_,?_⟩
   intro a ha b hb
   rw[lY]at hb
   subst hb
   rintro rfl
   exact hin0.2 ha
 . have:=h.len
   rw[zw]
   simp
   omega
structure pO (n:Nat) (s0 s:QS) (ds:List Nat) (now:Int):Prop where
 ok:s.ok n
 rest:∀ e,e∈s.fO↔e∈s0.fO/\now<e.key
 out:∀ i,i∈ds↔∃ e∈s0.fO,e.ix=i/\e.key<=now
 nd:ds.Nodup
 len:ds.length<=n
theorem tF.fin{n:Nat}{s0 s:QS}{ds:List Nat}{now:Int}(h:tF s0.fO s.fO ds now)(h0:s0.ok n)(h1:s.ok n)(hd:s.fO.length=0\/now<(fM s.fO 0).key):pO n s0 s ds now:=by
 have hall:∀ e∈s.fO,now<e.key:=by
  intro e he
  rcases hd with h2|h2
  . rw[Jn]at h2;rw[h2]at he;simp at he
  . have:=h1.ord.min he
    unfold iH at this
    omega
 have hr:∀ e,e∈s.fO↔e∈s0.fO/\now<e.key:=by
  intro e
  constructor
  . intro he;exact⟨((h.rest e).1 he).1,hall e he⟩
  . rintro⟨he,hk⟩
    refine(h.rest e).2 ⟨he,fun hx=>?_⟩
    obtain⟨f,hf,hfx,hfk⟩:=h.JW _ hx
    have:=h0.inj he hf hfx.symm
    subst this
    omega
 refine⟨h1,hr,fun i=>⟨h.JW i,?_⟩,h.nd,?_⟩
 . rintro⟨e,he,rfl,hk⟩
   by_cases hx:e.ix∈ds
   . exact hx
   . have:=hall e ((h.rest e).2 ⟨he,hx⟩)
     omega
 . have:=h.len
   have:=h0.hp.len
   omega
end Go.Sx
namespace Go.Sx
open Go
structure Ed where
 a:Nat
 b:Nat
 exp:Int
 tree:Bool
 deriving Inhabited
def Ed.enc(e:Ed):Value:=.agg #[.int .i64 (e.a:Int),.int .i64 (e.b:Int),.int .i64 e.exp,.bool e.tree]
structure GW where
 fb:Nat
 nb:Nat
 hb:Nat
 mb:Nat
 trees:Int
 q:QS
 m:List (Int×Ed)
structure Ed.In (fQ:Nat) (e:Ed):Prop where
 a:e.a<fQ
 b:e.b<fQ
 exp:iC .i64 e.exp
structure GW.ok (fQ fN:Nat) (g:GW):Prop where
 v2:2<=fQ
 vn:fQ<=4096
 en:fN<=16384
 ed:∀ p∈g.m,p.2.In fQ
theorem GW.ok.get{fQ fN:Nat}{g:GW}(h:g.ok fQ fN)(k:Int):(fU g.m k).In fQ:=by
 unfold fU
 cases hm:ij g.m k with
 | none=>exact⟨z6 d_ h.v2,z6 d_ h.v2,⟨d_,d_⟩⟩
 | some x=>exact h.ed _ (MV hm)
theorem GW.ok.put{fQ fN:Nat}{g:GW}(h:g.ok fQ fN){k:Int}{e:Ed}(he:e.In fQ){fb nb hb mb:Nat}{tr:Int}{q:QS}:GW.ok fQ fN ⟨fb,nb,hb,mb,tr,q,gm g.m k e⟩ :=
 ⟨h.v2,h.vn,h.en,fun p hp=>by
  rcases zb.1 ((Lx g.m k e).mem_iff.1 hp)with rfl|h1
  . exact he
  . exact h.ed p ((Hj g.m k).subset h1)⟩
theorem GW.ok.del{fQ fN:Nat}{g:GW}(h:g.ok fQ fN){k:Int}{fb nb hb mb:Nat}{tr:Int}{q:QS}:GW.ok fQ fN ⟨fb,nb,hb,mb,tr,q,gK g.m k⟩ :=
 ⟨h.v2,h.vn,h.en,fun p hp=>h.ed p ((Hj g.m k).subset hp)⟩
theorem GW.ok.same{fQ fN:Nat}{g:GW}(h:g.ok fQ fN){fb nb hb mb:Nat}{tr:Int}{q:QS}:GW.ok fQ fN ⟨fb,nb,hb,mb,tr,q,g.m⟩:=⟨h.v2,h.vn,h.en,h.ed⟩
end Go.Sx
namespace Go.Sx
open Go
def oP(a b:Int):Int×Int:=if -9223372036854775808<=a+b/\a+b<=9223372036854775807 then(a+b,0)else(0,7)
theorem xL{a b:Int}(h : -9223372036854775808<=a+b/\a+b<=9223372036854775807):oP a b=(a+b,0):=if_pos h
theorem M9{a b:Int}(h:¬ (-9223372036854775808<=a+b/\a+b<=9223372036854775807)):oP a b=(0,7):=if_neg h
def qy(win now to:Int):Int:=if to<now then 10 else(oP to win).2
end Go.Sx
namespace Go.Sx
open Go
structure WC where
 win:Int
 fN:Nat
 fQ:Nat
 jw:Int
structure WW where
 cb:Nat
 ub:Nat
 sb:Nat
 hb:Nat
 ob:Nat
 now:Int
 q:QS
 u:fW
 g:GW
 added:Int
 vV:Int
def Ee(u:fW)(q:QS):Prop:=∀ e:gj,e∈q.fO↔∃ x,u.has x/\x.slot=(e.ix:Int)/\x.exp=e.key
structure WW.ok (c:WC) (s:WW):Prop where
 w1:1<=c.win
 wi:c.win<=1000000
 e1:1<=c.fN
 en:c.fN<=16384
 v2:2<=c.fQ
 vn:c.fQ<=4096
 n0:0<=s.now
 n1:s.now<=1000000
 a0:0<=s.added
 a1:s.added<=1000000
 ex:iC .u64 s.vV
 la:s.u.last<=s.added
 Ag:Ee s.u s.q
 live:∀ x,s.u.has x->x.t<=s.now/\s.now<x.exp/\x.exp=x.t+c.win/\0<=x.t
 ord:∀ x y,s.u.has x->s.u.has y->x.seq<y.seq->x.t<=y.t
structure ox (u u2:fW) (ds:List Nat):Prop where
 has:∀ x,u2.has x↔u.has x/\∀ i∈ds,x.slot≠(i:Int)
 last:u2.last=u.last
theorem ox.start(u:fW):ox u u []:=⟨fun x=>by simp,rfl⟩
theorem ox.next{u u2 u3:fW}{ds:List Nat}{i:Nat}(h:ox u u2 ds)(h2:∀ x,u3.has x↔u2.has x/\x.slot≠(i:Int))(hl:u3.last=u2.last):ox u u3 (ds++[i]) :=
 ⟨fun x=>by
  rw[h2,h.has,and_assoc]
  refine and_congr_right fun _=>⟨fun⟨a,b⟩ j hj=>?_,fun h=>⟨fun j hj=>h j (by simp[hj]),h i s_⟩⟩
  rcases zq.1 hj with hj|hj
  . exact a j hj
  . rw[lY]at hj;subst hj;exact b,hl.trans h.last⟩
theorem ox.fin{fQ fN n:Nat}{u u2:fW}{q q2:QS}{ds:List Nat}{t:Int}(h:ox u u2 ds)(hs:Ee u q)(hu:u.ok fQ fN)(hd:pO n q q2 ds t):∀ x,u2.has x↔u.has x/\t<x.exp:=by
 intro x
 rw[h.has]
 refine and_congr_right fun hx=>?_
 obtain⟨i,hi,_,_,_⟩:=hu.xG hx
 have he:(⟨i,x.exp⟩:gj)∈q.fO:=(hs _).2 ⟨x,hx,hi,rfl⟩
 constructor
 . intro h1
   by_cases h2:t<x.exp
   . exact h2
   . exact absurd hi (h1 i ((hd.out i).2 ⟨_,he,rfl,Int.not_lt.1 h2⟩))
 . intro h1 j hj e
   obtain⟨f,hf,hfx,hfk⟩:=(hd.out j).1 hj
   obtain⟨y,hy,hys,hye⟩:=(hs f).1 hf
   have:x=y:=hu.GH hx hy (by rw[e,hys,hfx])
   subst this
   omega
theorem ox.can{fQ fN n:Nat}{u u2:fW}{q q2:QS}{ds:List Nat}{t:Int}{k i:Nat}(h:ox u u2 (ds.take k))(hs:Ee u q)(hu2:u2.ok fQ fN)(hd:pO n q q2 ds t)(hk:ds[k]? = some i):u2.A.ig i:=by
 obtain⟨hkl,hke⟩:=zd.1 hk
 obtain⟨f,hf,hfx,hfk⟩:=(hd.out i).1 (zh hk)
 obtain⟨x,hx,hxs,hxe⟩:=(hs f).1 hf
 rw[hfx]at hxs
 have hx2:u2.has x:=(h.has x).2 ⟨hx,fun j hj e=>by
  obtain⟨a,ha,haj⟩:=zP hj
  have hak:a<k/\a<ds.length:=by
   rw[kD]at ha
   omega
  rw[List.getElem_take]at haj
  have hji:j=i:=by omega
  have:=Ib hd.nd hak.2 hkl (by rw[haj,hke,hji])
  omega⟩
 obtain⟨j,hj,hju,_,_⟩:=hu2.xG hx2
 have:j=i:=by omega
 subst this
 exact hju
section
variable {c:WC} {s:WW}
theorem WW.ok.tick(h:s.ok c){T:Int}(hT:s.now<=T)(hT2:T<=1000000){u2:fW}{q2:QS}{g2:GW}{ds:List Nat}{n:Nat}{ex:Int}(hex:iC .u64 ex)(hd:pO n s.q q2 ds T)(hu:∀ x,u2.has x↔s.u.has x/\T<x.exp)(hl:u2.last=s.u.last) :
 WW.ok c ⟨s.cb,s.ub,s.sb,s.hb,s.ob,T,q2,u2,g2,s.added,ex⟩:=by
 have hn0:=h.n0
 refine⟨h.w1,h.wi,h.e1,h.en,h.v2,h.vn,by show 0<=T;omega,hT2,h.a0,h.a1,hex,by show u2.last<=_;rw[hl];exact h.la,fun e=>?_,fun x hx=>?_,fun x y hx hy=>h.ord x y ((hu x).1 hx).1 ((hu y).1 hy).1⟩
 . show e∈q2.fO↔∃ x,u2.has x/\_
   rw[hd.rest,h.Ag]
   constructor
   . rintro⟨⟨x,h1,h2,h3⟩,h4⟩
     exact⟨x,(hu x).2 ⟨h1,o_⟩,h2,h3⟩
   . rintro⟨x,h1,h2,h3⟩
     have h4:=(hu x).1 h1
     exact⟨⟨x,h4.1,h2,h3⟩,o_⟩
 . have h1:=(hu x).1 hx
   have h2:=h.live x h1.1
   show x.t<=T/\T<x.exp/\_
   exact⟨o_,h1.2,h2.2.2⟩
theorem WW.ok.free(h:s.ok c)(hu:s.u.ok c.fQ c.fN){u2:fW}(hu2:u2.ok c.fQ c.fN){i:Nat}{e:Lv}(hes:e.slot=(i:Int))(heq:e.seq=s.u.last+1)(hh:∀ y,u2.has y↔s.u.has y\/y=e):∀ f∈s.q.fO,f.ix≠i:=by
 intro f hf e1
 obtain⟨x,hx,hxs,_⟩:=(h.Ag f).1 hf
 have:x=e:=hu2.GH ((hh x).2 (.inl hx)) ((hh e).2 (.inr rfl)) (by rw[hxs,hes,e1])
 subst this
 have:=hu.Om hx
 omega
theorem WW.ok.ins(h:s.ok c)(hu:s.u.ok c.fQ c.fN){u2:fW}{q2:QS}{g2:GW}{i:Nat}{e:Lv}(hes:e.slot=(i:Int))(heq:e.seq=s.u.last+1)(het:e.t=s.now)(hee:e.exp=s.now+c.win)(hh:∀ y,u2.has y↔s.u.has y\/y=e)(hl:u2.last=s.u.last+1)
 (hq:∀ f,f∈q2.fO↔f∈s.q.fO\/f=⟨i,e.exp⟩) (ha:s.added<1000000):WW.ok c ⟨s.cb,s.ub,s.sb,s.hb,s.ob,s.now,q2,u2,g2,s.added+1,s.vV⟩:=by
 have ha0:=h.a0
 have hla:=h.la
 have hn0:=h.n0
 have hw1:=h.w1
 refine⟨h.w1,h.wi,h.e1,h.en,h.v2,h.vn,h.n0,h.n1,by show 0<=s.added+1;omega,by show s.added+1<=_;omega,h.ex,by show u2.last<=s.added+1;omega,fun f=>?_,fun x hx=>?_,fun x y hx hy=>?_⟩
 . show f∈q2.fO↔∃ x,u2.has x/\_
   rw[hq,h.Ag]
   constructor
   . rintro(⟨x,h1,h2⟩|rfl)
     . exact⟨x,(hh x).2 (.inl h1),h2⟩
     . exact⟨e,(hh e).2 (.inr rfl),hes,rfl⟩
   . rintro⟨x,h1,h2,h3⟩
     rcases(hh x).1 h1 with h4|rfl
     . exact .inl ⟨x,h4,h2,h3⟩
     . right
       obtain⟨a,b⟩:=f
       simp only at h2 h3
       have:a=i:=by omega
       subst this
       rw[h3]
 . show x.t<=s.now/\s.now<x.exp/\_
   rcases(hh x).1 hx with h4|rfl
   . exact h.live x h4
   . exact⟨o_,o_,o_,o_⟩
 . change u2.has x at hx
   change u2.has y at hy
   rcases(hh x).1 hx with h4|rfl<;>rcases(hh y).1 hy with h5|rfl
   . exact h.ord x y h4 h5
   . intro _
     have:=(h.live x h4).1
     omega
   . have:=hu.Om h5
     intro h6
     omega
   . intro _;omega
end
theorem WW.uD{c:WC}(w1:1<=c.win)(wi:c.win<=1000000)(e1:1<=c.fN)(en:c.fN<=16384)(v2:2<=c.fQ)(vn:c.fQ<=4096){u:fW}{q:QS}{g:GW}(hu:∀ y,¬ u.has y)(hl:u.last=0)(hq:q.fO=[])(cb ub sb hb ob:Nat):WW.ok c ⟨cb,ub,sb,hb,ob,0,q,u,g,0,0⟩ :=
 ⟨w1,wi,e1,en,v2,vn,Int.le_refl 0,by show (0:Int)<=1000000;decide,Int.le_refl 0,by show (0:Int)<=1000000;decide,pP ⟨Int.le_refl 0,by show (0:Int)<=18446744073709551615;decide⟩,by show u.last<=0;omega,fun e=>⟨fun h=>by change e∈q.fO at h;rw[hq]at h;simp at h,fun⟨x,h,_⟩=>absurd h (hu x)⟩,fun x h=>absurd h (hu x),fun x y h=>absurd h (hu x)⟩
structure WW.Step (s s2:WW) (r:Lv):Prop where
 now:s2.now=s.now\/s2.now=r.t
 added:s2.added<=s.added+1
 has:∀ x,s2.u.has x->s.u.has x\/(x.u=r.u/\x.v=r.v)
theorem WW.Step.same(s:WW)(r:Lv):WW.Step s s r:=⟨.inl rfl,o_,fun x h=>.inl h⟩
theorem VE(x:Int):iC .u64 (IntKind.u64.wrap x):=by
 rw[IntKind.wrap_u64]
 exact pP o_
theorem Ns{win now t:Int}(h1:now<=t)(h2 : -9223372036854775808<=t+win/\t+win<=9223372036854775807):qy win now t=0:=by
 unfold qy
 rw[if_neg o_,xL h2]
theorem pO.On{n:Nat}{q q2 t:QS}{ds:List Nat}{now:Int}(h:pO n q2 t ds now)(e:q2.fO=q.fO):pO n q t ds now :=
 ⟨h.ok,by rw[<-e];exact h.rest,by rw[<-e];exact h.out,h.nd,h.len⟩
theorem TW.vz.lt{t:TW}{id:Int}{z:Nat}{b:Bool}(h:t.vz id z b)(hok:t.ok)(hp:0<t.A.n):z<t.A.n:=by
 rcases h with ⟨_,h,_⟩|⟨_,rfl,_⟩
 . exact z6 h.1 hok.oG
 . exact hp
def Room(c:WC)(s:WW)(x:Lv):Prop:=∀ u2:fW,u2.ok c.fQ c.fN->u2.t.A.ok->(∀ y,u2.has y↔s.u.has y/\x.t<y.exp)->u2.gH c.fQ c.fN x.u x.v=0
theorem Room.of{c:WC}{s:WW}{x:Lv}{u3:fW}(h3:u3.ok c.fQ c.fN)(hA:u3.t.A.ok)(hc:u3.gH c.fQ c.fN x.u x.v=0)(hs:∀ y,s.u.has y/\x.t<y.exp->u3.has y):Room c s x :=
 fun u2 h2 hA2 hh=>fW.Vh h2 hA2 h3 hA (fun y hy=>hs y ((hh y).1 hy)) hc
end Go.Sx
namespace Go.Sx
open Go
structure sC (c:WC) (s:WW) (k:Nat):Prop where
 now:s.now<=3*(k:Int)
 added:s.added<=(k:Int)
 ids:∀ x,s.u.has x->(0<=x.u/\x.u<12)/\0<=x.v/\x.v<12
theorem sC.next{c:WC}{s s2:WW}{k:Nat}{r:Lv}(h:sC c s k)(hs:WW.Step s s2 r)(ht:r.t<=s.now+3)(hu:0<=r.u/\r.u<12)(hv:0<=r.v/\r.v<12):sC c s2 (k+1):=by
 have h1:=h.now
 have h2:=h.added
 have h3:=hs.added
 refine⟨?_,o_,fun x hx=>?_⟩
 . rcases hs.now with e|e<;>omega
 . rcases hs.has x hx with h4|⟨h4,h5⟩
   . exact h.ids x h4
   . rw[h4,h5];exact⟨hu,hv⟩
end Go.Sx
namespace Go.Sx
open Go
structure Mv where
 u:Int
 v:Int
 wt:Int
 af:Int
instance:Inhabited Mv:=⟨⟨0,0,0,0⟩⟩
structure Mv.ok (x:Mv):Prop where
 u:0<=x.u/\x.u<=255
 v:0<=x.v/\x.v<=255
 wt : -128<=x.wt/\x.wt<=127
 af:0<=x.af/\x.af<=255
theorem sC.start{c:WC}{s:WW}(h1:s.now=0)(h2:s.added=0)(h3:∀ y,¬ s.u.has y):sC c s 0 :=
 ⟨by rw[h1];decide,by rw[h2];decide,fun x hx=>absurd hx (h3 x)⟩
def Mv.BD(now:Int)(x:Mv):Lv:=⟨0,0,x.u%12,x.v%12,x.wt,now+x.af%4,0⟩
theorem Mv.ok.BD{x:Mv}(h:x.ok){now:Int}(h0:0<=now)(h1:now<=1000):(x.BD now).ok:=by
 have h2:=h.wt
 unfold Mv.BD
 exact⟨lE (by show _/\_;dsimp only;omega),pP (by show _/\_;dsimp only;omega),pP (by show _/\_;dsimp only;omega),pP (by show _/\_;dsimp only;omega),lE (by show _/\_;dsimp only;omega),lE (by show _/\_;dsimp only;omega),lE (by show _/\_;dsimp only;omega)⟩
end Go.Sx
