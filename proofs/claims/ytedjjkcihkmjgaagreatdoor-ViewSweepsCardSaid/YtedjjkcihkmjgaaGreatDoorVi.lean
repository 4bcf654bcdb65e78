/- Walks through the code, one theorem a function, under what is said of its arguments. -/
import Derived.Test.YtedjjkcihkmjgaaGreatDoorFb
import Derived.Test.YtedjjkcihkmjgaaGreatDoorVa
import Derived.Test.YtedjjkcihkmjgaaGreatDoorFd
import Derived.Test.YtedjjkcihkmjgaaGreatDoorVh
import Derived.Test.YtedjjkcihkmjgaaGreatDoorFc
set_option linter.unusedVariables false
set_option linter.unusedSimpArgs false
set_option maxRecDepth 100000
set_option maxHeartbeats 4000000
namespace Go.Proofs.YtedjjkcihkmjgaaGreatDoor
open Go Go.Sx Go.Proofs.Tryz
variable{es:List Ge}{K:List Int}{o:List Nat}{L:List Lv}{n:Nat}
theorem Db{u:fW}{a:List Int}{L2:List Lv}{b:List Ge}(c:u.k9 K)(h:u.kn L)(i:kA K L es L.length)(d:u.k9 a/\u.kn L2/\kA a L2 b L2.length):a=K/\b=es:=by
 obtain⟨e,f,g⟩:=d
 obtain rfl:=fW.k9.uniq e c
 obtain rfl:=fW.kn.uniq f h
 exact⟨rfl,kA.uniq c.kF g i⟩
theorem WW.aeP{c:WC}{o:Nat}{s:WW}{w:World}(h:Own (WW.R c o s) w){f:List Nat}(j:s.u.k9 K)(k:s.u.kn L)(l:kA K L es L.length)(a:iE es K.length f)(q:K.length<=4096):s.g.trees=(f.length:Int):=by
 obtain⟨n,m,_⟩:=o6 h
 obtain⟨A,key,⟨d,_,b⟩,_⟩:=C6 (kU (Own.of h.un) (i:=4) rfl)
 have e:=d.trees b.1 b.2.2 n.fr m j k l a
 have p:=a.f.room a.g
 rw[b.2.1,e,IntKind.wrap_i64]
 omega
theorem acP{k j:Nat}(h:j<k):fJ (kr es n o k) j=gG n (gR es n (o.take j)):=iS (by unfold kr;rw[oK,rF h];rfl)
theorem acO(b:o.Perm (List.range es.length))(c:lQ n es):fJ (kr es n o (es.length+1)) es.length=gG n (kH es n):=by
 have a:=b.length_eq
 rw[mQ]at a
 rw[acP (BV _),vF (DX a),Pt b c]
theorem P6(a:oN es o)(b:lQ n es)(h:es.length≠0):∃ t,(iG es n o (o.length+1)).length≠0/\fJ (iG es n o (o.length+1)) ((iG es n o (o.length+1)).length-1)=FH t (gG n (kH es n)):=by
 obtain⟨l,t,e⟩:=ZF (es:=es) (n:=n) (o:=o) (by rw[a.len];exact h)
 rw[Pt a.perm b]at e
 refine⟨t,by rw[e,zo,zX];omega,iS ?_⟩
 rw[e,zo,zX,Hv o_]
 simp
theorem ZH(a:oN es o)(h:es.length=0):(iG es n o (o.length+1)).length=0:=by
 rw[show o.length=0 by rw[a.len];exact h]
 rfl
theorem ZI(a:oN es o)(b:lQ n es):((((iG es n o (o.length+1)).length:Int)==0) != ((es.length:Int)==0))=false:=by
 by_cases h:es.length=0
 . rw[ZH a h,h];rfl
 . obtain⟨_,c,_⟩:=P6 a b h
   rw[beq_eq_false_iff_ne.2 o_,beq_eq_false_iff_ne.2 o_]
   rfl
theorem OH{e:Int}(c:n<=40)(h:e=14↔(min (n-2) 60+1<n\/cG.kN<((min (n-2) 60:Nat):Int))):((e==14)==decide ((n:Int)≥2))=true:=by
 have hd:cG.kN=60:=rfl
 rw[hd]at h
 by_cases q:n≥2
 . rw[h.2 (.inl o_),decide_eq_true o_];rfl
 . have b:e≠14:=fun a=>by have:=h.1 a;omega
   rw[beq_eq_false_iff_ne.2 b,decide_eq_false o_];rfl
def jQ(ds:List Int):List Int:=ds.take 60++List.replicate (60-ds.length) 0
theorem r9{ds:List Int}:(jQ ds).length=60:=by simp[jQ];omega
theorem Jy:gU .u64 0:=And.intro d_ d_
theorem aeS{R A B:fT}{w w':World}(h:fV R w w' (gh [A,B])):fV R w w' A :=
 ⟨h.holds A zd,h.gA,fun b hb=>h.place b (pS.2 ⟨A,zd,hb⟩),GA (x:=A) h.nodup zd,fun b hb=>h.lt b (pS.2 ⟨A,zd,hb⟩)⟩
theorem xQ{ds:List Int}(h:∀ x∈ds,gU .u64 x):∀ x∈jQ ds,gU .u64 x:=fun x b=>by
 rcases zn.1 b with a|a
 . exact h x (BL a)
 . rw[List.eq_of_mem_replicate a];exact Jy
theorem Jf(l:List Int):l.flatMap gQ=l.map (.int .u64):=by
 induction l with
 | nil=>rfl
 | cons x l a=>rw[kR,a];rfl
theorem V6{ds:List Int}:setAt (List.replicate 60 Zy) 0 ((ds.flatMap gQ).take 60)=(jQ ds).flatMap gQ:=by
 have key:∀ n:Nat,setAt (List.replicate n Zy) 0 ((ds.map (Value.int .u64)).take n)=(ds.take n++List.replicate (n-ds.length) 0).map (Value.int .u64):=fun n=>by
  simp[setAt]
  try omega
 rw[Jf,Jf]
 exact key 60
theorem aeZ{ds:List Int}:∀ x∈ds.flatMap gQ,x.oneCell' = true:=fun x a=>by
 rw[Jf]at a
 obtain⟨y,_,rfl⟩:=zq.1 a
 rfl
theorem aft(c:WC)(a b:Nat)(s:WW)(dv:Value)(ds:List Int)(R:fT)(p:∀ w,R.holds w->gY 1 gQ (fun _=>True) w dv ds)(w:World)(o:Own (s8 a b c s R) w)(t:c.fN<=12)(q:∀ x∈ds,gU .u64 x)(e:s.u.k9 K)(f:s.u.kn L)(g:kA K L es L.length)(v:es.length<=ds.length+1)(y:(ds.length:Int)<=c.kN) :
 CR ya 19 (vR a dv) w (fun r w' => ∃ rv:Value,r = .tuple (uX rv)/\fV (s8 a b c s R) w w' (Nj a b c s R rv (kr es K.length (mu es.length ds) (es.length+1)))) :=
 CR.mono (Tn c a b s dv ds R p w o t q) fun r w' h=>by
  rcases h with ⟨i,j,k,d,l,_,_⟩|⟨rv,i,j,k,d,l,m,n⟩
  . obtain⟨rfl,rfl⟩:=Db e f g d
    omega
  . obtain⟨rfl,rfl⟩:=Db e f g d
    exact⟨rv,m,n⟩
theorem GZ(c:WC)(a b:Nat)(s:WW)(dv:Value)(ds:List Int)(R:fT)(q:∀ w,R.holds w->gY 1 gQ (fun _=>True) w dv ds)(w:World)(p:Own (s8 a b c s R) w)(v:c.fN<=12)(t:∀ x∈ds,gU .u64 x)(j:s.u.k9 K)(k:s.u.kn L)(l:kA K L es L.length) :
 CR ya 19 (vR a dv) w (fun r w' => ∃ (rv:Value) (e:Int),r = .tuple #[rv,.int .i64 e]/\(e=14↔(ds.length+1<es.length\/c.kN<(ds.length:Int)))/\fV (s8 a b c s R) w w' (s8 a b c s R)) :=
 CR.mono (Tn c a b s dv ds R q w p v t) fun r w' h=>by
  rcases h with ⟨m,n,o,d,f,g,i⟩|⟨rv,m,n,o,d,f,g,i⟩
  . obtain⟨rfl,rfl⟩:=Db j k l d
    exact⟨_,14,g,⟨fun _=>f,fun _=>rfl⟩,i⟩
  . obtain⟨rfl,rfl⟩:=Db j k l d
    exact⟨rv,0,g,⟨fun e=>(by cases e),fun e=>absurd e f⟩,aeS i⟩
theorem afB(a:Nat)(s:WW)(w:World)(b:Own (WW.R cG a s) w)(d:s.u.k9 K)(e:s.u.kn L)(f:kA K L es L.length)(m:lQ K.length es)(q:K.length<=10)(n:oN es o) :
 CR ya 20 (Zh a) w (fun r w' => r = .tuple (s9 es.length K.length ((gG K.length (kH es K.length)).c:Int))/\fV (WW.R cG a s) w w' (WW.R cG a s)) :=
 CR.mono (afC cG a s w b) fun r w' ⟨j,k⟩=>by
  refine⟨?_,k⟩
  obtain⟨t,h,l⟩:=o6 b
  have g:iE es K.length (jB es K.length o):=⟨m,⟨o,n,rfl⟩⟩
  have ht:=WW.aeP b d e f g o_
  have p:=g.count
  have i:(gG K.length (kH es K.length)).c=(rts (kH es K.length) K.length).length:=rfl
  rw[j,ht,<-d.IB h l,<-e.IB h,<-f.len,i,VZ (R:=((rts (kH es K.length) K.length).length:Int)) d_ (by show _/\_<=((10:Nat):Int);omega) o_ o_]
theorem R6(lv:Value)(xs:List Mw)(b2:Value)(ds:List Int){o:Obj}(w:World)(hl:gY 5 Mw.cells (fun _=>True) w lv xs)(ca:∀ x∈xs,x.mv.ok)(hd:gY 1 gQ (fun _=>True) w b2 ds)(bV:∀ x∈ds,gU .u64 x)(hT:(j5 o).holds w) :
 CR ya 4 #[lv,b2] w (fun r w' => r = .bool true/\gx [] w w'):=by
 refine en func4 ntmps4 ?_
 have b5:=yu w
 refine fR b5 8 ?_
 refine cl (aao lv xs w hl ca) ?_
 rintro _ aw ⟨j,p,q,rfl,ht⟩
 have W:=yy (jm b5 ht)
 have ax:=yf [1,0] W
 have Y:=yc [_,_] _ ax
 refine fK W 22 ?_
 refine cl (XC cG p j q aw (ye Y 0 rfl) d_) ?_
 rintro _ br ⟨J,y,bs,e,ay,d,rfl,K,ht⟩
 have az:=yy (yh 0 Y ht)
 have L:=yy az
 have T:=K.1
 have bk:=K.2.1
 have bT:=K.2.2
 have b1:=o6 (ye L 1 rfl)
 have cc:ay.length<=40:=bk.len b1.2.1
 have b6:e.length<=10:=T.len b1.2.1 b1.2.2
 have cb:=bT.len
 refine fK L 9 ?_
 refine j4 (m:=60) (c:=60) rfl (gm o_) (gm o_) yw iX rfl o_ d_ o_ L (fun Z bt bu bv M=>fK M 7 ?_)
 refine V7 (cnt:=ds.length) (news:=(ds.flatMap gQ)) (dl:=60) (dc:=60) (cs' := ((jQ ds).flatMap gQ)) (L' := [blk Z 39 ((jQ ds).flatMap gQ),blk p 108 [(Zb j),Zn,Zy,Zi,Zc,Zi,Zi,Zi,Zi,Zi,Zp,Zp,Zc],(WW.R cG j q),fL gQ J 39 1 e,fL Ge.cells y 110 3 d]) 0 rfl rfl rfl yw iX (gY.src (yz M s_ d_ hd) f_) aeZ M rfl (by rw[qL];omega) V6 rfl ?_
 intro aA aa bw
 have N:=St.U1 (cf:=gQ) aa (i:=0) rfl f_ r9 d_
 have ce:=r9 (ds:=ds)
 refine fK aa 4 ?_
 generalize (Value.slice (some ⟨Z,0,none⟩) 60 60)=t at N ⊢
 have aB:=yf [1,2,0,3,4] N
 have bW:=kA.Fl b1.2.1 bk bT
 have cd:=T.kF
 have ab:=yc [_,_] _ aB
 refine fK N 1 ?_
 refine cl (afq cG p j q aA (ye ab 0 rfl) d_) ?_
 rintro _ aC ⟨O,bx,bz,bA,f,rfl,ac,aD⟩
 have aE:=(yi ab aD)
 have aF:=yy aE
 obtain⟨b7,b3⟩:=Db T bk bT ac.1
 have bZ:=ac.2
 rw[b3]at bZ
 have ad:=yx 2 aF rfl (congrArg (fL i6.cells O 62 4) (show _=(iG d e.length f (f.length+1)) by rw[b7,b3]))
 have cg:=bZ.len
 have ch:=JW (es:=d) (n:=e.length) (o:=f) (k:=f.length+1)
 have aG:=yf [0,1,3,2,4,5] ad
 have ae:=yc [_,_,_] _ aG
 refine fK ad 7 ?_
 refine cl (aft cG p j q t (jQ ds) (Z8 t (jQ ds)) (fun _ h=>Di h fun _=>rfl) aC (ye ae 0 rfl) d_ (xQ bV) T bk bT (by rw[r9];omega) (by rw[r9];decide)) ?_
 rintro _ aH ⟨B,rfl,aI⟩
 have aJ:=(yi ae aI)
 have P:=yy aJ
 have cj:=Rw (es:=d) (n:=e.length) (o:=mu d.length (jQ ds)) (k:=d.length+1)
 have b4:=acO (E9 (n:=d.length) (ds:=jQ ds)) bW
 refine fK P 10 ?_
 refine cl (afB j q aH (ye P 1 rfl) T bk bT bW b6 bZ) ?_
 rintro _ aK ⟨rfl,ht⟩
 have u:=yh 1 P ht
 refine fK u 16 ?_
 refine iV (m:=(kr d e.length (mu d.length (jQ ds)) (d.length+1)).length) 3 rfl rfl xh u rfl (fK u 2 ?_)
 refine cmp rfl rfl rfl (qa o_) (fK u 8 ?_)
 refine cmp rfl rfl rfl (qa (by rw[b4])) (fK u 3 ?_)
 refine cl (afm p j aK (ye u 0 rfl)) ?_
 rintro _ bB ⟨rfl,ht⟩
 have aL:=yh 0 u ht
 refine gC aL 11 fun af g=>?_
 refine iV (m:=(iG d e.length f (f.length+1)).length) 4 rfl rfl xg g rfl (cmp (c:=((iG d e.length f (f.length+1)).length:Int)==0) rfl rfl rfl rfl (fK g 1 ?_))
 refine cmp (c:=(d.length:Int)==0) rfl rfl rfl rfl (CZ (c:=false) rfl rfl rfl mC (ZI bZ bW) (fK g 2 ?_))
 by_cases bC:(d.length:Int)>0
 . obtain⟨t9,ci,b8⟩:=P6 bZ bW (show d.length≠0 by omega)
   refine fK g 4 ?_
   refine iV (m:=(iG d e.length f (f.length+1)).length) 4 rfl rfl xg g rfl (fK g 1 ?_)
   refine iY (cf:=i6.cells) (k:=(((iG d e.length f (f.length+1)).length)-1)) (i:=((iG d e.length f (f.length+1)).length:Int)-1) rfl rfl rfl xg w5 (iN g 4 rfl) o_ o_ (gz om) (fK g 6 ?_)
   refine FU (c:=true) (xs:=(s9 ((fJ (iG d e.length f (f.length+1)) (((iG d e.length f (f.length+1)).length)-1)).a) ((fJ (iG d e.length f (f.length+1)) (((iG d e.length f (f.length+1)).length)-1)).c:Int) ((fJ (iG d e.length f (f.length+1)) (((iG d e.length f (f.length+1)).length)-1)).s:Int))) (ys:=(s9 ((fJ (kr d e.length (mu d.length (jQ ds)) (d.length+1)) d.length).a) ((fJ (kr d e.length (mu d.length (jQ ds)) (d.length+1)) d.length).c:Int) ((fJ (kr d e.length (mu d.length (jQ ds)) (d.length+1)) d.length).s:Int))) rfl rfl rfl OT (fun w=>by rw[b8,b4];exact Ov _ _ _ w) (fK g 11 ?_)
   refine cl (K5 d.length t (jQ ds) af (Sl.any (iN g 2 rfl)) (xQ bV) o_ (by rw[r9];omega)) ?_
   rintro _ aM ⟨ag,rfl,ht⟩
   have C:=(jm g ht)
   have bU:=E9 (n:=d.length) (ds:=jQ ds)
   have bX:=bU.length_eq
   rw[mQ]at bX
   refine fK C 10 ?_
   refine iV (m:=e.length) 6 rfl rfl yw C rfl ?_
   have aN:=yf [7,0,1,2,3,4,5,6] C
   have ah:=yc [_,_] _ aN
   refine fK C 2 ?_
   refine cl (RZ e.length d (mu d.length (jQ ds)) y ag aM (ye ah 0 rfl) o_ bW (bU.nodup_iff.2 rI) (fun i hi=>l8.1 (bU.mem_iff.1 hi)) o_ o_) ?_
   rintro _ aO ⟨Q,rfl,aP⟩
   have aQ:=(yi ah aP)
   have S:=yx 2 aQ rfl (congrArg (fL kB.cells Q 60 3) (show _=(kr d e.length (mu d.length (jQ ds)) (d.length+1)) by rw[bX]))
   refine fK S 13 ?_
   refine max2 (a:=0) (b:=(d.length:Int)-2) (c:=((d.length-2:Nat):Int)) rfl rfl rfl o_ (K8 (l:=0) (h:=(d.length-2)) rfl rfl yw iX (iN (cf:=gQ) S 5 rfl) rfl ⟨_,gm o_⟩ o_ o_ ?_)
   have aR:=yf [3,4,5,0,1,2,6,7,8] S
   have ai:=yc [_,_,_] _ aR
   refine cl (GZ cG p j q (mq 1 t 0 (d.length-2)) ((jQ ds).take ((d.length-2))) (Z8 t (jQ ds)) (fun _ h=>Sl.Si (Di h fun _=>rfl) (h:=(d.length-2)) (by rw[r9];omega)) aO (ye ai 0 rfl) d_ (fun x F=>xQ bV x (BL F)) T bk bT) ?_
   rintro _ bD ⟨bE,aS,rfl,aT,aU⟩
   have aj:=(yi ai aU)
   have bY:=aT
   rw[k8,r9]at bY
   refine fK aj 11 ?_
   refine jW (vs:=uT) (cs:=uT) rfl rfl yw iX rfl (by simp[Value.cells]) rfl rfl rfl aj (fun aV bF bG bH ak=>lR (cf:=gQ) (ys:=(jQ ds)) (zs:=[0]) (LL:=fun D=>(M4 aV ([0]) p j cG q D ((jQ ds)++[0]) y d ag (mu d.length (jQ ds)) Q (kr d e.length (mu d.length (jQ ds)) (d.length+1)) B O (iG d e.length f (f.length+1)) J e)) 3 rfl rfl rfl yw iX rfl d_ ak rfl (lF ak (i:=0) rfl) (fun x F=>z6.1 (show List.all _ _=true from rfl) x F) (by simp only[zh,zk];omega) (by simp only[zh,zk];omega) f_ ?_)
   intro D aW aX bI
   have aY:=yf [1,2,3,0,4,5,6,7,8,9] aX
   have al:=yc [_,_,_] _ aY
   refine cl (GZ cG p j q D (jQ ds++[0]) (Z8 D (jQ ds++[0])) (fun _ h=>Di h fun _=>rfl) aW (ye al 0 rfl) d_ (fun x F=>(zn.1 F).elim (xQ bV x) fun h=>by rw[k7.1 h];exact Jy) T bk bT) ?_
   rintro _ aZ ⟨bJ,a0,rfl,a1,a2⟩
   have E:=(yi al a2)
   have b0:=a1
   rw[zo,r9,zX]at b0
   have b9:a0=14:=b0.2 (.inr d_)
   refine fK E 18 ?_
   refine cl (Ou B Q (kr d e.length (mu d.length (jQ ds)) (d.length+1)) aZ (Sl.any (iN E 7 rfl)) (Sl.any (iN E 6 rfl)) o_) ?_
   rintro _ a3 ⟨rfl,a4⟩
   have z:=yr E a4
   refine fK z 3 ?_
   refine cmp (c:=aS==14) rfl rfl rfl rfl (fK z 1 ?_)
   refine cmp (c:=decide ((d.length:Int)≥2)) rfl rfl rfl rfl (AS (c:=true) rfl rfl rfl mC (OH o_ bY) (fK z 6 ?_))
   refine cl (TF a3 (St.wA z (X:=[]) s_ hT s_)) ?_
   rintro _ bK ⟨rfl,a5⟩
   have am:=yr z a5
   refine fP am 5 ?_
   refine gf (v:=Zg) results4 rfl ?_
   exact⟨rfl,am.gA s_⟩
 . refine fK g 25 ?_
   refine cl (K5 d.length t (jQ ds) af (Sl.any (iN g 2 rfl)) (xQ bV) o_ (by rw[r9];omega)) ?_
   rintro _ a6 ⟨an,rfl,ht⟩
   have G:=(jm g ht)
   have bU:=E9 (n:=d.length) (ds:=jQ ds)
   have bX:=bU.length_eq
   rw[mQ]at bX
   refine fK G 10 ?_
   refine iV (m:=e.length) 6 rfl rfl yw G rfl ?_
   have a7:=yf [7,0,1,2,3,4,5,6] G
   have ao:=yc [_,_] _ a7
   refine fK G 2 ?_
   refine cl (RZ e.length d (mu d.length (jQ ds)) y an a6 (ye ao 0 rfl) o_ bW (bU.nodup_iff.2 rI) (fun i hi=>l8.1 (bU.mem_iff.1 hi)) o_ o_) ?_
   rintro _ a8 ⟨U,rfl,a9⟩
   have ba:=(yi ao a9)
   have V:=yx 2 ba rfl (congrArg (fL kB.cells U 60 3) (show _=(kr d e.length (mu d.length (jQ ds)) (d.length+1)) by rw[bX]))
   refine fK V 13 ?_
   refine max2 (a:=0) (b:=(d.length:Int)-2) (c:=((d.length-2:Nat):Int)) rfl rfl rfl o_ (K8 (l:=0) (h:=(d.length-2)) rfl rfl yw iX (iN (cf:=gQ) V 5 rfl) rfl ⟨_,gm o_⟩ o_ o_ ?_)
   have bb:=yf [3,4,5,0,1,2,6,7,8] V
   have ap:=yc [_,_,_] _ bb
   refine cl (GZ cG p j q (mq 1 t 0 (d.length-2)) ((jQ ds).take ((d.length-2))) (Z8 t (jQ ds)) (fun _ h=>Sl.Si (Di h fun _=>rfl) (h:=(d.length-2)) (by rw[r9];omega)) a8 (ye ap 0 rfl) d_ (fun x F=>xQ bV x (BL F)) T bk bT) ?_
   rintro _ bL ⟨bM,bc,rfl,bd,be⟩
   have aq:=(yi ap be)
   have bY:=bd
   rw[k8,r9]at bY
   refine fK aq 11 ?_
   refine jW (vs:=uT) (cs:=uT) rfl rfl yw iX rfl (by simp[Value.cells]) rfl rfl rfl aq (fun bf bN bO bP ar=>lR (cf:=gQ) (ys:=(jQ ds)) (zs:=[0]) (LL:=fun H=>(M4 bf ([0]) p j cG q H ((jQ ds)++[0]) y d an (mu d.length (jQ ds)) U (kr d e.length (mu d.length (jQ ds)) (d.length+1)) B O (iG d e.length f (f.length+1)) J e)) 3 rfl rfl rfl yw iX rfl d_ ar rfl (lF ar (i:=0) rfl) (fun x F=>z6.1 (show List.all _ _=true from rfl) x F) (by simp only[zh,zk];omega) (by simp only[zh,zk];omega) f_ ?_)
   intro H bg bh bQ
   have bi:=yf [1,2,3,0,4,5,6,7,8,9] bh
   have au:=yc [_,_,_] _ bi
   refine cl (GZ cG p j q H (jQ ds++[0]) (Z8 H (jQ ds++[0])) (fun _ h=>Di h fun _=>rfl) bg (ye au 0 rfl) d_ (fun x F=>(zn.1 F).elim (xQ bV x) fun h=>by rw[k7.1 h];exact Jy) T bk bT) ?_
   rintro _ bj ⟨bR,bl,rfl,bm,bn⟩
   have I:=(yi au bn)
   have b0:=bm
   rw[zo,r9,zX]at b0
   have b9:bl=14:=b0.2 (.inr d_)
   refine fK I 18 ?_
   refine cl (Ou B U (kr d e.length (mu d.length (jQ ds)) (d.length+1)) bj (Sl.any (iN I 7 rfl)) (Sl.any (iN I 6 rfl)) o_) ?_
   rintro _ bo ⟨rfl,bp⟩
   have A:=yr I bp
   refine fK A 3 ?_
   refine cmp (c:=bc==14) rfl rfl rfl rfl (fK A 1 ?_)
   refine cmp (c:=decide ((d.length:Int)≥2)) rfl rfl rfl rfl (AS (c:=true) rfl rfl rfl mC (OH o_ bY) (fK A 6 ?_))
   refine cl (TF bo (St.wA A (X:=[]) s_ hT s_)) ?_
   rintro _ bS ⟨rfl,bq⟩
   have av:=yr A bq
   refine fP av 5 ?_
   refine gf (v:=Zg) results4 rfl ?_
   exact⟨rfl,av.gA s_⟩
end Go.Proofs.YtedjjkcihkmjgaaGreatDoor
