/- What the functions that the statements reach do: walks through the code of the program and of the references, one theorem a function; under what is said of its arguments. -/
import Derived.Test.YtedjjkcihkmjgaaGreatDoorFb
import Derived.Test.YtedjjkcihkmjgaaGreatDoorVa
import Derived.Test.YtedjjkcihkmjgaaGreatDoorFc
import Derived.Test.YtedjjkcihkmjgaaGreatDoorFa
set_option linter.unusedVariables false
set_option linter.unusedSimpArgs false
set_option maxRecDepth 100000
set_option maxHeartbeats 4000000
namespace Go.Proofs.YtedjjkcihkmjgaaGreatDoor
section
open Go Go.Sx
theorem Ol(v:Value)(xs:List gG)(w:World)(hv:gY 2 gG.cells (fun _=>True) w v xs)(m:xs.length<=1000000) :
 CR ya 280 #[v] w (fun r w' => qj 2 gG.cells w w' r 250 xs/\gw [] w w'):=by
 refine en Tryz.func280 Tryz.ntmps280 ?_
 have l:=yu w
 refine fR l 9 ?_
 refine CB (v:=v) rfl rfl rfl ot hv (gD l 2 ?_)
 cases e:(wC v:Bool)
 . skip
   refine fR l 5 ?_
   refine jJ (vs:=[]) (cs:=[]) rfl rfl ot qa rfl (by intro v hv;simp at hv) rfl rfl rfl l ?_
   intro f g h i c
   have d:=c
   refine fK c 1 ?_
   refine k8 (cf:=gG.cells) (ys:=[]) (zs:=xs) (LL:=fun a=>[fL gG.cells a 250 2 xs]) 0 rfl rfl rfl ot qa rfl d_ d rfl (gY.src (yy d s_ d_ hv) f_) (xX f_ _) (by simp only[zg];omega) (by simp only[zg];omega) f_ (fun a j b k=>fP b 4 ?_)
   refine gq (v:=a) Tryz.results280 rfl ?_
   exact⟨Di b s_,b.gA s_⟩
 . skip
   refine iO l 8 ?_
   refine gq (v:=Zg) Tryz.results280 rfl ?_
   obtain rfl:=CO e hv
   exact⟨qj.CN, l.gA s_⟩
theorem Z8(n:Nat)(w:World)(B:n<=65536) :
 CR ya 220 (Z4 n) w (fun r w' => ∃ hb pv,r = .tuple (Z0 hb)/\fV (gm []) w w' (gm [blk hb 385 [(Zb hb),(Za n),Zg,pv],fL gG.cells Zg 250 2 ([]),fL iw pv 399 1 (List.replicate ((n+63) / 64) none),gJ fS 401 64 (List.replicate ((n+63) / 64) none) (List.replicate (64*((n+63) / 64)) 0)])):=by
 refine en Tryz.func220 Tryz.ntmps220 ?_
 have A:=yu w
 refine fR A 10 ?_
 refine cmp rfl rfl rfl (lG o_) (fK A 2 ?_)
 refine cmp rfl rfl rfl (qx o_) (fK A 10 ?_)
 refine ar (e:=((n+64:Nat):Int)) rfl rfl rfl rfl iW (ar (e:=((n+63:Nat):Int)) rfl rfl rfl rfl iW (quo (a:=((n+63:Nat):Int)) (b:=64) (e:=(((n+63) / 64:Nat):Int)) rfl rfl rfl d_ (wM 64 o_) (nY (cf:=iw) (z0:=none) (m:=((n+63) / 64)) (c:=((n+63) / 64)) rfl rfl rfl vu Dc rfl f_ d_ (zj _) o_ o_ A (fun d s t u j=>jc (pvs:=[(1,(Za n)),(3,(Ze d ((n+63) / 64)))]) (v:=.agg #[Zt,(Za n),Zg,(Ze d ((n+63) / 64))]) rfl rfl (jo [(1,(Zd n)),(3,(qq d ((n+63) / 64)))] Gb Sn rfl ⟨rfl,rfl,rfl,rfl,trivial⟩ rfl) (iC j (fun f x y z k=>?_))))))
 refine gI k 14 fun g l=>?_
 have o:=kZ (cf:=iw) l (i:=1) rfl f_ (zj _) (by simp only[maxLen];omega)
 have p:St _ [gJ fS 401 64 (List.replicate ((n+63) / 64) none) (List.replicate (64*((n+63) / 64)) 0),blk f 385 (Nq f n d ((n+63) / 64)),fL iw (Ze d ((n+63) / 64)) 399 1 (List.replicate ((n+63) / 64) none)] g:=St.Em o ((n+63) / 64)
 have h:St _ [fL gG.cells Zg 250 2 ([]),gJ fS 401 64 (List.replicate ((n+63) / 64) none) (List.replicate (64*((n+63) / 64)) 0),blk f 385 (Nq f n d ((n+63) / 64)),fL iw (Ze d ((n+63) / 64)) 399 1 (List.replicate ((n+63) / 64) none)] g:=oQ p 250 2
 refine fP h 6 ?_
 refine iD (v:=(Zb f)) (v' := Zc) Tryz.results220 rfl rfl ?_
 have q:=yg [2,0,3,1] h
 exact⟨f,(Ze d ((n+63) / 64)),rfl,nS (yc [_,_,_,_] [] q)⟩
abbrev adt:List (List Nat):=[[],[0],[0,1],[0,1,2],[],[4],[4,5],[4,5,6],[4,5,6,7],[],[9],[9,10],[9,10,11],[9,10,11,12],[9,10,11,12,13],[0,1,2,3,4,5,6,7,8,9,10,11,12,13,14],[0,1,2,3,4,5,6,7,8,9,10,11,12,13,14,15],[0,1,2,3,4,5,6,7,8,9,10,11,12,13,14,15,16]]
theorem ZX(hb n:Nat)(iv pv:Value)(ps:List (Option Nat))(fQ:List gG)(pl:List Nat)(w:World)(hO:Own (Zj hb n iv pv fQ ps pl) w)(hS:Hp n fQ pl)(hP:jx n ps pl) :
 CR ya 208 (Zi hb) w (fun r w' => ∃ ac ae af T,r = .pointer (some ⟨ac,0,none⟩)/\jx n T pl/\T.length=ps.length/\fV (Zj hb n iv pv fQ ps pl) w w' (gm [blk hb 385 (pX hb n iv pv),fL gG.cells iv 250 2 fQ,fL iw pv 399 1 ps,gJ fS 401 64 ps pl,blk ac 385 (pX ac n ae af),fL gG.cells ae 250 2 fQ,fL iw af 399 1 T,gJ fS 401 64 T pl])):=by
 have aj:=hP.n
 have ai:=hS.len
 have ak:=hP.len
 have al:=hP.room
 have am:=hP.top
 refine enter (vs:=(Zf hb)) Tryz.func208 rfl Tryz.ntmps208 rfl ?_
 have ad:=(yq hO).unpack
 have x:=yc [_,_,_,_] _ ad
 refine fR ad 9 ?_
 refine jO (vl:=(Zf hb)) rfl rfl AD (AP hb n iv pv ps fQ pl w (ye x 0 rfl)) ?_
 rintro _ N ⟨rfl,ht⟩
 have p:=(mh (R' := (Zj hb n iv pv fQ ps pl)) 0 x rfl ht rfl).unpack
 refine gD p 7 ?_
 refine SS (Γ:=Value×Nat×Nat) mixed adt [8,14,16] k_ [fun(e,d,g)=>(Zb hb),fun(e,d,g)=>(Zb hb),fun(e,d,g)=>(.pointer (some ⟨hb,1,none⟩)),fun(e,d,g)=>(Za n),fun(e,d,g)=>(Zb hb),fun(e,d,g)=>(Zb hb),fun(e,d,g)=>(.pointer (some ⟨hb,2,none⟩)),fun(e,d,g)=>iv,fun(e,d,g)=>e,fun(e,d,g)=>(Zb hb),fun(e,d,g)=>(Zb hb),fun(e,d,g)=>(.pointer (some ⟨hb,3,none⟩)),fun(e,d,g)=>pv,fun(e,d,g)=>(Za ps.length),fun(e,d,g)=>(Ze d ps.length),fun(e,d,g)=>(HK n e d ps.length),fun(e,d,g)=>(Zb g),fun(e,d,g)=>(Zb g)] [([],(fun(e,d,g)=>(HF hb n iv pv fQ ps pl),fun _ _=>True)),([8],(fun(e,d,g)=>[fL gG.cells e 250 2 fQ,blk hb 385 (pX hb n iv pv),fL gG.cells iv 250 2 fQ,fL iw pv 399 1 ps,gJ fS 401 64 ps pl],fun _ _=>True)),([14],(fun(e,d,g)=>[blk d 399 ((List.replicate ps.length none).flatMap iw),blk hb 385 (pX hb n iv pv),fL gG.cells iv 250 2 fQ,fL iw pv 399 1 ps,gJ fS 401 64 ps pl],fun _ _=>True)),([8,14],(fun(e,d,g)=>[blk d 399 ((List.replicate ps.length none).flatMap iw),fL gG.cells e 250 2 fQ,blk hb 385 (pX hb n iv pv),fL gG.cells iv 250 2 fQ,fL iw pv 399 1 ps,gJ fS 401 64 ps pl],fun _ _=>True)),([8,14,16],(fun(e,d,g)=>[blk g 385 (Ns n e d ps.length),blk d 399 ((List.replicate ps.length none).flatMap iw),fL gG.cells e 250 2 fQ,blk hb 385 (pX hb n iv pv),fL gG.cells iv 250 2 fQ,fL iw pv 399 1 ps,gJ fS 401 64 ps pl],fun _ _=>True))] (Zg,0,0) (fun(e,d,g)=>(3,(Zb g)) :: (26,(Zb g)) :: (25,(HK n e d ps.length)) :: (24,(Ze d ps.length)) :: (23,(Za ps.length)) :: (22,pv) :: (21,(.pointer (some ⟨hb,3,none⟩))) :: (20,(Zb hb)) :: (19,(Zb hb)) :: (18,e) :: (17,iv) :: (16,(.pointer (some ⟨hb,2,none⟩))) :: (15,(Zb hb)) :: (14,(Zb hb)) :: (13,(Za n)) :: (12,(.pointer (some ⟨hb,1,none⟩))) :: (11,(Zb hb)) :: (10,(Zb hb)) :: _) rfl p (fun _ _=>trivial) ?_ (fun(e,d,g)=>rfl) rfl ?_
 . skip
   refine nJ rfl (fun(e,d,g) _ _=>qv rfl rfl (lI (v:=(Zb hb)) rfl)) (nJ rfl (fun(e,d,g) _ _=>qv rfl rfl (yF (a:=⟨hb,0,none⟩) rfl)) (nJ rfl (fun(e,d,g) _ _=>qv rfl rfl (uN (o:=0) (o' := 1) rfl Dl rfl gr rfl)) (Bc rfl ⟨(fun(e,d,g) Z F hF=>qv rfl rfl (mM (a:=⟨hb,1,none⟩) (v:=(Za n)) rfl yf rfl (lT F 0 rfl rfl))),(fun(e,d,g) Z F hF=>qv rfl rfl (mM (a:=⟨hb,1,none⟩) (v:=(Za n)) rfl yf rfl (lT F 1 rfl rfl))),(fun(e,d,g) Z F hF=>qv rfl rfl (mM (a:=⟨hb,1,none⟩) (v:=(Za n)) rfl yf rfl (lT F 1 rfl rfl))),(fun(e,d,g) Z F hF=>qv rfl rfl (mM (a:=⟨hb,1,none⟩) (v:=(Za n)) rfl yf rfl (lT F 2 rfl rfl))),trivial,trivial⟩ (nJ rfl (fun(e,d,g) _ _=>qv rfl rfl (lI (v:=(Zb hb)) rfl)) (nJ rfl (fun(e,d,g) _ _=>qv rfl rfl (yF (a:=⟨hb,0,none⟩) rfl)) (nJ rfl (fun(e,d,g) _ _=>qv rfl rfl (uN (o:=0) (o' := 2) rfl Dl rfl LH rfl)) (Bc rfl ⟨(fun(e,d,g) Z F hF=>qv rfl rfl (mM (a:=⟨hb,2,none⟩) (v:=iv) rfl ot rfl (lT F 0 rfl rfl))),trivial,(fun(e,d,g) Z F hF=>qv rfl rfl (mM (a:=⟨hb,2,none⟩) (v:=iv) rfl ot rfl (lT F 1 rfl rfl))),trivial,trivial,trivial⟩ ?_)))))))
   refine Bb rfl ⟨⟨_,_,rfl,fun(e,d,g) Z F hF=>Fi rfl rfl (sP (vl:=[iv]) rfl Pn) (Ol iv fQ Z (y0 F 1 rfl).any (by first|omega|(simp;omega))) (fun s _ hz=>⟨(s,d,g),⟨(vr F hz.2 hz.1),trivial⟩,rfl,lu rfl sT⟩)⟩,trivial,⟨_,_,rfl,fun(e,d,g) Z F hF=>Fi rfl rfl (sP (vl:=[iv]) rfl Pn) (Ol iv fQ Z (y0 F 2 rfl).any (by first|omega|(simp;omega))) (fun s _ hz=>⟨(s,d,g),⟨(lC (vr F hz.2 hz.1) (List.Perm.swap _ _ _)),trivial⟩,rfl,lu rfl sT⟩)⟩,trivial,trivial,trivial⟩ (nJ rfl (fun(e,d,g) _ _=>qv rfl rfl (lI (v:=(Zb hb)) rfl)) (nJ rfl (fun(e,d,g) _ _=>qv rfl rfl (yF (a:=⟨hb,0,none⟩) rfl)) (nJ rfl (fun(e,d,g) _ _=>qv rfl rfl (uN (o:=0) (o' := 3) rfl Dl rfl LI rfl)) (Bc rfl ⟨(fun(e,d,g) Z F hF=>qv rfl rfl (mM (a:=⟨hb,3,none⟩) (v:=pv) rfl vu rfl (lT F 0 rfl rfl))),(fun(e,d,g) Z F hF=>qv rfl rfl (mM (a:=⟨hb,3,none⟩) (v:=pv) rfl vu rfl (lT F 1 rfl rfl))),trivial,trivial,trivial,trivial⟩ (nJ rfl (fun(e,d,g) _ _=>qv rfl rfl (JJ (v:=pv) rfl vu (y0 (cf:=iw) p 2 rfl))) (Bb rfl ⟨⟨_,_,rfl,fun(e,d,g) Z F hF=>rZ (cf:=iw) (z0:=none) (m:=ps.length) (c:=ps.length) rfl rfl rfl vu Dc rfl f_ d_ (zj _) o_ o_ F (fun t _ h=>⟨(e,t,g),⟨h,trivial⟩,rfl,lu rfl sT⟩)⟩,⟨_,_,rfl,fun(e,d,g) Z F hF=>rZ (cf:=iw) (z0:=none) (m:=ps.length) (c:=ps.length) rfl rfl rfl vu Dc rfl f_ d_ (zj _) o_ o_ F (fun t _ h=>⟨(e,t,g),⟨h,trivial⟩,rfl,lu rfl sT⟩)⟩,trivial,trivial,trivial,trivial⟩ (Bc rfl ⟨trivial,trivial,trivial,(fun(e,d,g) Z F hF=>qv rfl rfl (Ck (pvs:=[(1,(Za n)),(2,e),(3,(Ze d ps.length))]) (v:=.agg #[Zt,(Za n),e,(Ze d ps.length)]) rfl (jo [(1,(Zd n)),(2,[e]),(3,(qq d ps.length))] Gb Sn rfl ⟨rfl,rfl,rfl,(cells_one (yr F (i:=1) rfl)),rfl,rfl,trivial⟩ rfl))),trivial,trivial⟩ ?_)))))))
   refine Bb rfl ⟨trivial,trivial,trivial,⟨_,_,rfl,fun(e,d,g) Z F hF=>JS (v:=(HK n e d ps.length)) (cs:=(Ns n e d ps.length)) rfl rfl rfl F (fun B _ h=>⟨(e,d,B),⟨h,trivial⟩,rfl,lu rfl sT⟩)⟩,trivial,trivial⟩ (nJ rfl (fun(e,d,g) _ _=>qv rfl rfl (vS (v:=(Zb g)) rfl)) ?_)
   exact RH
 rintro⟨e,d,g⟩ O C -
 refine KZ tt none C 13 fun D E=>?_
 have G:=kZ (cf:=iw) E (i:=1) rfl f_ (zj _) (by simp only[maxLen];omega)
 have H:St _ [gJ fS 401 64 (List.replicate ps.length none) pl,blk g 385 (HP g n e d ps.length),fL iw (Ze d ps.length) 399 1 (List.replicate ps.length none),fL gG.cells e 250 2 fQ,blk hb 385 (pX hb n iv pv),fL gG.cells iv 250 2 fQ,fL iw pv 399 1 ps,gJ fS 401 64 ps pl] D:=St.Em G ps.length
 have l:=yg [4,5,6,7,1,3,2,0] H
 refine fK l 4 ?_
 refine iM (m:=ps.length) 2 rfl rfl vu l rfl (gD l 4 ?_)
 refine lp (α:=Nat×List (Option Nat)) (fun(k,T)=>[(3,(Zb g)),(34,pv),(35,(Za ps.length)),(36,(Za k))]) (fun(k,T) w1=>St [(w,(Zj hb n iv pv fQ ps pl).gH)] (MI hb n iv pv fQ ps pl g e d ps.length T) w1/\k<=ps.length/\qJ ps T k) (fun(k,T)=>ps.length-k) (0,(List.replicate ps.length none)) ⟨rfl,rfl,rfl,gj rO,trivial⟩ (⟨l,o_,qJ.start ps⟩) ?_
 rintro⟨k,T⟩ P Q ⟨aa,ag,hC⟩
 have ah:=hP.len
 have an:=hC.len
 refine fR aa 2 ?_
 by_cases R:((k:Int):Int)<((ps.length:Int):Int)
 . have hk:k<ps.length:=by omega
   obtain⟨I,j⟩:∃ q,(fJ ps k)=q:=⟨_,rfl⟩
   refine fK aa 21 ?_
   rcases I with _|y
   . skip
     refine l9 (a:=(fJ ps k).map fun b=>⟨b,0,none⟩) (c:=false) rfl rfl rfl zF (by rw[j];rfl) (fP aa 10 ?_)
     refine tN (?_)
     exact again ((k+1),T) ⟨rfl,rfl,rfl,gj rO,trivial⟩ (⟨aa,o_,hC.skip ((gy hk).trans (congrArg some j))⟩) (by show (ps.length-(k+1):Nat)<ps.length-k;omega)
   . skip
     refine l9 (a:=(fJ ps k).map fun b=>⟨b,0,none⟩) (c:=true) rfl rfl rfl zF (by rw[j];rfl) (fK aa 6 ?_)
     refine uZ (a:=⟨y,0,none⟩) rfl (Be j) ?_
     have ab:(((pl.drop (64*k)).take 64).flatMap fS).length=64:=Oh (cf:=fS) (sz:=1) f_ hP.len hk
     refine uU (b:=y) (o:=0) (cs:=(((pl.drop (64*k)).take 64).flatMap fS)) rfl rfl GH rfl LM ab (St.Ob aa (i:=3) rfl ((gy hk).trans (congrArg some j))) (iE aa (fun u S U V J=>?_))
     refine FY (v:=.agg (((pl.drop (64*k)).take 64).flatMap fS).toArray) (vs:=(((pl.drop (64*k)).take 64).flatMap fS)) (L' := [blk u 401 (((pl.drop (64*k)).take 64).flatMap fS),blk hb 385 (pX hb n iv pv),fL gG.cells iv 250 2 fQ,fL iw pv 399 1 ps,gJ fS 401 64 ps pl,blk g 385 (HP g n e d ps.length),fL gG.cells e 250 2 fQ,fL iw (Ze d ps.length) 399 1 T,gJ fS 401 64 T pl]) 0 rfl rfl rfl rfl LM ab (zk.2 (xX f_ _)) J rfl (by rw[ab];decide) (S8 (by rw[ab];rfl)) rfl (fun W z X=>fK z 9 ?_)
     refine iz (f:=(fun _=>(some u))) 7 z (fun Y A=>?_) (v:=(Ze d ps.length)) (k:=k) (off:=0) (sz:=1)
     refine fP A 7 ?_
     refine tN (?_)
     have K:=yg [0,8,1,2,3,4,5,6,7] A
     have L:=St.Oc K (hC.next hk) rfl
     have M:=yg [1,2,3,4,5,6,7,0] L
     exact again ((k+1),fM T k (fun _=>(some u))) ⟨rfl,rfl,rfl,gj rO,trivial⟩ (⟨M,o_,hC.set hk⟩) (by show (ps.length-(k+1):Nat)<ps.length-k;omega)
 . refine fP aa 17 ?_
   refine gq (v:=(Zb g)) Tryz.results208 rfl ?_
   exact⟨g,e,(Ze d ps.length),T,rfl,hP.copy hC o_,hC.len,ym (R' := (gm (MI hb n iv pv fQ ps pl g e d ps.length T))) (yc [_,_,_,_,_,_,_,_] _ aa) za⟩
end
section
open Go Go.Sx
theorem vT(ab:Nat)(bv:Value)(cn cb d cl:Int)(ps:List (Option Nat))(sl:List gT)(w:World)(e:Own (Af ab bv cn cb d cl ps sl) w) :
 CR ya 149 (Zi ab) w (fun r w' => r = .bool true/\fV (Af ab bv cn cb d cl ps sl) w w' (Af ab bv cn cb d cl ps sl)):=by
 refine en Tryz.func149 Tryz.ntmps149 ?_
 have b:=(yq e).unpack
 refine fR b 8 ?_
 refine l9 (a:=some ⟨ab,0,none⟩) (c:=true) rfl rfl rfl Tryz.underlying170 rfl (fK b 6 ?_)
 refine AH (a:=⟨ab,0,none⟩) rfl rfl rfl Tryz.underlying170 F9 (fP b 5 ?_)
 refine gq (v:=Zh) Tryz.results149 rfl ?_
 exact⟨rfl,yi (yc [_,_,_] _ b)⟩
theorem An(ab:Nat)(bv:Value)(cn cb d cl:Int)(ps:List (Option Nat))(sl:List gT)(w:World)(f:Own (Af ab bv cn cb d cl ps sl) w)(i:Nat)(hi:i<=1000000)(b:Nat)(hb:ps[i / 64]? = some (some b)) :
 CR ya 200 (Zm ab i) w (fun r w' => r = .pointer (some ⟨b,i%64*3+0,none⟩)/\fV (Af ab bv cn cb d cl ps sl) w w' (Af ab bv cn cb d cl ps sl)):=by
 have g:i / 64<ps.length:=(zh.1 hb).1
 refine en Tryz.func200 Tryz.ntmps200 ?_
 have c:=(yq f).unpack
 refine fR c 12 ?_
 refine quo (a:=(i:Int)) (b:=64) (e:=((i / 64:Nat):Int)) rfl rfl rfl d_ (wM 64 o_) (fK c 3 ?_)
 refine rem (a:=(i:Int)) (b:=64) (e:=((i%64:Nat):Int)) rfl rfl rfl d_ (CX 64) (uZ rfl (Be (iK hb)) (jL (o:=0) (o' := i%64*3+0) (i:=((i%64:Nat):Int)) rfl rfl rfl Tryz.underlying395 TY o_ (by simp only[nT];omega) (fP c 4 ?_)))
 refine gq (v:=(.pointer (some ⟨b,i%64*3+0,none⟩))) Tryz.results200 rfl ?_
 exact⟨rfl,yi (yc [_,_,_] _ c)⟩
theorem NR(ab:Nat)(bv:Value)(A:As)(w:World)(j:Own (Zs ab bv A) w)(g:A.ok)(i:Nat)(hi:i<=1000000) :
 CR ya 150 (Zm ab i) w (fun r w' => r = .int .i64 (if i<A.begun then(fJ A.sl i).st else 0)/\fV (Zs ab bv A) w w' (Zs ab bv A)):=by
 refine en Tryz.func150 Tryz.ntmps150 ?_
 have f:=(yq j).unpack
 refine fR f 13 ?_
 by_cases d:((i:Int):Int)≥((A.begun:Int):Int)
 . refine fP f 11 ?_
   refine gq (v:=Zc) Tryz.results150 rfl ?_
   exact⟨gj (by rw[if_neg o_]),yi (yc [_,_,_] _ f)⟩
 . have h:i<A.begun:=by omega
   have k:=(g.room h).1
   obtain⟨b,hb⟩:=g.at h
   have c:=yc [_,_,_] _ f
   refine fK f 10 ?_
   refine cl AB (An ab bv (A.n:Int) (A.begun:Int) (A.used:Int) A.last A.ps A.sl w (ye c 0 rfl) i o_ b hb) ?_
   rintro _ e ⟨rfl,l⟩
   have a:=(yk c l)
   refine fK a 1 ?_
   refine fa (o' := i%64*3+0) rfl rfl pI rfl gr (by simp only[lW];rfl) (ld rfl rfl yf rfl (Bv a (i:=2) rfl f_ d_ k hb rfl) (fP a 4 ?_))
   refine gq (v:=(Za ((fJ A.sl i).st))) Tryz.results150 rfl ?_
   exact⟨gj (by rw[if_pos o_]),yi (yc [_,_,_] _ a)⟩
theorem U1(ab:Nat)(bv:Value)(A:As)(w:World)(e:Own (Zs ab bv A) w)(g:A.ok) :
 CR ya 104 (Zi ab) w (fun r w' => r = .int .i64 (A.used:Int)/\fV (Zs ab bv A) w w' (Zs ab bv A)):=by
 refine en Tryz.func104 Tryz.ntmps104 ?_
 have d:=(yq e).unpack
 have a:=yc [_,_,_] _ d
 refine fR d 9 ?_
 refine cl vX (vT ab bv (A.n:Int) (A.begun:Int) (A.used:Int) A.last A.ps A.sl w (ye a 0 rfl)) ?_
 rintro _ c ⟨rfl,f⟩
 have b:=(yk a f)
 refine fP b 16 ?_
 refine gq (v:=(Za A.used)) Tryz.results104 rfl ?_
 exact⟨rfl,yi (yc [_,_,_] _ b)⟩
theorem U8(ab:Nat)(bv:Value)(A:As)(w:World)(e:Own (Zs ab bv A) w)(h:A.ok)(i:Nat)(f:A.last=(i:Int)) :
 CR ya 281 (Zi ab) w (fun r w' => r = .tuple (DP i)/\fV (Zs ab bv A) w w' (Zs ab bv A)):=by
 refine en Tryz.func281 Tryz.ntmps281 ?_
 have d:=(yq e).unpack
 have b:=yc [_,_,_] _ d
 refine fR d 11 ?_
 refine cl vX (vT ab bv (A.n:Int) (A.begun:Int) (A.used:Int) A.last A.ps A.sl w (ye b 0 rfl)) ?_
 rintro _ c ⟨rfl,g⟩
 have a:=(yk b g)
 refine fK a 11 ?_
 refine cmp rfl rfl rfl (HW o_) (fP a 17 ?_)
 refine iD (v:=(Za A.last)) (v' := Zh) Tryz.results281 rfl rfl ?_
 exact⟨by rw[f],yi (yc [_,_,_] _ a)⟩
theorem U9(ab:Nat)(bv:Value)(A:As)(w:World)(g:Own (Zs ab bv A) w)(i:A.ok)(j:A.last = -1)(hb:A.begun<A.n) :
 CR ya 281 (Zi ab) w (fun r w' => r = .tuple (DP A.begun)/\fV (Zs ab bv A) w w' (Zs ab bv A)):=by
 refine en Tryz.func281 Tryz.ntmps281 ?_
 have f:=(yq g).unpack
 have a:=yc [_,_,_] _ f
 refine fR f 11 ?_
 refine cl vX (vT ab bv (A.n:Int) (A.begun:Int) (A.used:Int) A.last A.ps A.sl w (ye a 0 rfl)) ?_
 rintro _ d ⟨rfl,h⟩
 have b:=(yk a h)
 refine fK b 11 ?_
 refine cmp rfl rfl rfl (o7 o_) (gI b 14 fun e c=>?_)
 refine cmp rfl rfl rfl (pZ o_) (fP c 17 ?_)
 refine iD (v:=(Za A.begun)) (v' := Zh) Tryz.results281 rfl rfl ?_
 exact⟨rfl,yi (yc [_,_,_] _ c)⟩
end
section
open Go Go.Sx
theorem UP(ab:Nat)(bv:Value)(A:As)(w:World)(R:Own (Zs ab bv A) w)(I:A.ok)(i:Nat)(r:List Nat)(S:A.fl=i :: r) :
 CR ya 209 (Zi ab) w (fun r w' => r = .tuple (xz i)/\∃ K P,As.ok K/\(K.n=A.n/\K.begun=A.begun/\K.used=A.used+1)/\(∀ j,K.gZ j↔A.gZ j\/j=i)/\fV (Zs ab bv A) w w' (Zs ab P K)):=by
 have W:=I.n
 have V:=I.le
 have X:=I.used
 obtain⟨U,T,Y,L,M⟩:=I.pop S
 have F:=(I.room L).1
 obtain⟨b,hb⟩:=I.at L
 refine en Tryz.func209 Tryz.ntmps209 ?_
 have O:=(yq R).unpack
 have g:=yc [_,_,_] _ O
 refine fR O 10 ?_
 refine cl vX (vT ab bv (A.n:Int) (A.begun:Int) (A.used:Int) A.last A.ps A.sl w (ye g 0 rfl)) ?_
 rintro _ s ⟨rfl,J⟩
 have h:=(yk g J)
 have k:=yc [_,_,_] _ h
 refine fK h 9 ?_
 refine cl Po (U8 ab bv A s (ye k 0 rfl) I i M) ?_
 rintro _ t ⟨rfl,J⟩
 have c:=(yk k J)
 refine fK c 25 ?_
 refine cmp rfl rfl rfl (rV M.symm) ?_
 have l:=yc [_,_,_] _ c
 refine fK c 7 ?_
 refine cl AB (An ab bv (A.n:Int) (A.begun:Int) (A.used:Int) A.last A.ps A.sl t (ye l 0 rfl) i o_ b hb) ?_
 rintro _ B ⟨rfl,J⟩
 have d:=(yk l J)
 refine fK d 1 ?_
 refine fa (o' := i%64*3+1) rfl rfl pI rfl gr (by simp only[lW];rfl) (ld rfl rfl yf rfl (Bv d (i:=2) rfl f_ d_ (by first|exact F|(simp only[gx];exact F)) hb rfl) (gI d 9 fun u y=>?_))
 have m:=yc [_,_,_] _ y
 refine cl AB (An ab bv (A.n:Int) (A.begun:Int) (A.used:Int) ((fJ A.sl i).after) A.ps A.sl u (ye m 0 rfl) i o_ b hb) ?_
 rintro _ C ⟨rfl,J⟩
 have o:=(yk m J)
 refine fK o 7 ?_
 refine fa (o' := i%64*3+0) rfl rfl pI rfl gr (by simp only[lW];rfl) (ru (f:=(fun x=>{ x with st:=1 })) (L' := [blk ab 278 (HD ab bv A ((fJ A.sl i).after)),fL iw bv 392 1 A.ps,gJ gT.cells 395 64 A.ps (fM A.sl i (fun x=>{ x with st:=1 }))]) 2 rfl rfl rfl rfl gr rfl rfl o rfl f_ d_ (by first|exact F|(simp only[gx];exact F)) hb rfl rfl rfl (fun D p=>fK p 6 ?_))
 refine fa (o' := i%64*3+1) rfl rfl pI rfl gr (by simp only[lW];rfl) (ru (f:=(fun x=>{ x with after := -1 })) (L' := [blk ab 278 (HD ab bv A ((fJ A.sl i).after)),fL iw bv 392 1 A.ps,gJ gT.cells 395 64 A.ps (fM (fM A.sl i (fun x=>{ x with st:=1 })) i (fun x=>{ x with after := -1 }))]) 2 rfl rfl rfl rfl gr rfl rfl p rfl f_ d_ (by first|exact F|(simp only[gx];exact F)) hb rfl rfl rfl (fun E a=>fK a 6 ?_))
 refine fa (o' := i%64*3+2) rfl rfl pI rfl jt (by simp only[lW];rfl) (ld rfl rfl yn rfl (Bv a (i:=2) rfl f_ d_ (by first|exact F|(simp only[gx];exact F)) hb rfl) (ar (e:=(IntKind.u64.wrap (((fJ (fM (fM A.sl i (fun x=>{ x with st:=1 })) i (fun x=>{ x with after := -1 })) i).times)+1))) rfl rfl rfl rfl rfl (fK a 1 ?_)))
 refine fa (o' := i%64*3+2) rfl rfl pI rfl jt (by simp only[lW];rfl) (ru (f:=(fun x=>{ x with times:=(IntKind.u64.wrap (((fJ (fM (fM A.sl i (fun x=>{ x with st:=1 })) i (fun x=>{ x with after := -1 })) i).times)+1)) })) (L' := [blk ab 278 (HD ab bv A ((fJ A.sl i).after)),fL iw bv 392 1 A.ps,gJ gT.cells 395 64 A.ps (fM (fM (fM A.sl i (fun x=>{ x with st:=1 })) i (fun x=>{ x with after := -1 })) i (fun x=>{ x with times:=(IntKind.u64.wrap (((fJ (fM (fM A.sl i (fun x=>{ x with st:=1 })) i (fun x=>{ x with after := -1 })) i).times)+1)) }))]) 2 rfl rfl rfl rfl jt rfl rfl a rfl f_ d_ (by first|exact F|(simp only[gx];exact F)) hb rfl rfl rfl (fun G q=>fK q 8 ?_))
 refine ar (e:=((A.used+1:Nat):Int)) rfl rfl rfl rfl iW (jV q 13 fun H z=>?_)
 refine iD (v:=(Za i)) (v' := Zc) Tryz.results209 rfl rfl ?_
 have Q:fM (fM (fM A.sl i (fun x=>{ x with st:=1 })) i (fun x=>{ x with after := -1 })) i (fun x=>{ x with times:=(IntKind.u64.wrap (((fJ (fM (fM A.sl i (fun x=>{ x with st:=1 })) i (fun x=>{ x with after := -1 })) i).times)+1)) })=fM A.sl i tk:=LP F (by rw[jS (by rw[gx];exact F),jS F])
 have N:=z
 rw[Q]at N
 exact⟨rfl,⟨A.n,A.begun,A.used+1,(fJ A.sl i).after,fM A.sl i tk,r,A.ps⟩,bv,U,⟨rfl,rfl,rfl⟩,T,yi (yc [_,_,_] _ N)⟩
theorem UQ(ab:Nat)(bv:Value)(A:As)(w:World)(hO:Own (Zs ab bv A) w)(hA:A.ok)(hf:A.fl=[])(az:A.begun<A.n) :
 CR ya 209 (Zi ab) w (fun r w' => r = .tuple (xz A.begun)/\∃ A2 aC,As.ok A2/\(A2.n=A.n/\A2.begun=A.begun+1/\A2.used=A.used+1)/\(∀ j,A2.gZ j↔A.gZ j\/j=A.begun)/\fV (Zs ab bv A) w w' (Zs ab aC A2)):=by
 have aG:=hA.n
 have aF:=hA.le
 have aH:=hA.used
 have hl:A.last = -1:=by have h7:=hA.chain;rw[hf]at h7;exact h7
 refine enter (vs:=(Zf ab)) Tryz.func209 rfl Tryz.ntmps209 rfl ?_
 have aB:St _ (Al ab bv A) w:=(yq hO).unpack
 have y:=yc [_,_,_] _ aB
 refine fR aB 10 ?_
 refine jO (vl:=(Zf ab)) rfl rfl vX (vT ab bv (A.n:Int) (A.begun:Int) (A.used:Int) A.last A.ps A.sl w (lJ y (i:=0) rfl)) ?_
 rintro _ z ⟨rfl,ht⟩
 have B:St _ (Al ab bv A) z:=(mh (R' := (Zs ab bv A)) 0 y rfl ht rfl).unpack
 have C:=yc [_,_,_] _ B
 refine fK B 9 ?_
 refine jO (vl:=(Zf ab)) rfl rfl Po (U9 ab bv A z (lJ C (i:=0) rfl) hA hl az) ?_
 rintro _ N ⟨rfl,ht⟩
 have h:St _ (Al ab bv A) N:=(mh (R' := (Zs ab bv A)) 0 C rfl ht rfl).unpack
 refine fK h 25 ?_
 refine cmp (a:=(A.begun:Int)) (b:=A.last) rfl rfl rfl (vU o_) (fK h 7 ?_)
 refine rem (a:=(A.begun:Int)) (b:=64) (e:=((A.begun%64:Nat):Int)) rfl rfl rfl d_ (CX 64) ?_
 by_cases af:(((A.begun%64:Nat):Int):Int)=(0:Int)
 . refine fK h 10 ?_
   refine iE h (fun d ag ah ai O=>?_)
   refine jJ (vs:=(Zf d)) (cs:=(Zf d)) rfl rfl Bw Db rfl (by simp[Value.cells]) rfl rfl rfl O ?_
   intro s P aj ak l
   have l:St _ [row (Zy s) 392 1 1 ((Zf d)),blk d 395 Nf,blk ab 278 (Z5 ab bv A),fL iw bv 392 1 A.ps,gJ gT.cells 395 64 A.ps A.sl] P:=l
   refine k8 (cf:=iw) (ys:=A.ps) (zs:=[(some d)]) (LL:=fun g=>(MV (row (.slice (some ⟨s,0,none⟩) 1 1) 392 1 1 ([(.pointer (some ⟨d,0,none⟩))])) d ab bv A g (A.ps++[(some d)]))) 3 rfl rfl rfl Bw Db rfl d_ l rfl (kG l (i:=0) rfl) (fun x hx=>zk.1 (show List.all _ _=true from rfl) x hx) (by have h7:=hA.pE;simp only[zb,zg];omega) (by have h7:=hA.pE;simp only[zb,zg];omega) f_ ?_
   intro g Q t al
   have t:St _ (MV (row (.slice (some ⟨s,0,none⟩) 1 1) 392 1 1 ([(.pointer (some ⟨d,0,none⟩))])) d ab bv A g (A.ps++[(some d)])) Q:=t
   have m:=yg [1,2,3,4] t
   refine fK m 2 ?_
   refine jM 1 m (fun R D=>?_) (hvs:=(cells_one (yr m (i:=2) rfl))) (h1:=(gX (yr m (i:=2) rfl) j4))
   have S:=yg [0,3,1,2] D
   have U:St _ [gJ gT.cells 395 64 (A.ps++[(some d)]) (A.sl++List.replicate 64 (⟨0,0,0⟩:gT)),blk ab 278 (Z5 ab g A),fL iw g 392 1 (A.ps++[(some d)])] R:=St.Od S hA.sl s_ rfl
   obtain⟨aA,ay,aE,aD,F,c,T⟩:=hA.fresh hf az (ps2:=A.ps++[(some d)]) (sl2:=A.sl++List.replicate 64 (⟨0,0,0⟩:gT)) (b:=d) (.inl ⟨o_,rfl,rfl⟩)
   refine fK D 7 ?_
   refine ar (a:=(A.begun:Int)) (b:=1) (c:=(A.begun:Int)+1) (e:=((A.begun+1:Nat):Int)) rfl rfl rfl rfl (by rw[oh o_];omega) (gI U 9 fun V W=>?_)
   have X:=yg [1,2,0] W
   have E:=yc [_,_,_] _ X
   refine jO (vl:=(tF ab A.begun)) rfl rfl AB (An ab g (A.n:Int) ((A.begun+1:Nat):Int) (A.used:Int) A.last (A.ps++[(some d)]) (A.sl++List.replicate 64 (⟨0,0,0⟩:gT)) V (lJ E (i:=0) rfl) A.begun o_ c T) ?_
   rintro _ Y ⟨rfl,ht⟩
   have G:St _ (M5 ab g A ((A.begun+1:Nat):Int) (A.ps++[(some d)]) (A.sl++List.replicate 64 (⟨0,0,0⟩:gT))) Y:=(mh (R' := (gm (M5 ab g A ((A.begun+1:Nat):Int) (A.ps++[(some d)]) (A.sl++List.replicate 64 (⟨0,0,0⟩:gT))))) 0 E rfl ht rfl).unpack
   refine fK G 7 ?_
   refine fa (o:=A.begun%64*3+0) (o' := A.begun%64*3+0) rfl rfl pI rfl gr (by simp only[lW];rfl) (ru (cf:=gT.cells) (xs:=A.sl++List.replicate 64 (⟨0,0,0⟩:gT)) (k:=A.begun) (off:=0) (f:=(fun x=>{ x with st:=1 })) (u:=qn) (vs:=[qn]) (L' := [blk ab 278 (vO ab g A ((A.begun+1:Nat):Int)),fL iw g 392 1 (A.ps++[(some d)]),gJ gT.cells 395 64 (A.ps++[(some d)]) (fM (A.sl++List.replicate 64 (⟨0,0,0⟩:gT)) A.begun (fun x=>{ x with st:=1 }))]) 2 rfl rfl rfl rfl gr rfl rfl G rfl f_ d_ (by first|exact F|(simp only[gx];exact F)) T rfl rfl rfl (fun am H=>fK H 6 ?_))
   refine fa (o:=A.begun%64*3+0) (o' := A.begun%64*3+1) rfl rfl pI rfl gr (by simp only[lW];rfl) (ru (cf:=gT.cells) (xs:=fM (A.sl++List.replicate 64 (⟨0,0,0⟩:gT)) A.begun (fun x=>{ x with st:=1 })) (k:=A.begun) (off:=1) (f:=(fun x=>{ x with after := -1 })) (u:=Zw) (vs:=[Zw]) (L' := [blk ab 278 (vO ab g A ((A.begun+1:Nat):Int)),fL iw g 392 1 (A.ps++[(some d)]),gJ gT.cells 395 64 (A.ps++[(some d)]) (fM (fM (A.sl++List.replicate 64 (⟨0,0,0⟩:gT)) A.begun (fun x=>{ x with st:=1 })) A.begun (fun x=>{ x with after := -1 }))]) 2 rfl rfl rfl rfl gr rfl rfl H rfl f_ d_ (by first|exact F|(simp only[gx];exact F)) T rfl rfl rfl (fun an p=>fK p 6 ?_))
   refine fa (o:=A.begun%64*3+0) (o' := A.begun%64*3+2) rfl rfl pI rfl jt (by simp only[lW];rfl) (ld (a:=⟨c,A.begun%64*3+2,none⟩) (v:=(.int .u64 ((fJ (fM (fM (A.sl++List.replicate 64 (⟨0,0,0⟩:gT)) A.begun (fun x=>{ x with st:=1 })) A.begun (fun x=>{ x with after := -1 })) A.begun).times))) rfl rfl yn rfl (Bv p (i:=2) rfl f_ d_ (by first|exact F|(simp only[gx];exact F)) T rfl) (ar (a:=(fJ (fM (fM (A.sl++List.replicate 64 (⟨0,0,0⟩:gT)) A.begun (fun x=>{ x with st:=1 })) A.begun (fun x=>{ x with after := -1 })) A.begun).times) (b:=1) (c:=((fJ (fM (fM (A.sl++List.replicate 64 (⟨0,0,0⟩:gT)) A.begun (fun x=>{ x with st:=1 })) A.begun (fun x=>{ x with after := -1 })) A.begun).times)+1) (e:=(IntKind.u64.wrap (((fJ (fM (fM (A.sl++List.replicate 64 (⟨0,0,0⟩:gT)) A.begun (fun x=>{ x with st:=1 })) A.begun (fun x=>{ x with after := -1 })) A.begun).times)+1))) rfl rfl rfl rfl rfl (fK p 1 ?_)))
   refine fa (o:=A.begun%64*3+0) (o' := A.begun%64*3+2) rfl rfl pI rfl jt (by simp only[lW];rfl) (ru (cf:=gT.cells) (xs:=fM (fM (A.sl++List.replicate 64 (⟨0,0,0⟩:gT)) A.begun (fun x=>{ x with st:=1 })) A.begun (fun x=>{ x with after := -1 })) (k:=A.begun) (off:=2) (f:=(fun x=>{ x with times:=(IntKind.u64.wrap (((fJ (fM (fM (A.sl++List.replicate 64 (⟨0,0,0⟩:gT)) A.begun (fun x=>{ x with st:=1 })) A.begun (fun x=>{ x with after := -1 })) A.begun).times)+1)) })) (u:=(.int .u64 (IntKind.u64.wrap (((fJ (fM (fM (A.sl++List.replicate 64 (⟨0,0,0⟩:gT)) A.begun (fun x=>{ x with st:=1 })) A.begun (fun x=>{ x with after := -1 })) A.begun).times)+1)))) (vs:=[(.int .u64 (IntKind.u64.wrap (((fJ (fM (fM (A.sl++List.replicate 64 (⟨0,0,0⟩:gT)) A.begun (fun x=>{ x with st:=1 })) A.begun (fun x=>{ x with after := -1 })) A.begun).times)+1)))]) (L' := [blk ab 278 (vO ab g A ((A.begun+1:Nat):Int)),fL iw g 392 1 (A.ps++[(some d)]),gJ gT.cells 395 64 (A.ps++[(some d)]) (fM (fM (fM (A.sl++List.replicate 64 (⟨0,0,0⟩:gT)) A.begun (fun x=>{ x with st:=1 })) A.begun (fun x=>{ x with after := -1 })) A.begun (fun x=>{ x with times:=(IntKind.u64.wrap (((fJ (fM (fM (A.sl++List.replicate 64 (⟨0,0,0⟩:gT)) A.begun (fun x=>{ x with st:=1 })) A.begun (fun x=>{ x with after := -1 })) A.begun).times)+1)) }))]) 2 rfl rfl rfl rfl jt rfl rfl p rfl f_ d_ (by first|exact F|(simp only[gx];exact F)) T rfl rfl rfl (fun ao I=>fK I 8 ?_))
   refine ar (a:=(A.used:Int)) (b:=1) (c:=(A.used:Int)+1) (e:=((A.used+1:Nat):Int)) rfl rfl rfl rfl (by rw[oh o_];omega) (jV I 13 fun ap Z=>?_)
   refine iD (v:=(Za A.begun)) (v' := Zc) Tryz.results209 rfl rfl ?_
   have e9:fM (fM (fM (A.sl++List.replicate 64 (⟨0,0,0⟩:gT)) A.begun (fun x=>{ x with st:=1 })) A.begun (fun x=>{ x with after := -1 })) A.begun (fun x=>{ x with times:=(IntKind.u64.wrap (((fJ (fM (fM (A.sl++List.replicate 64 (⟨0,0,0⟩:gT)) A.begun (fun x=>{ x with st:=1 })) A.begun (fun x=>{ x with after := -1 })) A.begun).times)+1)) })=fM (A.sl++List.replicate 64 (⟨0,0,0⟩:gT)) A.begun tk:=LP F (by rw[jS (by rw[gx];exact F),jS F])
   have ax:=Z
   rw[e9]at ax
   exact⟨rfl,⟨A.n,A.begun+1,A.used+1,A.last,fM (A.sl++List.replicate 64 (⟨0,0,0⟩:gT)) A.begun tk,[],A.ps++[(some d)]⟩,g,aA,⟨rfl,rfl,rfl⟩,ay,ym (R' := (NA ab g ((⟨A.n,A.begun+1,A.used+1,A.last,fM (A.sl++List.replicate 64 (⟨0,0,0⟩:gT)) A.begun tk,[],A.ps++[(some d)]⟩:As).n:Int) ((⟨A.n,A.begun+1,A.used+1,A.last,fM (A.sl++List.replicate 64 (⟨0,0,0⟩:gT)) A.begun tk,[],A.ps++[(some d)]⟩:As).begun:Int) ((⟨A.n,A.begun+1,A.used+1,A.last,fM (A.sl++List.replicate 64 (⟨0,0,0⟩:gT)) A.begun tk,[],A.ps++[(some d)]⟩:As).used:Int) (⟨A.n,A.begun+1,A.used+1,A.last,fM (A.sl++List.replicate 64 (⟨0,0,0⟩:gT)) A.begun tk,[],A.ps++[(some d)]⟩:As))) (yc [_,_,_] _ ax) za⟩
 . obtain⟨aA,ay,aE,aD,F,c,T⟩:=hA.fresh hf az (ps2:=A.ps) (sl2:=A.sl) (b:=0) (.inr ⟨o_,rfl,rfl⟩)
   refine fK h 11 ?_
   refine ar (a:=(A.begun:Int)) (b:=1) (c:=(A.begun:Int)+1) (e:=((A.begun+1:Nat):Int)) rfl rfl rfl rfl (by rw[oh o_];omega) (gI h 9 fun aa ac=>?_)
   have J:=yc [_,_,_] _ ac
   refine jO (vl:=(tF ab A.begun)) rfl rfl AB (An ab bv (A.n:Int) ((A.begun+1:Nat):Int) (A.used:Int) A.last A.ps A.sl aa (lJ J (i:=0) rfl) A.begun o_ c T) ?_
   rintro _ ad ⟨rfl,ht⟩
   have K:St _ (M4 ab bv A ((A.begun+1:Nat):Int)) ad:=(mh (R' := (gm (M4 ab bv A ((A.begun+1:Nat):Int)))) 0 J rfl ht rfl).unpack
   refine fK K 7 ?_
   refine fa (o:=A.begun%64*3+0) (o' := A.begun%64*3+0) rfl rfl pI rfl gr (by simp only[lW];rfl) (ru (cf:=gT.cells) (xs:=A.sl) (k:=A.begun) (off:=0) (f:=(fun x=>{ x with st:=1 })) (u:=qn) (vs:=[qn]) (L' := [blk ab 278 (vO ab bv A ((A.begun+1:Nat):Int)),fL iw bv 392 1 A.ps,gJ gT.cells 395 64 A.ps (fM A.sl A.begun (fun x=>{ x with st:=1 }))]) 2 rfl rfl rfl rfl gr rfl rfl K rfl f_ d_ (by first|exact F|(simp only[gx];exact F)) T rfl rfl rfl (fun aq L=>fK L 6 ?_))
   refine fa (o:=A.begun%64*3+0) (o' := A.begun%64*3+1) rfl rfl pI rfl gr (by simp only[lW];rfl) (ru (cf:=gT.cells) (xs:=fM A.sl A.begun (fun x=>{ x with st:=1 })) (k:=A.begun) (off:=1) (f:=(fun x=>{ x with after := -1 })) (u:=Zw) (vs:=[Zw]) (L' := [blk ab 278 (vO ab bv A ((A.begun+1:Nat):Int)),fL iw bv 392 1 A.ps,gJ gT.cells 395 64 A.ps (fM (fM A.sl A.begun (fun x=>{ x with st:=1 })) A.begun (fun x=>{ x with after := -1 }))]) 2 rfl rfl rfl rfl gr rfl rfl L rfl f_ d_ (by first|exact F|(simp only[gx];exact F)) T rfl rfl rfl (fun au q=>fK q 6 ?_))
   refine fa (o:=A.begun%64*3+0) (o' := A.begun%64*3+2) rfl rfl pI rfl jt (by simp only[lW];rfl) (ld (a:=⟨c,A.begun%64*3+2,none⟩) (v:=(.int .u64 ((fJ (fM (fM A.sl A.begun (fun x=>{ x with st:=1 })) A.begun (fun x=>{ x with after := -1 })) A.begun).times))) rfl rfl yn rfl (Bv q (i:=2) rfl f_ d_ (by first|exact F|(simp only[gx];exact F)) T rfl) (ar (a:=(fJ (fM (fM A.sl A.begun (fun x=>{ x with st:=1 })) A.begun (fun x=>{ x with after := -1 })) A.begun).times) (b:=1) (c:=((fJ (fM (fM A.sl A.begun (fun x=>{ x with st:=1 })) A.begun (fun x=>{ x with after := -1 })) A.begun).times)+1) (e:=(IntKind.u64.wrap (((fJ (fM (fM A.sl A.begun (fun x=>{ x with st:=1 })) A.begun (fun x=>{ x with after := -1 })) A.begun).times)+1))) rfl rfl rfl rfl rfl (fK q 1 ?_)))
   refine fa (o:=A.begun%64*3+0) (o' := A.begun%64*3+2) rfl rfl pI rfl jt (by simp only[lW];rfl) (ru (cf:=gT.cells) (xs:=fM (fM A.sl A.begun (fun x=>{ x with st:=1 })) A.begun (fun x=>{ x with after := -1 })) (k:=A.begun) (off:=2) (f:=(fun x=>{ x with times:=(IntKind.u64.wrap (((fJ (fM (fM A.sl A.begun (fun x=>{ x with st:=1 })) A.begun (fun x=>{ x with after := -1 })) A.begun).times)+1)) })) (u:=(.int .u64 (IntKind.u64.wrap (((fJ (fM (fM A.sl A.begun (fun x=>{ x with st:=1 })) A.begun (fun x=>{ x with after := -1 })) A.begun).times)+1)))) (vs:=[(.int .u64 (IntKind.u64.wrap (((fJ (fM (fM A.sl A.begun (fun x=>{ x with st:=1 })) A.begun (fun x=>{ x with after := -1 })) A.begun).times)+1)))]) (L' := [blk ab 278 (vO ab bv A ((A.begun+1:Nat):Int)),fL iw bv 392 1 A.ps,gJ gT.cells 395 64 A.ps (fM (fM (fM A.sl A.begun (fun x=>{ x with st:=1 })) A.begun (fun x=>{ x with after := -1 })) A.begun (fun x=>{ x with times:=(IntKind.u64.wrap (((fJ (fM (fM A.sl A.begun (fun x=>{ x with st:=1 })) A.begun (fun x=>{ x with after := -1 })) A.begun).times)+1)) }))]) 2 rfl rfl rfl rfl jt rfl rfl q rfl f_ d_ (by first|exact F|(simp only[gx];exact F)) T rfl rfl rfl (fun av M=>fK M 8 ?_))
   refine ar (a:=(A.used:Int)) (b:=1) (c:=(A.used:Int)+1) (e:=((A.used+1:Nat):Int)) rfl rfl rfl rfl (by rw[oh o_];omega) (jV M 13 fun aw ae=>?_)
   refine iD (v:=(Za A.begun)) (v' := Zc) Tryz.results209 rfl rfl ?_
   have e9:fM (fM (fM A.sl A.begun (fun x=>{ x with st:=1 })) A.begun (fun x=>{ x with after := -1 })) A.begun (fun x=>{ x with times:=(IntKind.u64.wrap (((fJ (fM (fM A.sl A.begun (fun x=>{ x with st:=1 })) A.begun (fun x=>{ x with after := -1 })) A.begun).times)+1)) })=fM A.sl A.begun tk:=LP F (by rw[jS (by rw[gx];exact F),jS F])
   have ax:=ae
   rw[e9]at ax
   exact⟨rfl,⟨A.n,A.begun+1,A.used+1,A.last,fM A.sl A.begun tk,[],A.ps⟩,bv,aA,⟨rfl,rfl,rfl⟩,ay,ym (R' := (NA ab bv ((⟨A.n,A.begun+1,A.used+1,A.last,fM A.sl A.begun tk,[],A.ps⟩:As).n:Int) ((⟨A.n,A.begun+1,A.used+1,A.last,fM A.sl A.begun tk,[],A.ps⟩:As).begun:Int) ((⟨A.n,A.begun+1,A.used+1,A.last,fM A.sl A.begun tk,[],A.ps⟩:As).used:Int) (⟨A.n,A.begun+1,A.used+1,A.last,fM A.sl A.begun tk,[],A.ps⟩:As))) (yc [_,_,_] _ ax) za⟩
theorem U0(ab:Nat)(bv:Value)(A:As)(w:World)(I:Own (Zs ab bv A) w)(C:A.ok)(i:Nat)(hi:A.gZ i) :
 CR ya 128 (Zm ab i) w (fun r w' => r = .int .i64 0/\∃ D,As.ok D/\(D.n=A.n/\D.begun=A.begun/\D.used=A.used-1)/\(∀ j,D.gZ j↔A.gZ j/\j≠i)/\fV (Zs ab bv A) w w' (Zs ab bv D)):=by
 have L:=C.n
 have K:=C.le
 have M:=C.used
 have F:=hi.1
 have J:=hi.2
 have G:=(C.room F).1
 obtain⟨b,hb⟩:=C.at F
 have N:=(C.free hi rfl).2.2
 refine en Tryz.func128 Tryz.ntmps128 ?_
 have H:=(yq I).unpack
 have c:=yc [_,_,_] _ H
 refine fR H 9 ?_
 refine cl vX (vT ab bv (A.n:Int) (A.begun:Int) (A.used:Int) A.last A.ps A.sl w (ye c 0 rfl)) ?_
 rintro _ m ⟨rfl,E⟩
 have a:=(yk c E)
 refine fK a 10 ?_
 refine cmp rfl rfl rfl (lG o_) (fK a 6 ?_)
 refine cmp rfl rfl rfl (p5 o_) ?_
 have d:=yc [_,_,_] _ a
 refine fK a 11 ?_
 refine cl OU (NR ab bv A m (ye d 0 rfl) C i o_) ?_
 rintro _ o ⟨rfl,E⟩
 have g:=(yk d E)
 refine cmp rfl rfl rfl (o7 (by rw[if_pos F,C.st i F,if_neg J])) ?_
 have h:=yc [_,_,_] _ g
 refine fK g 9 ?_
 refine cl AB (An ab bv (A.n:Int) (A.begun:Int) (A.used:Int) A.last A.ps A.sl o (ye h 0 rfl) i o_ b hb) ?_
 rintro _ t ⟨rfl,E⟩
 have k:=(yk h E)
 refine fK k 7 ?_
 refine fa (o' := i%64*3+0) rfl rfl pI rfl gr (by simp only[lW];rfl) (ru (f:=(fun x=>{ x with st:=2 })) (L' := [blk ab 278 (Z5 ab bv A),fL iw bv 392 1 A.ps,gJ gT.cells 395 64 A.ps (fM A.sl i (fun x=>{ x with st:=2 }))]) 2 rfl rfl rfl rfl gr rfl rfl k rfl f_ d_ (by first|exact G|(simp only[gx];exact G)) hb rfl rfl rfl (fun u l=>fK l 10 ?_))
 refine fa (o' := i%64*3+1) rfl rfl pI rfl gr (by simp only[lW];rfl) (ru (f:=(fun x=>{ x with after:=A.last })) (L' := [blk ab 278 (Z5 ab bv A),fL iw bv 392 1 A.ps,gJ gT.cells 395 64 A.ps (fM (fM A.sl i (fun x=>{ x with st:=2 })) i (fun x=>{ x with after:=A.last }))]) 2 rfl rfl rfl rfl gr rfl rfl l rfl f_ d_ (by first|exact G|(simp only[gx];exact G)) hb rfl rfl rfl (fun y p=>gI p 17 fun z q=>?_))
 refine ar (e:=((A.used-1:Nat):Int)) rfl rfl rfl rfl iW (jV q 11 fun B s=>?_)
 refine gq (v:=Zc) Tryz.results128 rfl ?_
 exact⟨rfl,⟨A.n,A.begun,A.used-1,(i:Int),fM (fM A.sl i (fun x=>{ x with st:=2 })) i (fun x=>{ x with after:=A.last }),i :: A.fl,A.ps⟩,(C.free hi rfl).1,⟨rfl,rfl,rfl⟩,(C.free hi rfl).2.1,yi (yc [_,_,_] _ s)⟩
theorem U2(ab:Nat)(bv:Value)(A:As)(w:World)(Q:Own (Zs ab bv A) w)(L:A.ok) :
 CR ya 84 (Zi ab) w (fun r w' => ∃ lv,r=lv/\fV (Zs ab bv A) w w' (gm (M3 ab bv A lv (gz (A.list A.begun))))):=by
 have S:=L.n
 have R:=L.le
 have T:=L.used
 refine en Tryz.func84 Tryz.ntmps84 ?_
 have O:=(yq Q).unpack
 have e:=yc [_,_,_] _ O
 refine fR O 9 ?_
 refine cl vX (vT ab bv (A.n:Int) (A.begun:Int) (A.used:Int) A.last A.ps A.sl w (ye e 0 rfl)) ?_
 rintro _ x ⟨rfl,M⟩
 have f:=(yk e M)
 refine fK f 12 ?_
 refine jf (m:=0) (c:=A.used) rfl (gj o_) rfl yd gr rfl o_ o_ o_ f ?_
 intro o y z B p
 have g:=St.T8 (i:=0) (m:=0) (c:=A.used) (sz:=1) p rfl s_ o_ (by simp only[maxLen];omega)
 have q:=yg [1,2,3,0] g
 refine gD g 14 ?_
 refine lp (α:=Nat×Value) (fun(k,lv)=>[(0,(Zb ab)),(3,lv),(16,(Za A.begun)),(17,(Za k))]) (fun(k,lv) w1=>St [(w,(Zs ab bv A).gH)] (M3 ab bv A lv (gz (A.list k))) w1/\k<=A.begun) (fun(k,lv)=>A.begun-k) (0,(Ea o A.used)) ⟨rfl,rfl,rfl,gj rO,trivial⟩ (⟨q,o_⟩) ?_
 rintro⟨k,lv⟩ C s ⟨F,U⟩
 refine fR F 2 ?_
 by_cases D:((k:Int):Int)<((A.begun:Int):Int)
 . have N:k<A.begun:=by omega
   have h:=yc [_,_,_] _ F
   refine fK F 19 ?_
   refine cl OU (NR ab bv A s (ye h 0 rfl) L k o_) ?_
   rintro _ E ⟨rfl,M⟩
   have a:=(yk h M)
   by_cases b:((if k<A.begun then(fJ A.sl k).st else 0):Int)=(1:Int)
   . refine fK a 1 ?_
     rw[if_pos N]at b
     refine fK a 6 ?_
     refine jJ (vs:=(Zd k)) (cs:=(Zd k)) rfl rfl yd gr rfl (by simp[Value.cells]) rfl rfl rfl a (fun t G H I j=>vQ (k:=.i64) (ys:=gz (A.list k)) (zs:=[(k:Int)]) (LL:=fun d=>[ig .i64 (Zy t) 3 ([(k:Int)]),blk ab 278 (Z5 ab bv A),fL iw bv 392 1 A.ps,gJ gT.cells 395 64 A.ps A.sl,ig .i64 d 3 ((gz (A.list k))++([(k:Int)]))]) 4 rfl rfl rfl yd gr rfl j rfl (kG j (i:=0) rfl) (by have P:=A.Q4 k;simp only[gz,zq,zb,zg];omega) (by have P:=A.Q4 k;simp only[gz,zq,zb,zg];omega) f_ ?_)
     intro d J u K
     have l:=yg [1,2,3,4] u
     refine fP l 8 ?_
     refine tN (?_)
     exact again ((k+1),d) ⟨rfl,rfl,rfl,gj rO,trivial⟩ (⟨by rw[As.Q5,if_pos b];rw[gz,qd];exact l,o_⟩) (by show (A.begun-(k+1):Nat)<A.begun-k;omega)
   . refine fK a 1 ?_
     rw[if_pos N]at b
     refine fP a 10 ?_
     refine tN (?_)
     exact again ((k+1),lv) ⟨rfl,rfl,rfl,gj rO,trivial⟩ (⟨by rw[As.Q5,if_neg b];exact a,o_⟩) (by show (A.begun-(k+1):Nat)<A.begun-k;omega)
 . refine fP F 17 ?_
   refine gq (v:=lv) Tryz.results84 rfl ?_
   obtain rfl:k=A.begun:=by omega
   exact⟨lv,rfl,yi (yc [_,_,_,_] _ F)⟩
theorem U7(n:Nat)(w:World)(l:n<=65536) :
 CR ya 218 (Z4 n) w (fun r w' => ∃ ab,r = .tuple (Z0 ab)/\fV (gm []) w w' (gm [blk ab 278 [(Zb ab),Zg,(Za ((As.new n).n:Int)),(Za ((As.new n).begun:Int)),(Za ((As.new n).used:Int)),(Za ((As.new n).last))],fL iw Zg 392 1 ((As.new n).ps),gJ gT.cells 395 64 ((As.new n).ps) ((As.new n).sl)])):=by
 refine en Tryz.func218 Tryz.ntmps218 ?_
 have h:=yu w
 refine fR h 10 ?_
 refine cmp rfl rfl rfl (lG o_) (fK h 2 ?_)
 refine cmp rfl rfl rfl (qx o_) (fK h 9 ?_)
 refine jc (pvs:=[(2,(Za n)),(5,Zw)]) (v:=.agg #[Zt,Zg,(Za n),Zc,Zc,Zw]) rfl rfl (jo [(2,(Zd n)),(5,[Zw])] F9 Si rfl ⟨rfl,rfl,rfl,rfl,trivial⟩ rfl) (iC h (fun a e f g b=>?_))
 refine jV b 20 fun c d=>?_
 refine iD (v:=(Zb a)) (v' := Zc) Tryz.results218 rfl rfl ?_
 have i:=oQ d 392 1
 have j:St _ (MM a n) c:=St.Em i 0
 have k:=lC j (List.reverse_perm (MM a n)).symm
 exact⟨a,rfl,nS (yc [_,_,_] [] k)⟩
end
section
open Go Go.Sx
theorem UT(ab:Nat)(bv:Value)(A:As)(w:World)(hO:Own (Zs ab bv A) w)(T:A.ok) :
 CR ya 204 (Zi ab) w (fun r w' => ∃ ag al F,r = .pointer (some ⟨ag,0,none⟩)/\As.ok { A with ps:=F }/\fV (Zs ab bv A) w w' (NB ab bv A ag al F)):=by
 have ap:=T.n
 have ao:=T.le
 have aq:=T.used
 have au:=T.pE
 refine enter (vs:=(Zf ab)) Tryz.func204 rfl Tryz.ntmps204 rfl ?_
 have ak:=(yq hO).unpack
 have h:=yc [_,_,_] _ ak
 refine fR ak 9 ?_
 refine jO (vl:=(Zf ab)) rfl rfl vX (vT ab bv (A.n:Int) (A.begun:Int) (A.used:Int) A.last A.ps A.sl w (ye h 0 rfl)) ?_
 rintro _ K ⟨rfl,ht⟩
 have s:=(mh (R' := (Zs ab bv A)) 0 h rfl ht rfl).unpack
 refine gI s 24 fun L t=>?_
 refine jc (pvs:=[(2,(Za A.n)),(3,(Za A.begun)),(4,(Za A.used)),(5,(Za A.last))]) (v:=.agg #[Zt,Zg,(Za A.n),(Za A.begun),(Za A.used),(Za A.last)]) rfl rfl (jo [(2,(Zd A.n)),(3,(Zd A.begun)),(4,(Zd A.used)),(5,(Zd A.last))] F9 Si rfl ⟨rfl,rfl,rfl,rfl,rfl,rfl,rfl,rfl,trivial⟩ rfl) (iC t (fun c M N O u=>?_))
 refine gI u 15 fun j y=>?_
 have z:St _ [fL iw Zg 392 1 ([]),blk c 278 (Nr c A),blk ab 278 (Z5 ab bv A),fL iw bv 392 1 A.ps,gJ gT.cells 395 64 A.ps A.sl] j:=oQ y 392 1
 have f:St _ [gJ gT.cells 395 64 ([]) (A.sl.take (64*0)),fL iw Zg 392 1 ([]),blk c 278 (Nr c A),blk ab 278 (Z5 ab bv A),fL iw bv 392 1 A.ps,gJ gT.cells 395 64 A.ps A.sl] j:=St.Em z 0
 refine fK f 4 ?_
 refine iM (m:=A.ps.length) 4 rfl rfl Bw f rfl ?_
 have B:=yg [3,4,5,2,1,0] f
 refine gD f 4 ?_
 refine lp (α:=Nat×Value×List (Option Nat)) (fun(k,v2,F)=>[(3,(Zb c)),(35,bv),(36,(Za A.ps.length)),(37,(Za k))]) (fun(k,v2,F) w1=>St [(w,(Zs ab bv A).gH)] [blk ab 278 (Z5 ab bv A),fL iw bv 392 1 A.ps,gJ gT.cells 395 64 A.ps A.sl,blk c 278 (Z5 c v2 A),fL iw v2 392 1 F,gJ gT.cells 395 64 F (A.sl.take (64*k))] w1/\k<=A.ps.length/\xx F k) (fun(k,v2,F)=>A.ps.length-k) (0,Zg,[]) ⟨rfl,rfl,rfl,gj rO,trivial⟩ (⟨B,o_,xx.start⟩) ?_
 rintro⟨k,v2,F⟩ P Q ⟨ae,ar,hC⟩
 have an:=hC.len
 refine fR ae 2 ?_
 by_cases R:((k:Int):Int)<((A.ps.length:Int):Int)
 . have hk:k<A.ps.length:=by omega
   obtain⟨bq,ah⟩:=T.ps k hk
   refine fK ae 19 ?_
   refine uZ (a:=⟨bq,0,none⟩) rfl (Be (iK ah)) ?_
   have af:(((A.sl.drop (64*k)).take 64).flatMap gT.cells).length=192:=Oh (cf:=gT.cells) (sz:=3) f_ T.sl hk
   refine uU (b:=bq) (o:=0) (cs:=(((A.sl.drop (64*k)).take 64).flatMap gT.cells)) rfl rfl Tryz.underlying395 rfl LK af (St.Ob ae (i:=2) rfl ((gy hk).trans (congrArg some (iK ah)))) (iE ae (fun d S U V C=>?_))
   refine FY (v:=.agg (((A.sl.drop (64*k)).take 64).flatMap gT.cells).toArray) (vs:=(((A.sl.drop (64*k)).take 64).flatMap gT.cells)) (L' := [blk d 395 (((A.sl.drop (64*k)).take 64).flatMap gT.cells),blk ab 278 (Z5 ab bv A),fL iw bv 392 1 A.ps,gJ gT.cells 395 64 A.ps A.sl,blk c 278 (Z5 c v2 A),fL iw v2 392 1 F,gJ gT.cells 395 64 F (A.sl.take (64*k))]) 0 rfl rfl rfl rfl LK af (zk.2 (xX f_ _)) C rfl (by rw[af];decide) (S8 (by rw[af];rfl)) rfl (fun W l X=>fK l 8 ?_)
   refine jJ (vs:=(Zf d)) (cs:=(Zf d)) rfl rfl Bw Db rfl (by simp[Value.cells]) rfl rfl rfl l (fun D Y Z aa p=>k8 (cf:=iw) (ys:=F) (zs:=[(some d)]) (LL:=fun e=>[row (Zy D) 392 1 1 ((Zf d)),blk d 395 (((A.sl.drop (64*k)).take 64).flatMap gT.cells),blk ab 278 (Z5 ab bv A),fL iw bv 392 1 A.ps,gJ gT.cells 395 64 A.ps A.sl,blk c 278 (Z5 c v2 A),fL iw e 392 1 (F++[(some d)]),gJ gT.cells 395 64 F (A.sl.take (64*k))]) 6 rfl rfl rfl Bw Db rfl d_ p rfl (kG p (i:=0) rfl) (fun x hx=>zk.1 (show List.all _ _=true from rfl) x hx) (by have h7:=T.pE;simp only[zb,zg];omega) (by have h7:=T.pE;simp only[zb,zg];omega) f_ ?_)
   intro e ac E ad
   have g:=yg [1,2,3,4,5,6,7] E
   refine fK g 2 ?_
   refine jM 4 g (fun G q=>?_) (hvs:=(cells_one (yr g (i:=5) rfl))) (h1:=(gX (yr g (i:=5) rfl) j4))
   refine fP q 7 ?_
   refine tN (?_)
   have H:=yg [0,6,1,2,3,4,5] q
   have ai:=VJ T.sl hk
   have I:St [(w,(Zs ab bv A).gH)] [gJ gT.cells 395 64 (F++[(some d)]) (A.sl.take (64*(k+1))),blk ab 278 (Z5 ab bv A),fL iw bv 392 1 A.ps,gJ gT.cells 395 64 A.ps A.sl,blk c 278 (Z5 c e A),fL iw e 392 1 (F++[(some d)])] G:=by rw[<-afu];exact St.Od H (by rw[ai.2,an]) ai.1 rfl
   have J:=yg [1,2,3,4,5,0] I
   exact again ((k+1),e,F++[(some d)]) ⟨rfl,rfl,rfl,gj rO,trivial⟩ (⟨J,o_,hC.next⟩) (by show (A.ps.length-(k+1):Nat)<A.ps.length-k;omega)
 . refine fP ae 17 ?_
   refine gq (v:=(Zb c)) Tryz.results204 rfl ?_
   have am:k=A.ps.length:=by omega
   have aj:=ae
   rw[BG (show A.sl.length<=64*k by rw[am];exact Nat.le_of_eq T.sl)]at aj
   exact⟨c,v2,F,rfl,T.copy o_ hC.all,ym (R' := (NB ab bv A c v2 F)) (yc [_,_,_,_,_,_] _ aj) za⟩
end
section
open Go Go.Sx
def AW.R(ab:Nat)(v:AW):fT:=kO v.A.ok (Zs ab v.bv v.A)
abbrev xC(a:fU):=(AW.R a.jj a.aw:fT)
abbrev Hz(a b:Nat)(c:TW):=([blk a 302 (o5 a b c),fL gO c.iv 39 1 c.ids,fL fS c.cv 3 1 c.cs,AW.R b c.w]:List fT)
abbrev MH(a b:Nat)(c:TW) d e f g:=([blk a 302 (o5 a b c),fL gO c.iv 39 1 c.ids,fL fS c.cv 3 1 c.cs,AW.R b c.w,fL fS d 3 1 e,fL gO f 39 1 g]:List fT)
abbrev HB(a:Nat) b (c d:Nat) (e:TW) f g h i:=([ig .u64 (Zy a) 39 b,blk c 302 (o5 c d e),fL gO e.iv 39 1 e.ids,fL fS e.cv 3 1 e.cs,AW.R d e.w,fL fS f 3 1 g,fL gO h 39 1 i]:List fT)
theorem L9(ab:Nat)(v:AW)(w:World)(a:Own (AW.R ab v) w) :
 CR ya 104 (Zi ab) w (fun r w' => r = .int .i64 (v.A.used:Int)/\fV (AW.R ab v) w w' (AW.R ab v)):=by
 exact CR.mono (U1 ab v.bv v.A w a.un a.fact) fun r w' ⟨b,c⟩=>⟨b,c.qb a.fact⟩
theorem Uj(ab:Nat)(v:AW)(w:World)(j:Own (AW.R ab v) w)(q:v.A.used<v.A.n) :
 CR ya 209 (Zi ab) w (fun r w' => ∃ i v2,r = .tuple (xz ((i:Nat):Int))/\AW.put v.A v2.A i/\fV (AW.R ab v) w w' (AW.R ab v2)):=by
 have a:=j.fact
 rcases a.full q with ⟨i,l,b⟩|⟨b,p⟩
 . have hp:=a.pop b
   exact CR.mono (UP ab v.bv v.A w j.un a i l b) fun r w' ⟨g,c,d,m,⟨e1,e,f⟩,k,o⟩=>⟨i,⟨d,c⟩,g,⟨e1,f,k,hp.2.2.1,.inl ⟨hp.2.2.2.1,e⟩⟩,o.qb m⟩
 . exact CR.mono (UQ ab v.bv v.A w j.un a b p) fun r w' ⟨g,c,d,m,⟨e1,e,f⟩,k,o⟩=>⟨v.A.begun,⟨d,c⟩,g,⟨e1,f,k,fun h=>Nat.lt_irrefl _ h.1,.inr ⟨rfl,e⟩⟩,o.qb m⟩
theorem Um(ab:Nat)(v:AW)(w:World)(a:Own (AW.R ab v) w)(i:Nat)(hi:v.A.gZ i) :
 CR ya 128 (Zm ab i) w (fun r w' => ∃ v2,r = .int .i64 0/\AW.del v.A v2.A i/\fV (AW.R ab v) w w' (AW.R ab v2)):=by
 exact CR.mono (U0 ab v.bv v.A w a.un a.fact i hi) fun r w' ⟨e,b,g,⟨e1,c,d⟩,f,h⟩=>⟨⟨v.bv,b⟩,e,⟨e1,c,d,(a.fact.free hi rfl).2.2,f⟩,h.qb g⟩
theorem Uv(n:Nat)(w:World)(a:n<=65536) :
 CR ya 218 (Z4 n) w (fun r w' => ∃ ab v,r = .tuple (Z0 ab)/\v.A=As.new n/\fV (gm []) w w' (AW.R ab v)):=by
 exact CR.mono (U7 n w a) fun r w' ⟨ab,b,c⟩=>⟨ab,⟨.slice none 0 0,As.new n⟩,b,rfl,c.Gm (As.tS a)⟩
theorem Ul(ab:Nat)(v:AW)(w:World)(d:Own (AW.R ab v) w) :
 CR ya 204 (Zi ab) w (fun r w' => ∃ a v2,r = .pointer (some ⟨a,0,none⟩)/\(∃ b,v2.A={ v.A with ps:=b })/\fV (AW.R ab v) w w' (gm [AW.R ab v,AW.R a v2])):=by
 refine CR.mono (UT ab v.bv v.A w d.un d.fact) fun r w' ⟨a,c,b,f,g,i⟩=>⟨a,⟨c,{ v.A with ps:=b }⟩,f,⟨b,rfl⟩,(fV.EL (A:=(Al ab v.bv v.A)) (B:=[blk a 278 (Z5 a c v.A),fL iw c 392 1 b,gJ gT.cells 395 64 b v.A.sl]) i).LY.Ff rfl (fun h=>?_)⟩
 intro Q e
 simp only[ze,oV,or_false]at e
 rcases e with rfl|rfl
 . exact⟨d.fact,h _ s_⟩
 . exact⟨g,h _ s_⟩
end
section
open Go Go.Sx
def TW.R(tb ab:Nat)(t:TW):fT:=kO t.ok (gm [blk tb 302 (o5 tb ab t),fL gO t.iv 39 1 t.ids,fL fS t.cv 3 1 t.cs,(AW.R ab t.w)])
abbrev Ac(a:fU) b:=(TW.R a.tb a.ab b:fT)
abbrev xD(a:fU):=(TW.R a.tb a.ab a.t:fT)
abbrev MZ(a:Nat)(b c:Int)(d:fU) e:=([blk a 174 (pY b c d e),fL Lv.cells d.lv 43 7 d.live,ic d.mb .u64 p_ d.im,jE 3 d.im,AW.R d.jj d.aw,TW.R d.tb d.ab d.t]:List fT)
abbrev MY(a:Nat)(b c:Int)(d:fU) e f g h i:=([blk a 174 (pY b c d e),fL Lv.cells d.lv 43 7 d.live,ic d.mb .u64 p_ d.im,jE 3 d.im,AW.R d.jj d.aw,TW.R d.tb d.ab d.t,fL fS f 3 1 g,fL Lv.cells h 43 7 i]:List fT)
abbrev Ht a (b:Nat) (c d:Int) (e:fU) f g h i j:=([a,blk b 174 (pY c d e f),fL Lv.cells e.lv 43 7 e.live,ic e.mb .u64 p_ e.im,jE 3 e.im,AW.R e.jj e.aw,TW.R e.tb e.ab e.t,fL fS g 3 1 h,fL Lv.cells i 43 7 j]:List fT)
abbrev Ng a (b:Nat) (c:Lv) (d:Nat) (e f:Int) (g:fU) h i j (k:Nat):=([jE 3 a,blk b 43 (Z6 c),blk d 174 (pY e f g h),fL Lv.cells g.lv 43 7 i,ic g.mb .u64 p_ a,AW.R g.jj j,TW.R g.tb g.ab g.t,blk k 43 nD]:List fT)
abbrev Nl a b c (d:Nat) (e:Lv) (f:Nat) (g h:Int) (i:fU) j k l m (n:Nat):=([ig .i64 a 3 b,jE 3 c,blk d 43 (Z6 e),blk f 174 (pY g h i j),fL Lv.cells i.lv 43 7 k,ic i.mb .u64 p_ l,AW.R i.jj m,TW.R i.tb i.ab i.t,blk n 43 nD]:List fT)
abbrev No a b c d (e:Nat) (f g:Int) (h:fU) i j k (l m n:Nat) o p q r s t (u:Nat) v:=([fL fS a 3 1 b,fL fS c 3 1 b,jE 3 d,blk e 174 (pY f g h i),fL Lv.cells h.lv 43 7 h.live,j,jE 3 k,AW.R h.jj h.aw,TW.R h.tb h.ab h.t,blk l 174 (Ec f g h.last m n o p),fL Lv.cells o 43 7 h.live,ic q .u64 p_ r,jE 3 s,AW.R m t,TW.R n u v]:List fT)
abbrev MO a (b:Nat) (c d:Int) (e:Lv) (f:Nat) (g h:Int) (i:fU) j k l m n (o p:Nat):=([jE 3 a,blk b 43 (qO c d e),blk f 174 (Ee g h d i j k),fL Lv.cells j 43 7 l,ic i.mb .u64 p_ a,AW.R i.jj m,TW.R i.tb i.ab n,blk o 43 nD,blk p 41 (Z3 e)]:List fT)
abbrev MN a (b:Nat) (c d:Int) (e:Lv) (f:Nat) (g h:Int) (i:fU) j k l m (n o:Nat):=([jE 3 a,blk b 43 (qO c d e),blk f 174 (Ch g h d i j),fL Lv.cells i.lv 43 7 k,ic i.mb .u64 p_ a,AW.R i.jj l,TW.R i.tb i.ab m,blk n 43 nD,blk o 41 (Z3 e)]:List fT)
abbrev Nk a b c (d:Nat) (e f:Int) (g:Lv) (h:Nat) (i j:Int) (k:fU) l m n o p q (r s:Nat):=([ig .i64 a 3 b,jE 3 c,blk d 43 (qO e f g),blk h 174 (Ee i j f k l m),fL Lv.cells l 43 7 n,ic k.mb .u64 p_ o,AW.R k.jj p,TW.R k.tb k.ab q,blk r 43 nD,blk s 41 (Z3 g)]:List fT)
abbrev Nj a b c (d:Nat) (e f:Int) (g:Lv) (h:Nat) (i j:Int) (k:fU) l m n o p (q r:Nat):=([ig .i64 a 3 b,jE 3 c,blk d 43 (qO e f g),blk h 174 (Ch i j f k l),fL Lv.cells k.lv 43 7 m,ic k.mb .u64 p_ n,AW.R k.jj o,TW.R k.tb k.ab p,blk q 43 nD,blk r 41 (Z3 g)]:List fT)
theorem Tu(tb ab:Nat)(t:TW)(w:World)(f:Own (Zz tb ab t) w)(d:TW.Sz t.n)(id:Int) :
 CR ya 277 (Z2 tb id) w (fun r w' => r = .int .i64 ((kQ t.n id:Nat):Int)/\fV (Zz tb ab t) w w' (Zz tb ab t)):=by
 have j:t.cs.length=t.n:=rfl
 have h:=d.two
 have k:=d.top
 have g:0<t.n:=by omega
 have i:=xY (id:=id) g
 refine en Tryz.func277 Tryz.ntmps277 ?_
 have c:=Own.of f
 refine fR c 9 ?_
 refine shr (a:=id) (b:=33) (e:=(id.fdiv (2 ^ 33))) rfl rfl rfl d_ rfl (bi (a:=id) (b:=(id.fdiv (2 ^ 33))) (e:=(kY id)) rfl rfl rfl (Mc _) (fK c 6 ?_))
 refine ar (e:=(mw 18397679294719823053 (kY id))) rfl rfl rfl rfl rfl (fK c 7 ?_)
 refine shr (a:=(mw 18397679294719823053 (kY id))) (b:=33) (e:=((mw 18397679294719823053 (kY id)).fdiv (2 ^ 33))) rfl rfl rfl d_ rfl (bi (a:=(mw 18397679294719823053 (kY id))) (b:=((mw 18397679294719823053 (kY id)).fdiv (2 ^ 33))) (e:=(kY (mw 18397679294719823053 (kY id)))) rfl rfl rfl (Mc _) (fK c 6 ?_))
 refine ar (e:=(mw 14181476777654086739 (kY (mw 18397679294719823053 (kY id))))) rfl rfl rfl rfl rfl (fK c 7 ?_)
 refine shr (a:=(mw 14181476777654086739 (kY (mw 18397679294719823053 (kY id))))) (b:=33) (e:=((mw 14181476777654086739 (kY (mw 18397679294719823053 (kY id)))).fdiv (2 ^ 33))) rfl rfl rfl d_ rfl (bi (a:=(mw 14181476777654086739 (kY (mw 18397679294719823053 (kY id))))) (b:=((mw 14181476777654086739 (kY (mw 18397679294719823053 (kY id)))).fdiv (2 ^ 33))) (e:=(kY (mw 14181476777654086739 (kY (mw 18397679294719823053 (kY id)))))) rfl rfl rfl (Mc _) (fK c 10 ?_))
 refine iM (m:=t.cs.length) 2 rfl rfl yd c rfl (fK c 2 ?_)
 refine bi (a:=(kY (mw 14181476777654086739 (kY (mw 18397679294719823053 (kY id)))))) (b:=(t.cs.length:Int)-1) (e:=((kQ t.n id:Nat):Int)) rfl rfl rfl (d.p2.home id) (fP c 5 ?_)
 refine gq (v:=(Za ((kQ t.n id:Nat):Int))) Tryz.results277 rfl ?_
 exact⟨rfl,yi (yc [_,_,_] _ c)⟩
theorem afX(tb:Nat)(id:Int)(w:World) :
 CR ya 276 (Z2 tb id) w (fun r w' => ∃ m n,r = .func (.func 326) #[] (xH m n)/\fV (gm []) w w' (gm [blk m 171 (Zf tb),blk n 39 (Zq id)])):=by
 refine en Tryz.func276 Tryz.ntmps276 ?_
 have l:=yu w
 refine fR l 2 ?_
 refine iC l (fun a f g h d=>?_)
 refine iC d (fun b i j k c=>?_)
 refine fK c 5 ?_
 refine mO (vf:=[]) (vc:=(qp a b)) rfl rfl rfl (fP c 4 ?_)
 refine gq (v:=(.func (.func 326) #[] (xH a b))) Tryz.results276 rfl ?_
 have e:=yg [1,0] c
 exact⟨a,b,rfl,nS (yc [_,_] _ e)⟩
theorem afW{γ:Type}(A:γ->fT)(D:γ->Nat->Nat->Prop)(I:γ->Prop)(z0:γ)(l B C tb ab:Nat)(t:TW)(id:Int)(w:World)(R:∀ (z:γ) (k c:Nat) (bs:List (World×List Nat)) (L:List fT) (w:World),k<t.n->c<t.n->D z k c->St bs (A z :: (Cc tb ab t)++L) w->YR ya l (Zn c ((fJ t.cs c:Nat):Int)) w (fun v w' => ∃ H b,v = .bool b/\(b=true->D H (k+1) (iA t.n c))/\(b=false->I H)/\St bs (A H :: (Cc tb ab t)++L) w'))(F:t.ok)(S:D z0 0 (kQ t.n id))(M:Own (DR (A z0) tb ab t B C id) w) :
 CR ya 326 (Hs (.func (.yield l) #[] #[]) B C) w (fun r w' => ∃ z,((∃ c,D z t.n c)\/I z)/\r = .tuple #[]/\fV (DR (A z0) tb ab t B C id) w w' (DR (A z) tb ab t B C id)):=by
 have V:t.cs.length=t.n:=rfl
 have T:=F.two
 have W:=F.top
 have P:0<t.n:=by omega
 refine en Tryz.func326 Tryz.ntmps326 ?_
 have K:=Own.of M
 have j:=yg [1,2,3,0,4,5] K
 have g:=yc [_,_,_] _ j
 refine fR K 4 ?_
 refine cl Pm (Tu tb ab t w (ye g 0 rfl) F.sz id) ?_
 rintro _ q ⟨rfl,Q⟩
 have f:=(yk g Q)
 refine fK f 9 ?_
 refine iM (m:=t.cs.length) 2 rfl rfl yd f rfl ?_
 have o:=yg [3,0,1,2,4,5] f
 refine gD f 4 ?_
 refine lp (α:=γ×Nat×Nat) (fun(z,k,c)=>[(0,(.func (.yield l) #[] #[])),(1,(Zb B)),(2,(Zb C)),(4,(Za c)),(12,(Za t.cs.length)),(13,(Za k))]) (fun(z,k,c) w1=>St [(w,(DR (A z0) tb ab t B C id).gH)] [(A z),blk tb 302 (o5 tb ab t),fL gO t.iv 39 1 t.ids,fL fS t.cv 3 1 t.cs,blk B 171 (Zf tb),blk C 39 (Zq id)] w1/\k<=t.n/\c<t.n/\D z k c) (fun(z,k,c)=>t.n-k) (z0,0,(kQ t.n id)) ⟨rfl,rfl,rfl,gj rO,rfl,gj rO,trivial⟩ (⟨o,o_,xY P,S⟩) ?_
 rintro⟨z,k,c⟩ s u ⟨E,U,G,J⟩
 refine fR E 2 ?_
 by_cases x:((k:Int):Int)<((t.cs.length:Int):Int)
 . refine fK E 21 ?_
   refine yl (vl:=(Zn c (((fJ t.cs c):Nat):Int))) rfl rfl rfl (R z k c _ _ _ o_ G J E) ?_
   rintro _ y ⟨h,p,rfl,O,N,d⟩
   refine gD d 3 ?_
   cases i:(p:Bool)
   . skip
     subst i
     refine iO d 7 ?_
     refine wN Tryz.results326 ?_
     exact⟨h,.inr (N rfl),rfl,yi (yc [_,_,_,_,_,_] _ d)⟩
   . skip
     subst i
     refine fR d 10 ?_
     refine iM (m:=t.cs.length) 3 rfl rfl yd d rfl (fK d 1 ?_)
     refine bi (a:=(c:Int)+1) (b:=(t.cs.length:Int)-1) (e:=((iA t.n c:Nat):Int)) rfl rfl rfl (F.p2.nx G) (fP d 8 ?_)
     refine tN (?_)
     exact again (h,(k+1),(iA t.n c)) ⟨rfl,rfl,rfl,gj rO,rfl,gj rO,trivial⟩ (⟨d,o_,Kh G,O rfl⟩) (by show t.n-(k+1)<t.n-k;omega)
 . refine fP E 9 ?_
   refine iS Tryz.results326 ?_
   obtain rfl:k=t.n:=by omega
   exact⟨z,.inl ⟨c,J⟩,rfl,yi (yc [_,_,_,_,_,_] _ E)⟩
theorem afA(tb ab:Nat)(t:TW)(w:World)(hO:Own (Zz tb ab t) w)(T:t.ok)(id:Int) :
 CR ya 201 (Z2 tb id) w (fun r w' => r = .tuple (qo ((t.find id).1:Int) ((t.find id).2))/\fV (Zz tb ab t) w w' (Zz tb ab t)):=by
 have aQ:t.cs.length=t.n:=rfl
 have aM:=T.two
 have aS:=T.top
 have aR:0<t.n:=by omega
 refine xU (vs:=[(Zb tb),(Zo id)]) Tryz.func201 rfl Tryz.ntmps201 rfl ?_
 have aF:=Own.of hO
 refine fR aF 2 ?_
 refine iC aF (fun d S U V A=>?_)
 refine iC A (fun f W X Y B=>?_)
 refine iE B (fun g Z aa ac C=>?_)
 refine iE C (fun i D ad ae s=>?_)
 refine fK s 7 ?_
 refine cl XW (afX tb id D) ?_
 rintro _ af ⟨m,o,rfl,ht⟩
 have u:=yv (jR s ht)
 have E:=yg [3,2,5,4,6,7,8,0,1] u
 refine gD u 3 ?_
 refine rfx (α:=Bool×Int×Bool) (ps:=[11,12]) (fi:=[]) (ca:=(qp m o)) (fun(sp,a,b)=>[blk g 3 (Zd a),blk i 4 [(.bool b)],blk d 171 (Zf tb),blk f 39 (Zq id),blk tb 302 (o5 tb ab t),fL gO t.iv 39 1 t.ids,fL fS t.cv 3 1 t.cs,blk m 171 (Zf tb),blk o 39 (Zq id)]) (fun(sp,a,b)=>(sp=false/\t.find id=(0,false))\/(sp=true/\a=((t.find id).1:Int)/\b=(t.find id).2)) (fun(sp,a,b)=>sp) E rfl X8 ?_ ?_ ?_
 . intro fn dd l wl rc aA aK
   have G:=yg [0,2,3,4,5,6,7,8,9,10,1] aK
   have aG:=yc [iT l rc,blk g 3 Am,blk i 4 [Zp],blk d 171 (Zf tb),blk f 39 (Zq id)] [blk tb 302 (o5 tb ab t),fL gO t.iv 39 1 t.ids,fL fS t.cv 3 1 t.cs,blk m 171 (Zf tb),blk o 39 (Zq id),jK dd (some [])] G
   have aE:rc.state = .ready:=by rw[aA]
   have aH:rc.pending=none:=by rw[aA]
   have aI:∀ (z:Bool×Int×Bool) (k c:Nat) (bs:List (World×List Nat)) (L:List fT) (w:World),k<t.n->c<t.n->(fun(z:Bool×Int×Bool) k c=>z.1=false/\t.rest id k c) z k c->St bs ((fun((sp,a,b):Bool×Int×Bool)=>gm (Hu (iT l (yL sp rc)) g a i b d tb f id)) z :: (Cc tb ab t)++L) w->YR ya l (Zn c ((fJ t.cs c:Nat):Int)) w (fun v w' => ∃ z2 b,v = .bool b/\(b=true->(fun(z:Bool×Int×Bool) k c=>z.1=false/\t.rest id k c) z2 (k+1) (iA t.n c))/\(b=false->(fun(z:Bool×Int×Bool)=>z.1=true/\z.2.1=((t.find id).1:Int)/\z.2.2=(t.find id).2) z2)/\St bs ((fun((sp,a,b):Bool×Int×Bool)=>gm (Hu (iT l (yL sp rc)) g a i b d tb f id)) z2 :: (Cc tb ab t)++L) w'):=by
    rintro⟨sp,a,b⟩ k c bs LT wr hk hc ⟨rfl,az⟩ aw
    have aw:=aw.unpack
    refine wO (vl:=(Zn c ((fJ t.cs c:Nat):Int))) 0 aA aw rfl rfl rfl (iO aw 8 ?_)
    refine tN (?_)
    refine xN 0 aw rfl aE rfl (fun ag p=>fR p 5 ?_)
    by_cases ah:(((fJ t.cs c:Nat):Int):Int)=(0:Int)
    . have aN:fJ t.cs c=0:=by omega
      refine fK p 1 ?_
      skip
      skip
      skip
      refine jV p 13 fun ai H=>?_
      refine OK 0 H rfl rfl ?_
      intro aj I
      have av:t.find id=(c,false):=TW.ad2 az hk o_
      exact⟨_,rfl,(true,(c:Int),false),false,rfl,fun h=>(by cases h),fun _=>⟨rfl,by rw[av],by rw[av]⟩,yc [_,_,_,_,_] _ I⟩
    . obtain⟨j,hj⟩:∃ j,fJ t.cs c=j+1:=⟨fJ t.cs c-1,o_⟩
      have aC:=T.val hc hj
      have aO:j<t.ids.length:=aC.2.2.1
      have aP:j<65536:=oB aC.2.2.2 T.an
      refine gI p 13 fun ak q=>?_
      refine ar (e:=((j:Nat):Int)) rfl rfl rfl rfl iW (fK q 3 ?_)
      by_cases x:((fJ t.ids j):Int)=(id:Int)
      . have ay:fJ t.ids j=id:=by have h7:=x;omega
        refine jV q 13 fun al J=>?_
        refine OK 0 J rfl rfl ?_
        intro am K
        have av:t.find id=(c,true):=TW.adZ az hk hj ay
        exact⟨_,rfl,(true,(c:Int),true),false,rfl,fun h=>(by cases h),fun _=>⟨rfl,by rw[av],by rw[av]⟩,yc [_,_,_,_,_] _ K⟩
      . have ay:fJ t.ids j≠id:=by have h7:=x;omega
        refine fP q 6 ?_
        refine xR 0 q rfl aE aH rfl ?_
        intro ao M
        exact⟨_,rfl,(false,a,b),true,rfl,fun _=>⟨rfl,TW.ad0 az hk hj ay⟩,fun h=>(by cases h),yc [_,_,_,_,_] _ M⟩
   have aD:=yc [_,_,_,_,_,_] _ aG
   refine CR.mono (afW (fun((sp,a,b):Bool×Int×Bool)=>gm (Hu (iT l (yL sp rc)) g a i b d tb f id)) (fun(z:Bool×Int×Bool) k c=>z.1=false/\t.rest id k c) (fun(z:Bool×Int×Bool)=>z.1=true/\z.2.1=((t.find id).1:Int)/\z.2.2=(t.find id).2) (false,0,false) l m o tb ab t id wl aI T ⟨rfl,TW.ad1 t id⟩ (ye aD 0 rfl)) ?_
   rintro _ w9 ⟨⟨sp,a,b⟩,hz,-,aL⟩
   have aJ:=(yk aD aL).unpack
   have N:=yg [0,10,1,2,3,4,5,6,7,8,9] aJ
   refine⟨(sp,a,b),?_,N⟩
   rcases hz with ⟨c,h1,h2⟩|h1
   . exact .inl ⟨h1,TW.adY h2⟩
   . exact .inr h1
 . rintro⟨sp,a,b⟩ dd ap hC aB O
   have hf:t.find id=(0,false):=hC.elim (fun h=>h.2) (fun h=>absurd (h.1.symm.trans aB) d_)
   refine sQQ tt none O 9 fun aq P=>?_
   refine AT 0 P rfl rfl ?_
   intro w8 F
   have Q:=yg [5,6,7,0,1,2,3,4,8,9] F
   have ax:fV (Zz tb ab t) w w8 (Zz tb ab t):=yi (yc [_,_,_] _ Q)
   exact⟨_,KK Tryz.results201 (Bm rfl yf rfl (lT F 1 rfl rfl)) (Bm rfl y9 rfl (lT F 2 rfl rfl)),_,rfl,by rw[hf];rfl,ax⟩
 . rintro⟨sp,a,b⟩ dd au hC aB y
   have hf:a=((t.find id).1:Int)/\b=(t.find id).2:=hC.elim (fun h=>absurd (h.1.symm.trans aB) d_) (fun h=>h.2)
   refine r8 tt none y 2 ?_
   refine AT 0 y rfl rfl ?_
   intro w8 F
   have R:=yg [5,6,7,0,1,2,3,4,8,9] F
   have ax:fV (Zz tb ab t) w w8 (Zz tb ab t):=yi (yc [_,_,_] _ R)
   exact⟨_,KK Tryz.results201 (Bm rfl yf rfl (lT F 1 rfl rfl)) (Bm rfl y9 rfl (lT F 2 rfl rfl)),_,rfl,by rw[hf.1,hf.2],ax⟩
end
section
open Go Go.Sx
theorem C4(tb ab:Nat)(t:TW)(w:World)(a:Own (Zz tb ab t) w)(c:t.ok)(id:Int)(p:Nat)(b:Bool)(d:t.find id=(p,b)) :
 CR ya 201 (Z2 tb id) w (fun r w' => r = .tuple (qo p b)/\fV (Zz tb ab t) w w' (Zz tb ab t)):=by
 have h:=afA tb ab t w a c id
 rw[d]at h
 exact h
theorem w5(tb ab:Nat)(t:TW)(w:World)(d:Own (Zz tb ab t) w)(e:t.ok) :
 CR ya 179 (Zi tb) w (fun r w' => r = .bool true/\fV (Zz tb ab t) w w' (Zz tb ab t)):=by
 refine en Tryz.func179 Tryz.ntmps179 ?_
 have b:=Own.of d
 refine fR b 8 ?_
 refine l9 (a:=some ⟨tb,0,none⟩) (c:=true) rfl rfl rfl Tryz.underlying171 rfl (fK b 6 ?_)
 refine AH (a:=⟨tb,0,none⟩) rfl rfl rfl Tryz.underlying171 Ga (fP b 5 ?_)
 refine gq (v:=Zh) Tryz.results179 rfl ?_
 exact⟨rfl,yi (yc [_,_,_] _ b)⟩
theorem afD(tb ab:Nat)(t:TW)(w:World)(h:Own (TW.R tb ab t) w)(id:Int)(i:Nat)(hi:t.A.gZ i)(q:fJ t.ids i=id) :
 CR ya 203 (Z2 tb id) w (fun r w' => r = .tuple (DP i)/\fV (TW.R tb ab t) w w' (TW.R tb ab t)):=by
 have y:t.cs.length=t.n:=rfl
 have z:=h.fact.top
 obtain⟨p,hp,l,m⟩:=h.fact.I2 hi
 rw[q]at m
 have s:=(h.fact.val hp l).2.2.2
 have x:i<65536:=oB s h.fact.an
 have u:=(h.fact.val hp l).2.2.1
 refine en Tryz.func203 Tryz.ntmps203 ?_
 have o:=Own.of h.un
 have j:t.ok:=h.fact
 have b:=yc [_,_,_] _ o
 refine fR o 10 ?_
 refine cl vY (w5 tb ab t w (ye b 0 rfl) j) ?_
 rintro _ f ⟨rfl,k⟩
 have c:=(yk b k)
 have d:=yc [_,_,_] _ c
 refine fK c 10 ?_
 refine cl Cw (C4 tb ab t f (ye d 0 rfl) j id p true m) ?_
 rintro _ g ⟨rfl,k⟩
 have a:=(yk d k)
 refine fK a 26 ?_
 refine ar (e:=((i:Nat):Int)) rfl rfl rfl rfl iW (fP a 5 ?_)
 refine iD (v:=(Za ((i:Nat):Int))) (v' := Zh) Tryz.results203 rfl rfl ?_
 exact⟨rfl,ym (yt (p:=(t:TW).ok) (yc [_,_,_,_] _ a) j) za⟩
theorem afC(tb ab:Nat)(t:TW)(w:World)(g:Own (TW.R tb ab t) w)(id:Int)(l:¬ t.mem id) :
 CR ya 203 (Z2 tb id) w (fun r w' => r = .tuple Hj/\fV (TW.R tb ab t) w w' (TW.R tb ab t)):=by
 have o:t.cs.length=t.n:=rfl
 have q:=g.fact.top
 obtain⟨p,hp,k,m,s⟩:=g.fact.Qb l
 refine en Tryz.func203 Tryz.ntmps203 ?_
 have j:=Own.of g.un
 have h:t.ok:=g.fact
 have a:=yc [_,_,_] _ j
 refine fR j 10 ?_
 refine cl vY (w5 tb ab t w (ye a 0 rfl) h) ?_
 rintro _ e ⟨rfl,i⟩
 have b:=(yk a i)
 have c:=yc [_,_,_] _ b
 refine fK b 10 ?_
 refine cl Cw (C4 tb ab t e (ye c 0 rfl) h id p false k) ?_
 rintro _ f ⟨rfl,i⟩
 have d:=(yk c i)
 refine fP d 23 ?_
 refine iD (v:=Zc) (v' := Zp) Tryz.results203 rfl rfl ?_
 exact⟨rfl,ym (yt (p:=(t:TW).ok) (yc [_,_,_,_] _ d) h) za⟩
theorem F3(tb ab:Nat)(t:TW)(w:World)(d:Own (TW.R tb ab t) w)(id:Int) :
 CR ya 203 (Z2 tb id) w (fun r w' => ∃ (z:Nat) (b:Bool),r = .tuple (qo z b)/\TW.oD t id z b/\fV (TW.R tb ab t) w w' (TW.R tb ab t)):=by
 by_cases hm:t.mem id
 . obtain⟨i,hi,e⟩:=hm
   exact CR.mono (afD tb ab t w d id i hi e) fun r w' ⟨a,c⟩=>⟨i,true,a,.inl ⟨rfl,hi,e⟩,c⟩
 . exact CR.mono (afC tb ab t w d id hm) fun r w' ⟨a,c⟩=>⟨0,false,a,.inr ⟨rfl,rfl,hm⟩,c⟩
theorem afT(tb ab:Nat)(t:TW)(w:World)(f:Own (TW.R tb ab t) w) :
 CR ya 103 (Zi tb) w (fun r w' => r = .int .i64 (t.A.used:Int)/\fV (TW.R tb ab t) w w' (TW.R tb ab t)):=by
 have g:=f.fact
 refine en Tryz.func103 Tryz.ntmps103 ?_
 have i:=Own.of f.un
 have g:t.ok:=f.fact
 have b:=yc [_,_,_] _ i
 refine fR i 9 ?_
 refine cl vY (w5 tb ab t w (ye b 0 rfl) g) ?_
 rintro _ d ⟨rfl,h⟩
 have a:=(yk b h)
 refine fK a 12 ?_
 refine cl Iw (L9 ab t.w d (ye a 3 rfl)) ?_
 rintro _ e ⟨rfl,h⟩
 have c:=yj 3 a h
 refine fP c 4 ?_
 refine gq (v:=(Za t.A.used)) Tryz.results103 rfl ?_
 exact⟨rfl,ym (yt (p:=(t:TW).ok) (yc [_,_,_,_] _ c) g) za⟩
theorem afZ(tb ab:Nat)(t:TW)(w:World)(h:Own (TW.R tb ab t) w)(id:Int)(i:Nat)(hi:t.A.gZ i)(q:fJ t.ids i=id) :
 CR ya 210 (Z2 tb id) w (fun r w' => r = .tuple #[.int .i64 (i:Int),.bool false,.int .i64 0]/\fV (TW.R tb ab t) w w' (TW.R tb ab t)):=by
 have y:t.cs.length=t.n:=rfl
 have z:=h.fact.top
 obtain⟨p,hp,l,m⟩:=h.fact.I2 hi
 rw[q]at m
 have s:=(h.fact.val hp l).2.2.2
 have x:i<65536:=oB s h.fact.an
 have u:=(h.fact.val hp l).2.2.1
 refine en Tryz.func210 Tryz.ntmps210 ?_
 have o:=Own.of h.un
 have j:t.ok:=h.fact
 have b:=yc [_,_,_] _ o
 refine fR o 11 ?_
 refine cl vY (w5 tb ab t w (ye b 0 rfl) j) ?_
 rintro _ f ⟨rfl,k⟩
 have c:=(yk b k)
 have d:=yc [_,_,_] _ c
 refine fK c 10 ?_
 refine cl Cw (C4 tb ab t f (ye d 0 rfl) j id p true m) ?_
 rintro _ g ⟨rfl,k⟩
 have a:=(yk d k)
 refine fK a 23 ?_
 refine ar (e:=((i:Nat):Int)) rfl rfl rfl rfl iW (fP a 7 ?_)
 refine tZ (v:=(Za ((i:Nat):Int))) (v' := Zp) (v'' := Zc) Tryz.results210 rfl rfl rfl ?_
 exact⟨rfl,ym (yt (p:=(t:TW).ok) (yc [_,_,_,_] _ a) j) za⟩
theorem afY(tb ab:Nat)(t:TW)(w:World)(F:Own (TW.R tb ab t) w)(id:Int)(X:¬ t.mem id)(aa:ia .u64 id)(hu:t.A.used<t.A.n) :
 CR ya 210 (Z2 tb id) w (fun r w' => ∃ (i:Nat) (W:TW),r = .tuple #[.int .i64 (i:Int),.bool true,.int .i64 0]/\((∀ x,W.mem x↔t.mem x\/x=id)/\W.A.n=t.A.n/\W.A.used=t.A.used+1/\TW.Kp t W)/\fV (TW.R tb ab t) w w' (TW.R tb ab W)):=by
 have aj:t.cs.length=t.n:=rfl
 have ak:=F.fact.top
 obtain⟨p,hp,hf,Y,hw⟩:=F.fact.Qb X
 have ah:t.ids.length=t.w.A.begun:=F.fact.tM
 have ai:(t.ids++[0]).length=t.ids.length+1:=by simp
 have ae:t.w.A.begun<=t.w.A.n:=F.fact.o6
 have ad:t.w.A.n<=65536:=F.fact.an
 refine en Tryz.func210 Tryz.ntmps210 ?_
 have ac:=Own.of F.un
 have T:t.ok:=F.fact
 have j:=yc [_,_,_] _ ac
 refine fR ac 11 ?_
 refine cl vY (w5 tb ab t w (ye j 0 rfl) T) ?_
 rintro _ B ⟨rfl,V⟩
 have k:=(yk j V)
 have l:=yc [_,_,_] _ k
 refine fK k 10 ?_
 refine cl Cw (C4 tb ab t B (ye l 0 rfl) T id p false hf) ?_
 rintro _ C ⟨rfl,V⟩
 have h:=(yk l V)
 refine fK h 22 ?_
 refine cl O6 (Uj ab t.w C (ye h 3 rfl) hu) ?_
 rintro _ G ⟨a,d,rfl,b,V⟩
 have c:=yj 3 h V
 have Z:=(y8 c (i:=3) rfl:d.A.ok)
 have af:a<=t.ids.length:=by rcases b.o6 with h9|h9<;>omega
 have ag:a<=65536:=by omega
 refine fK c 25 ?_
 refine iM (m:=t.ids.length) 1 rfl rfl yz c rfl ?_
 by_cases H:(((a:Nat):Int):Int)=((t.ids.length:Int):Int)
 . refine fK c 10 ?_
   refine jJ (vs:=B4) (cs:=B4) rfl rfl yz jt rfl (by simp[Value.cells]) rfl rfl rfl c (fun D I J K o=>k8 (cf:=gO) (ys:=t.ids) (zs:=[0]) (LL:=fun e=>[ig .u64 (Zy D) 39 ([0]),blk tb 302 (o5 tb ab t),fL gO e 39 1 (t.ids++[0]),fL fS t.cv 3 1 t.cs,(AW.R ab d)]) 2 rfl rfl rfl yz jt rfl d_ o rfl (kG o (i:=0) rfl) (fun x hx=>zk.1 (show List.all _ _=true from rfl) x hx) (by simp only[zb,zg,maxLen];omega) (by simp only[zb,zg,maxLen];omega) f_ ?_)
   intro e L E M
   have g:=yg [1,2,3,4] E
   refine fK g 2 ?_
   refine jM 0 g (fun N q=>?_) (hvs:=(cells_one (yr g (i:=1) rfl))) (h1:=(gX (yr g (i:=1) rfl) j4))
   refine fK q 11 ?_
   refine iz (f:=(fun _=>id)) 1 q (fun O s=>?_)
   refine fK s 12 ?_
   refine iz (f:=(fun _=>(a+1))) 2 s (fun P u=>?_)
   refine fP u 11 ?_
   refine tZ (v:=(Za ((a:Nat):Int))) (v' := Zh) (v'' := Zc) Tryz.results210 rfl rfl rfl ?_
   have U:=T.put X aa Z b hp Y hw e t.cv (is2:=fM (t.ids++[0]) a (fun _=>id)) (cs2:=fM t.cs p (fun _=>(a+1))) (by unfold tU;rw[if_pos o_]) rfl
   exact⟨a,⟨e,t.cv,d,fM (t.ids++[0]) a (fun _=>id),fM t.cs p (fun _=>(a+1))⟩,rfl,⟨U.2,b.n,b.used,T.SC b (by unfold tU;rw[if_pos o_])⟩,ym (yt (p:=(⟨e,t.cv,d,fM (t.ids++[0]) a (fun _=>id),fM t.cs p (fun _=>(a+1))⟩:TW).ok) (yc [_,_,_,_] _ u) U.1) za⟩
 . refine fK c 15 ?_
   refine iz (f:=(fun _=>id)) 1 c (fun Q y=>?_)
   refine fK y 12 ?_
   refine iz (f:=(fun _=>(a+1))) 2 y (fun S z=>?_)
   refine fP z 11 ?_
   refine tZ (v:=(Za ((a:Nat):Int))) (v' := Zh) (v'' := Zc) Tryz.results210 rfl rfl rfl ?_
   have U:=T.put X aa Z b hp Y hw t.iv t.cv (is2:=fM t.ids a (fun _=>id)) (cs2:=fM t.cs p (fun _=>(a+1))) (by unfold tU;rw[if_neg o_]) rfl
   exact⟨a,⟨t.iv,t.cv,d,fM t.ids a (fun _=>id),fM t.cs p (fun _=>(a+1))⟩,rfl,⟨U.2,b.n,b.used,T.SC b (by unfold tU;rw[if_neg o_])⟩,ym (yt (p:=(⟨t.iv,t.cv,d,fM t.ids a (fun _=>id),fM t.cs p (fun _=>(a+1))⟩:TW).ok) (yc [_,_,_,_] _ z) U.1) za⟩
end
section
open Go Go.Sx
theorem afE(tb ab:Nat)(t:TW)(cs2:List Nat)(d:cs2.length=t.n)(w:World)(b:Own (DV tb ab t cs2) w)(c:TW.Sz t.n)(id:Int) :
 CR ya 277 (Z2 tb id) w (fun r w' => r = .int .i64 ((kQ t.n id:Nat):Int)/\fV (DV tb ab t cs2) w w' (DV tb ab t cs2)):=by
 have a:TW.n ⟨t.iv,t.cv,t.w,t.ids,cs2⟩=t.n:=d
 have h:=Tu tb ab ⟨t.iv,t.cv,t.w,t.ids,cs2⟩ w b (by rw[a];exact c) id
 rw[a]at h
 exact h
theorem afy(tb ab:Nat)(t:TW)(w:World)(Q:Own (Zz tb ab t) w)(A:t.ok)(p i:Nat)(hp:p<t.n)(L:fJ t.cs p=i+1) :
 CR ya 202 (Zm tb ((p:Nat):Int)) w (fun r w' => r = .tuple #[]/\∃ D,D.length=t.n/\(rK t.n D (fun j=>kQ t.n (fJ t.ids j))/\(∀ p q,p<t.n->q<t.n->fJ D p≠0->fJ D p=fJ D q->p=q)/\(∀ K,(∃ p,p<t.n/\fJ D p=K+1)↔K≠i/\∃ p,p<t.n/\fJ t.cs p=K+1))/\fV (Zz tb ab t) w w' (DV tb ab t D)):=by
 have af:t.cs.length=t.n:=rfl
 have Z:=A.two
 have ag:=A.top
 have N:0<t.n:=by omega
 obtain⟨z,X,Y⟩:=A.zero
 have P:pO t.n (fun j=>kQ t.n (fJ t.ids j)) i t.cs t.cs p p z:=pO.start A.FC rfl hp L X Y (fun q j _ _=>xY N) A.inj
 refine en Tryz.func202 Tryz.ntmps202 ?_
 have G:=Own.of Q
 refine fR G 7 ?_
 refine iM (m:=t.cs.length) 2 rfl rfl yd G rfl (gD G 15 ?_)
 refine lp (α:=List Nat×Nat×Nat) (fun(cs,hole,c)=>[(0,(Zb tb)),(1,(Za ((hole:Nat):Int))),(4,(Za ((t.cs.length:Int)-1))),(5,(Za ((c:Nat):Int)))]) (fun(cs,hole,c) w1=>St [(w,(Zz tb ab t).gH)] [blk tb 302 (o5 tb ab t),fL gO t.iv 39 1 t.ids,fL fS t.cv 3 1 cs] w1/\pO t.n (fun j=>kQ t.n (fJ t.ids j)) i t.cs cs hole c z) (fun(cs,hole,c)=>dst t.n c z) (t.cs,p,p) ⟨rfl,gj rO,rfl,gj rO,trivial⟩ (⟨G,P⟩) ?_
 rintro⟨cs,hole,c⟩ u s ⟨C,B⟩
 have F:=B.next
 have J:iA t.n c<t.n:=F.1
 have U:=B.v8
 have R:=B.On
 have ae:=B.len
 refine fR C 6 ?_
 refine bi (a:=((c:Nat):Int)+1) (b:=(t.cs.length:Int)-1) (e:=((iA t.n c:Nat):Int)) rfl rfl rfl (A.p2.nx R) (fK C 19 ?_)
 by_cases g:((((fJ cs (iA t.n c)):Nat):Int):Int)=(0:Int)
 . have O:fJ cs (iA t.n c)=0:=by have H:=@g;omega
   refine fK C 17 ?_
   refine iz (f:=(fun _=>0)) (cf:=fS) 2 C (fun v h=>?_)
   refine fP h 2 ?_
   refine iS Tryz.results202 ?_
   exact⟨rfl,fM cs hole (fun _=>0),by rw[gx];exact B.len,B.done O ⟨p,hp,L⟩,yi (yc [_,_,_] _ h)⟩
 . obtain⟨j,E⟩:∃ j,fJ cs (iA t.n c)=j+1:=⟨fJ cs (iA t.n c)-1,by have H:=@g;omega⟩
   obtain⟨aa,q9,V,S⟩:=(B.mem j).1 ⟨iA t.n c,J,F.2.1,E⟩
   have M:=A.val V S
   have ac:j<t.ids.length:=M.2.2.1
   have ad:j<65536:=oB M.2.2.2 A.an
   have T:=xY (id:=fJ t.ids j) N
   refine fK C 1 ?_
   rw[E]
   refine fK C 15 ?_
   refine ar (e:=((j:Nat):Int)) rfl rfl rfl rfl iW ?_
   have k:=yc [_,_,_] _ C
   refine fK C 2 ?_
   refine cl Pm (afE tb ab t cs B.len s (ye k 0 rfl) A.sz (fJ t.ids j)) ?_
   rintro _ x ⟨rfl,W⟩
   have d:=(yk k W)
   refine fK d 2 ?_
   refine bi (a:=((iA t.n c:Nat):Int)-((kQ t.n (fJ t.ids j):Nat):Int)) (b:=(t.cs.length:Int)-1) (e:=((dst t.n (kQ t.n (fJ t.ids j)) (iA t.n c):Nat):Int)) rfl rfl rfl (A.p2.dst T J) (fK d 4 ?_)
   refine bi (a:=((iA t.n c:Nat):Int)-((hole:Nat):Int)) (b:=(t.cs.length:Int)-1) (e:=((dst t.n hole (iA t.n c):Nat):Int)) rfl rfl rfl (A.p2.dst U J) ?_
   by_cases l:(((dst t.n (kQ t.n (fJ t.ids j)) (iA t.n c):Nat):Int):Int)<(((dst t.n hole (iA t.n c):Nat):Int):Int)
   . have I:(dst t.n (kQ t.n (fJ t.ids j)) (iA t.n c)<dst t.n hole (iA t.n c)):=by have H:=l;omega
     refine fP d 7 ?_
     refine tN (?_)
     exact again (cs,hole,(iA t.n c)) ⟨rfl,rfl,rfl,gj rO,trivial⟩ (⟨d,B.skip E I⟩) (by show dst t.n (iA t.n c) z<dst t.n c z;exact F.2.2.2.2)
   . have I:¬ (dst t.n (kQ t.n (fJ t.ids j)) (iA t.n c)<dst t.n hole (iA t.n c)):=by have H:=l;omega
     refine fK d 15 ?_
     refine iz (f:=(fun _=>(j+1))) 2 d (fun y o=>?_)
     refine fP o 7 ?_
     refine tN (?_)
     exact again (fM cs hole (fun _=>(j+1)),(iA t.n c),(iA t.n c)) ⟨rfl,gj rO,rfl,gj rO,trivial⟩ (⟨o,B.move E I⟩) (by show dst t.n (iA t.n c) z<dst t.n c z;exact F.2.2.2.2)
end
section
open Go Go.Sx
theorem Lw(tb ab:Nat)(t:TW)(w:World)(B:Own (TW.R tb ab t) w)(id:Int)(i:Nat)(hi:t.A.gZ i)(H:fJ t.ids i=id) :
 CR ya 131 (Z2 tb id) w (fun r w' => ∃ (E:TW),r = .int .i64 0/\((∀ x,E.mem x↔t.mem x/\x≠id)/\E.A.n=t.A.n/\E.A.used=t.A.used-1/\0<t.A.used/\TW.Kp t E)/\fV (TW.R tb ab t) w w' (TW.R tb ab E)):=by
 have Q:t.cs.length=t.n:=rfl
 have S:=B.fact.top
 obtain⟨p,hp,G,I⟩:=B.fact.I2 hi
 rw[H]at I
 have M:=(B.fact.val hp G).2.2.2
 have P:i<65536:=oB M B.fact.an
 have O:=(B.fact.val hp G).2.2.1
 refine en Tryz.func131 Tryz.ntmps131 ?_
 have J:=Own.of B.un
 have D:t.ok:=B.fact
 have g:=yc [_,_,_] _ J
 refine fR J 9 ?_
 refine cl vY (w5 tb ab t w (ye g 0 rfl) D) ?_
 rintro _ q ⟨rfl,C⟩
 have h:=(yk g C)
 have j:=yc [_,_,_] _ h
 refine fK h 10 ?_
 refine cl Cw (C4 tb ab t q (ye j 0 rfl) D id p true I) ?_
 rintro _ s ⟨rfl,C⟩
 have b:=(yk j C)
 refine fK b 26 ?_
 refine ar (e:=((i:Nat):Int)) rfl rfl rfl rfl iW (fK b 11 ?_)
 refine cl OP (Um ab t.w s (ye b 3 rfl) i hi) ?_
 rintro _ u ⟨c,rfl,a,C⟩
 have d:=yj 3 b C
 have K:=(y8 d (i:=3) rfl:c.A.ok)
 have k:=yc [_,_,_] _ d
 refine fK d 16 ?_
 refine cl Xw (afy tb ab t u (ye k 0 rfl) D p i hp G) ?_
 rintro _ y ⟨rfl,l,N,L,C⟩
 have m:=(yk k C)
 refine fK m 10 ?_
 refine iz (f:=(fun _=>0)) (cf:=gO) 1 m (fun z o=>?_)
 refine fP o 8 ?_
 refine gq (v:=Zc) Tryz.results131 rfl ?_
 have F:=D.del hi K a N L t.iv t.cv (is2:=fM t.ids i (fun _=>0)) rfl
 rw[H]at F
 exact⟨⟨t.iv,t.cv,c,fM t.ids i (fun _=>0),l⟩,rfl,⟨F.2,a.n,a.used,a.pos,D.Wq hi a rfl (by rw[H];exact F.2)⟩,ym (yt (p:=(⟨t.iv,t.cv,c,fM t.ids i (fun _=>0),l⟩:TW).ok) (yc [_,_,_,_] _ o) F.1) za⟩
theorem VQ(v:Value)(xs:List Int)(w:World)(hv:gY 1 gO (fun _=>True) w v xs)(m:xs.length<=1000000) :
 CR ya 278 #[v] w (fun r w' => qj 1 gO w w' r 39 xs/\gw [] w w'):=by
 refine en Tryz.func278 Tryz.ntmps278 ?_
 have l:=yu w
 refine fR l 9 ?_
 refine CB (v:=v) rfl rfl rfl yz hv (gD l 2 ?_)
 cases e:(wC v:Bool)
 . skip
   refine fR l 5 ?_
   refine jJ (vs:=[]) (cs:=[]) rfl rfl yz jt rfl (by intro v hv;simp at hv) rfl rfl rfl l ?_
   intro f g h i c
   have d:=c
   refine fK c 1 ?_
   refine k8 (cf:=gO) (ys:=[]) (zs:=xs) (LL:=fun a=>[fL gO a 39 1 xs]) 0 rfl rfl rfl yz jt rfl d_ d rfl (gY.src (yy d s_ d_ hv) f_) (xX f_ _) (by simp only[zg];omega) (by simp only[zg];omega) f_ (fun a j b k=>fP b 4 ?_)
   refine gq (v:=a) Tryz.results278 rfl ?_
   exact⟨Di b s_,b.gA s_⟩
 . skip
   refine iO l 8 ?_
   refine gq (v:=Zg) Tryz.results278 rfl ?_
   obtain rfl:=CO e hv
   exact⟨qj.CN, l.gA s_⟩
theorem Ii(v:Value)(xs:List Nat)(w:World)(hv:gY 1 fS (fun _=>True) w v xs)(m:xs.length<=1000000) :
 CR ya 82 #[v] w (fun r w' => qj 1 fS w w' r 3 xs/\gw [] w w'):=by
 refine en Tryz.func82 Tryz.ntmps82 ?_
 have l:=yu w
 refine fR l 9 ?_
 refine CB (v:=v) rfl rfl rfl yd hv (gD l 2 ?_)
 cases e:(wC v:Bool)
 . skip
   refine fR l 5 ?_
   refine jJ (vs:=[]) (cs:=[]) rfl rfl yd gr rfl (by intro v hv;simp at hv) rfl rfl rfl l ?_
   intro f g h i c
   have d:=c
   refine fK c 1 ?_
   refine k8 (cf:=fS) (ys:=[]) (zs:=xs) (LL:=fun a=>[fL fS a 3 1 xs]) 0 rfl rfl rfl yd gr rfl d_ d rfl (gY.src (yy d s_ d_ hv) f_) (xX f_ _) (by simp only[zg];omega) (by simp only[zg];omega) f_ (fun a j b k=>fP b 4 ?_)
   refine gq (v:=a) Tryz.results82 rfl ?_
   exact⟨Di b s_,b.gA s_⟩
 . skip
   refine iO l 8 ?_
   refine gq (v:=Zg) Tryz.results82 rfl ?_
   obtain rfl:=CO e hv
   exact⟨qj.CN, l.gA s_⟩
theorem afz(tb ab:Nat)(t:TW)(w:World)(F:Own (TW.R tb ab t) w) :
 CR ya 205 (Zi tb) w (fun r w' => ∃ (Q S:Nat) (K:TW),r = .pointer (some ⟨Q,0,none⟩)/\((∀ x,K.mem x↔t.mem x)/\K.A.n=t.A.n/\K.A.used=t.A.used)/\fV (TW.R tb ab t) w w' (gm [(TW.R tb ab t),(TW.R Q S K)])):=by
 have Z:t.cs.length=t.n:=rfl
 have aa:=F.fact.top
 have Y:t.ids.length=t.w.A.begun:=F.fact.tM
 have X:t.w.A.begun<=t.w.A.n:=F.fact.o6
 have W:t.w.A.n<=65536:=F.fact.an
 refine en Tryz.func205 Tryz.ntmps205 ?_
 have P:=Own.of F.un
 have L:t.ok:=F.fact
 have j:=yc [_,_,_] _ P
 refine fR P 9 ?_
 refine cl vY (w5 tb ab t w (ye j 0 rfl) L) ?_
 rintro _ D ⟨rfl,N⟩
 have k:=(yk j N)
 refine gD k 7 ?_
 refine kC mixed [([0,1,2,3,5,6,7,8,10,11,12,13,4],[8,13]),([9],[13])] [14,15,16,17] k (fun o e=>jA ?_)
 refine fK e 12 ?_
 refine cl O5 (Ul ab t.w o (ye e 3 rfl)) ?_
 rintro _ q ⟨c,d,rfl,s,N⟩
 have u:=yg [3,0,1,2] e
 have f:=yv (yj 0 u N)
 refine fP f 1 ?_
 refine kn (jA ?_)
 refine cl XX (VQ t.iv t.ids q (y0 f 3 rfl).any (by first|omega|(simp;omega))) ?_
 rintro a l J
 have g:St _ [fL gO a 39 1 t.ids,(AW.R ab t.w),(AW.R c d),blk tb 302 (o5 tb ab t),fL gO t.iv 39 1 t.ids,fL fS t.cv 3 1 t.cs] l:=vr f J.2 J.1
 refine fP g 1 ?_
 refine kn (kF ?_)
 refine cl IU (Ii t.cv t.cs l (y0 g 5 rfl).any (by first|omega|(simp;omega))) ?_
 rintro b y J
 have h:St _ [fL fS b 3 1 t.cs,fL gO a 39 1 t.ids,(AW.R ab t.w),(AW.R c d),blk tb 302 (o5 tb ab t),fL gO t.iv 39 1 t.ids,fL fS t.cv 3 1 t.cs] y:=vr g J.2 J.1
 refine jc (pvs:=[(1,(Zb c)),(2,a),(3,b)]) (v:=.agg #[Zt,(Zb c),a,b]) rfl rfl (jo [(1,(Zf c)),(2,[a]),(3,[b])] Ga Sj rfl ⟨rfl,rfl,rfl,(cells_one (yr h (i:=1) rfl)),rfl,(cells_one (yr h (i:=0) rfl)),trivial⟩ rfl) (iC h (fun m E G H z=>?_))
 refine jV z 19 fun I B=>?_
 refine gq (v:=(Zb m)) Tryz.results205 rfl ?_
 have C:=yg [5,6,7,3,0,2,1,4] B
 obtain⟨ac,M⟩:=s
 have O:=L.copy M a b
 have V:=yt (p:=t.ok) (yc [_,_,_,_] _ C) L
 have T:=yt (p:=(⟨a,b,d,t.ids,t.cs⟩:TW).ok) (yc [_,_,_,_] _ (lC V (qG (l₁:=[_]) (l₂:=[_,_,_,_]) |>.append_right _))) O.1
 have U:=lC T (List.Perm.swap _ _ _)
 exact⟨m,c,⟨a,b,d,t.ids,t.cs⟩,rfl,⟨O.2,by rw[show TW.A ⟨a,b,d,t.ids,t.cs⟩=_ from M],by rw[show TW.A ⟨a,b,d,t.ids,t.cs⟩=_ from M]⟩,yi (yc [_,_] _ U)⟩
theorem afV(m:Nat)(w:World)(hm:m<=65536) :
 CR ya 219 (Z4 ((m:Nat):Int)) w (fun r w' => ∃ (tb ab:Nat) (t:TW),r = .tuple (Z0 tb)/\((∀ x,¬ t.mem x)/\t.A.n=m/\t.A.used=0)/\fV (gm []) w w' (TW.R tb ab t)):=by
 refine en Tryz.func219 Tryz.ntmps219 ?_
 have N:=yu w
 refine fR N 9 ?_
 refine cl O8 (Uv m w hm) ?_
 rintro _ z ⟨b,d,rfl,g,P⟩
 have h:=(jR N P)
 refine gD h 24 ?_
 refine lp (α:=Nat) (fun k=>[(0,(Za ((m:Nat):Int))),(2,Zt),(3,Zc),(4,(Zb b)),(5,Zc),(6,(Za ((k:Nat):Int)))]) (fun k w1=>St [(w,[])] [(AW.R b d)] w1/\P2 k/\2<=k/\(k=2\/k<4*m)) (fun k=>4*m-k) 2 ⟨rfl,rfl,rfl,rfl,rfl,gj rO,trivial⟩ (⟨h,P2.two,o_,.inl rfl⟩) ?_
 rintro k B C ⟨F,L,O,Q⟩
 have S:k<=262144:=by omega
 refine fR F 6 ?_
 by_cases D:(((k:Nat):Int):Int)<(2*((m:Nat):Int):Int)
 . refine fK F 9 ?_
   refine ar (e:=((k*2:Nat):Int)) rfl rfl rfl rfl iW (fP F 3 ?_)
   refine tN (?_)
   exact again (k*2) ⟨rfl,rfl,rfl,rfl,rfl,gj rO,trivial⟩ (⟨F,L.Wp o_,o_,o_⟩) o_
 . refine fK F 13 ?_
   refine nY (cf:=fS) (z0:=0) (m:=k) (c:=k) rfl rfl rfl yd gr rfl f_ d_ (zj _) o_ o_ F (fun a E G H j=>jc (pvs:=[(1,(Zb b)),(3,(Ze a k))]) (v:=.agg #[Zt,(Zb b),Zg,(Ze a k)]) rfl rfl (jo [(1,(Zf b)),(3,(qq a k))] Ga Sj rfl ⟨rfl,rfl,rfl,rfl,trivial⟩ rfl) (iC j (fun f I J K l=>?_)))
   refine jV l 20 fun o q=>?_
   refine iD (v:=(Zb f)) (v' := Zc) Tryz.results219 rfl rfl ?_
   have s:=kZ (cf:=fS) q (i:=1) rfl f_ (zj _) (by simp only[maxLen];omega)
   have u:St _ [fL gO Zg 39 1 ([]),blk f 302 [(Zb f),(Zb b),Zg,(Ze a k)],fL fS (Ze a k) 3 1 (List.replicate k 0),(AW.R b d)] o:=oQ s 39 1
   have y:=yg [1,0,2,3] u
   have M:=TW.tS g hm L O o_ o_ Zg (Ze a k)
   exact⟨f,b,⟨.slice none 0 0,(Ze a k),d,[],List.replicate k 0⟩,rfl,⟨M.2,by rw[show TW.A ⟨.slice none 0 0,(Ze a k),d,[],List.replicate k 0⟩=_ from g];rfl,by rw[show TW.A ⟨.slice none 0 0,(Ze a k),d,[],List.replicate k 0⟩=_ from g];rfl⟩,vz (yt (p:=(⟨.slice none 0 0,(Ze a k),d,[],List.replicate k 0⟩:TW).ok) (yc [_,_,_,_] _ y) M.1) s_⟩
end
section
open Go Go.Sx
theorem Q3(x y:Int)(w:World) :
 CR ya 187 (vI x y) w (fun r w' => r = .bool (decide (x<y))/\gw [] w w'):=by
 refine en Tryz.func187 Tryz.ntmps187 ?_
 have e:=yu w
 refine fR e 8 ?_
 refine cl Xf (ab3 x w) ?_
 rintro _ c ⟨rfl,b⟩
 have a:=yp e b
 refine fK a 8 ?_
 by_cases d:(x:Int)<(y:Int)
 . refine fP a 6 ?_
   refine gq (v:=Zh) Tryz.results187 rfl ?_
   exact⟨congrArg Value.bool (decide_eq_true o_).symm,a.gA s_⟩
 . refine fP a 6 ?_
   refine gq (v:=Zp) Tryz.results187 rfl ?_
   exact⟨congrArg Value.bool (decide_eq_false o_).symm,a.gA s_⟩
theorem aav(v:Value)(xs:List Int)(w:World)(J:Own (rP v xs) w)(M:xs.length<=1000000) :
 CR ya 345 #[v,Zc,(Za xs.length)] w (fun r w' => ∃ ys:List Int,r = .tuple #[]/\(ys.Perm xs/\lZ ys ys.length)/\fV (rP v xs) w w' (rP v ys)):=by
 refine en Tryz.func345 Tryz.ntmps345 ?_
 have H:=yq J
 refine p8 H 8 ?_
 refine lp (α:=Nat×List Int) (fun(i,ys)=>[(0,v),(1,Zc),(2,(Za xs.length)),(6,(Za i))]) (fun(i,ys) w1=>St [(w,(rP v xs).gH)] [fL gO v 39 1 ys] w1/\ys.Perm xs/\lZ ys i/\1<=i) (fun(i,ys)=>xs.length+1-i) (1,xs) ⟨rfl,rfl,rfl,gj rO,trivial⟩ (⟨H,List.Perm.refl _,lZ.zero,o_⟩) ?_
 rintro⟨i,ys⟩ m n ⟨B,E,F,hi⟩
 have N:=E.length_eq
 refine fR B 5 ?_
 by_cases o:((i:Int):Int)<((xs.length:Int):Int)
 . refine gD B 15 ?_
   refine lp (α:=Nat×List Int) (fun(j,zs)=>[(0,v),(1,Zc),(2,(Za xs.length)),(6,(Za i)),(7,(Za j))]) (fun(j,zs) w1=>St [(w,(rP v xs).gH)] [fL gO v 39 1 zs] w1/\zs.Perm xs/\tC zs i j/\j<=i) (fun(j,zs)=>j) (i,ys) ⟨rfl,rfl,rfl,rfl,gj rO,trivial⟩ (⟨B,E,F.at,o_⟩) ?_
   rintro⟨j,zs⟩ s t ⟨K,D,C,G⟩
   have O:=D.length_eq
   refine nN K 5 fun h a=>?_
   by_cases u:((j:Int):Int)>(0:Int)
   . refine fK a 9 ?_
     refine iJ (cf:=gO) (k:=(j-1)) (i:=(j:Int)-1) rfl rfl rfl yz jt (y0 a 0 rfl) o_ o_ (gy om) (fK a 1 ?_)
     refine cl O2 (Q3 (fJ zs j) (fJ zs (j-1)) h) ?_
     rintro _ x ⟨rfl,l⟩
     have b:=yp a l
     refine gD b 3 ?_
     cases d:(decide ((fJ zs j)<(fJ zs (j-1))):Bool)
     . skip
       refine iO b 12 ?_
       refine tN (?_)
       exact again ((i+1),zs) ⟨rfl,rfl,rfl,gj rO,trivial⟩ (⟨b,D,C.done o_ G (of_decide_eq_false d),o_⟩) (by show (xs.length+1-(i+1):Nat)<xs.length+1-i;omega)
     . skip
       refine nN b 14 fun y c=>?_
       refine iJ (cf:=gO) (k:=(j-1)) (i:=(j:Int)-1) rfl rfl rfl yz jt (y0 c 0 rfl) o_ o_ (gy om) (fK c 6 ?_)
       refine iz (f:=(fun _=>(fJ zs (j-1)))) 0 c (fun z e=>?_)
       refine iJ (cf:=gO) (k:=(j-1)) (i:=(j:Int)-1) rfl rfl rfl yz jt (y0 e 0 rfl) o_ o_ (gy om) (iz (f:=(fun _=>(fJ zs j))) 0 e (fun A g=>?_))
       refine fP g 8 ?_
       refine tN (?_)
       exact again ((j-1),fM (fM zs j (fun _=>(fJ zs (j-1)))) (j-1) (fun _=>(fJ zs j))) ⟨rfl,rfl,rfl,rfl,gj rO,trivial⟩ (⟨g,(Tp o_ o_).trans D,C.swap o_ G o_ (of_decide_eq_true d),o_⟩) (by show ((j-1):Nat)<j;omega)
   . refine fP a 27 ?_
     refine tN (?_)
     exact again ((i+1),zs) ⟨rfl,rfl,rfl,gj rO,trivial⟩ (⟨a,D,(by rw[show j=0 by omega]at C;exact C.OD),o_⟩) (by show (xs.length+1-(i+1):Nat)<xs.length+1-i;omega)
 . refine fP B 8 ?_
   refine iS Tryz.results345 ?_
   exact⟨ys,rfl,⟨E,fun p q I L=>F p q I o_⟩,yi B⟩
theorem Vr(n:Nat)(w:World)(h:n<=12) :
 CR ya 163 (xA n) w (fun r w' => ∃ z,r = .int .i64 z/\gw [] w w'):=by
 refine en Tryz.func163 Tryz.ntmps163 ?_
 have c:=yu w
 refine fR c 9 ?_
 refine cmp rfl rfl rfl (p5 o_) (fK c 9 ?_)
 refine cmp rfl rfl rfl (p5 o_) (fK c 9 ?_)
 refine cmp rfl rfl rfl (p5 o_) (fK c 10 ?_)
 refine aak 256 rfl rfl rfl Tryz.underlying9 rfl o_ o_ fun a b=>(fP c 6 ?_)
 refine gq (v:=(Za (0+(a.toNat:Int)))) Tryz.results163 rfl ?_
 exact⟨0+(a.toNat:Int),rfl,c.gA s_⟩
theorem HU(n:Nat)(w:World)(h:n<=12) :
 CR ya 92 (xA n) w (fun r w' => ∃ z,r = .int .i64 z/\gw [] w w'):=by
 refine en Tryz.func92 Tryz.ntmps92 ?_
 have e:=yu w
 refine fR e 12 ?_
 refine cl Xi (Vr n w o_) ?_
 rintro _ d ⟨a,rfl,c⟩
 have b:=yp e c
 refine fP b 4 ?_
 refine gq (v:=(Za a)) Tryz.results92 rfl ?_
 exact⟨a,rfl,b.gA s_⟩
theorem acX(v:Value)(xs:List Int)(w:World)(i:Own (rP v xs) w)(z:Int)(l:xs.length<=12) :
 CR ya 328 (MT v xs.length z) w (fun r w' => ∃ ys:List Int,r = .tuple #[]/\(ys.Perm xs/\lZ ys ys.length)/\fV (rP v xs) w w' (rP v ys)):=by
 refine en Tryz.func328 Tryz.ntmps328 ?_
 have h:=yq i
 refine p8 h 11 ?_
 refine lp (α:=Nat) (fun k=>[(0,v),(1,Zc),(2,(Za xs.length)),(3,(Za z)),(8,Zh),(9,Zh)]) (fun k w1=>St [(w,(rP v xs).gH)] [fL gO v 39 1 xs] w1) (fun k=>0) 0 ⟨rfl,rfl,rfl,rfl,rfl,rfl,trivial⟩ h ?_
 rintro k e b g
 refine fR g 13 ?_
 refine cmp rfl rfl rfl (xO o_) (fK g 8 ?_)
 refine cl Ye (aav v xs b (ye g 0 rfl) o_) ?_
 rintro _ f ⟨c,rfl,d,j⟩
 have a:=yj 0 g j
 refine fP a 7 ?_
 refine wN Tryz.results328 ?_
 exact⟨c,rfl,d,yi a⟩
theorem ae5(v:Value)(xs:List Int)(w:World)(j:Own (rP v xs) w)(k:xs.length<=12) :
 CR ya 289 #[v] w (fun r w' => ∃ ys:List Int,r = .tuple #[]/\(ys.Perm xs/\lZ ys ys.length)/\fV (rP v xs) w w' (rP v ys)):=by
 refine en Tryz.func289 Tryz.ntmps289 ?_
 have i:=yq j
 refine fR i 3 ?_
 refine iM (m:=xs.length) 0 rfl rfl yz i rfl (fK i 8 ?_)
 refine cl IV (HU xs.length w o_) ?_
 rintro _ c ⟨d,rfl,e⟩
 have a:=yp i e
 refine cl X9 (acX v xs c (ye a 0 rfl) d k) ?_
 rintro _ h ⟨f,rfl,g,l⟩
 have b:=yj 0 a l
 refine fP b 1 ?_
 refine iS Tryz.results289 ?_
 exact⟨f,rfl,g,yi b⟩
theorem ab4(x:Int)(w:World) :
 CR ya 188 (xA x) w (fun r w' => r = .bool false/\gw [] w w'):=by
 refine en Tryz.func188 Tryz.ntmps188 ?_
 have a:=yu w
 refine iO a 14 ?_
 refine gq (v:=Zp) Tryz.results188 rfl ?_
 exact⟨rfl,a.gA s_⟩
theorem Vu(v:Value)(xs:List Int)(x:Int)(w:World)(hv:gY 1 gO (fun _=>True) w v xs)(hs:xs.Pairwise fun a b=>a<b)(F:xs.length<=1000000) :
 CR ya 112 #[v,(Zo x)] w (fun r w' => ∃ b:Bool,r = .tuple (qo (gR xs x:Int) b)/\gw [] w w'):=by
 refine en Tryz.func112 Tryz.ntmps112 ?_
 have C:=yu w
 refine fR C 9 ?_
 refine j8 (v:=v) rfl rfl yz hv (gD C 12 ?_)
 refine lp (α:=Nat×Nat) (fun(i,j)=>[(0,v),(1,(Zo x)),(6,(Za xs.length)),(7,(Za i)),(8,(Za j))]) (fun(i,j) w1=>St [(w,[])] [] w1/\oW xs x i j/\i<=j/\j<=xs.length) (fun(i,j)=>j-i) (0,xs.length) ⟨rfl,rfl,rfl,gj rO,gj rO,trivial⟩ (⟨C,oW.start,o_,o_⟩) ?_
 rintro⟨i,j⟩ o d ⟨z,A,D,E⟩
 refine fR z 5 ?_
 by_cases p:((i:Int):Int)<((j:Int):Int)
 . refine fK z 13 ?_
   refine shr (a:=(i:Int)+(j:Int)) (b:=1) (e:=(((i+j) / 2:Nat):Int)) rfl rfl rfl d_ (Y6 (i+j) 1 64 d_) ?_
   obtain⟨f,g⟩:=nW (show ((i+j) / 2)<xs.length by omega)
   refine fK z 11 ?_
   refine cl O2 (Q3 f x d) ?_
   rintro _ q ⟨rfl,m⟩
   have c:=yp z m
   refine gD c 2 ?_
   cases h:(decide (f<x):Bool)
   . skip
     refine iO c 6 ?_
     refine tN (?_)
     exact again (i,((i+j) / 2)) ⟨rfl,rfl,rfl,rfl,gj rO,trivial⟩ (⟨c,A.down hs (by rw[iK g];exact of_decide_eq_false h),o_,o_⟩) (by show (((i+j) / 2)-i:Nat)<j-i;omega)
   . skip
     refine iO c 7 ?_
     refine tN (?_)
     exact again (((i+j) / 2+1),j) ⟨rfl,rfl,rfl,gj rO,rfl,trivial⟩ (⟨c,A.up hs o_ (by rw[iK g];exact of_decide_eq_true h),o_,o_⟩) (by show (j-((i+j) / 2+1):Nat)<j-i;omega)
 . refine fK z 14 ?_
   by_cases s:((i:Int):Int)<((xs.length:Int):Int)
   . obtain⟨k,t⟩:=nW (show i<xs.length by omega)
     refine fK z 7 ?_
     by_cases u:(k:Int)=(x:Int)
     . refine fP z 18 ?_
       refine iD (v:=(Za i)) (v' := Zh) Tryz.results112 rfl rfl ?_
       have B:i=gR xs x:=oW.gR (by rw[show j=i by omega]at A;exact A) o_
       exact⟨true,by rw[B],z.gA s_⟩
     . refine fK z 6 ?_
       refine cl Xs (ab4 k d) ?_
       rintro _ y ⟨rfl,n⟩
       have l:=yp z n
       refine fP l 11 ?_
       refine iD (v:=(Za i)) (v' := Zp) Tryz.results112 rfl rfl ?_
       have B:i=gR xs x:=oW.gR (by rw[show j=i by omega]at A;exact A) o_
       exact⟨false,by rw[B],l.gA s_⟩
   . refine fP z 25 ?_
     refine iD (v:=(Za i)) (v' := Zp) Tryz.results112 rfl rfl ?_
     have B:i=gR xs x:=oW.gR (by rw[show j=i by omega]at A;exact A) o_
     exact⟨false,by rw[B],z.gA s_⟩
end
section
open Go Go.Sx
def fU.R(fO fN ub:Nat)(s:fU):fT:=kO (s.ok fO fN) (gm [blk ub 174 (pY fO fN s (some s.mb)),fL Lv.cells s.lv 43 7 s.live,ic s.mb .u64 p_ s.im,jE 3 s.im,(AW.R s.jj s.aw),(TW.R s.tb s.ab s.t)])
abbrev G7(a b c:Nat) d e f:=(gm [fU.R a b c d,fL Lv.cells e 43 7 f]:fT)
theorem Bu(fO fN ub:Nat)(s:fU)(w:World)(d:Own (fU.R fO fN ub s) w) :
 CR ya 83 (Zi ub) w (fun r w' => r = .bool true/\fV (fU.R fO fN ub s) w w' (fU.R fO fN ub s)):=by
 refine en Tryz.func83 Tryz.ntmps83 ?_
 have b:=Own.of d.un
 have e:s.ok fO fN:=d.fact
 refine fR b 8 ?_
 refine l9 (a:=some ⟨ub,0,none⟩) (c:=true) rfl rfl rfl GA rfl (fK b 5 ?_)
 refine Ry (a:=some s.mb) (c:=true) rfl rfl rfl yx rfl (fP b 5 ?_)
 refine gq (v:=Zh) Tryz.results83 rfl ?_
 exact⟨rfl,ym (yt (p:=fU.ok fO fN s) (yc [_,_,_,_,_,_] _ b) e) za⟩
theorem Gj(fO fN ub:Nat)(s:fU)(w:World)(l:Own (fU.R fO fN ub s) w)(id:Int) :
 CR ya 140 (Z2 ub id) w (fun r w' => ∃ (z:Nat) (b:Bool),r = .tuple (qo z b)/\s.t.oD id z b/\fV (fU.R fO fN ub s) w w' (fU.R fO fN ub s)):=by
 refine en Tryz.func140 Tryz.ntmps140 ?_
 have n:=Own.of l.un
 have m:s.ok fO fN:=l.fact
 have c:=yt (p:=s.ok fO fN) (yc [_,_,_,_,_,_] _ n) m
 refine fR n 10 ?_
 refine cl AG (Bu fO fN ub s w (ye c 0 rfl)) ?_
 rintro _ g ⟨rfl,k⟩
 have h:=yj 0 c k
 have a:=(ku h).unpack
 refine fK a 13 ?_
 refine cl Ew (F3 s.tb s.ab s.t g (ye a 5 rfl) id) ?_
 rintro _ j ⟨d,e,rfl,i,k⟩
 have f:=yj 5 a k
 refine fP f 7 ?_
 refine iD (v:=(Za d)) (v' := (.bool e)) Tryz.results140 rfl rfl ?_
 exact⟨d,e,rfl,i,ym (yt (p:=fU.ok fO fN s) (yc [_,_,_,_,_,_] _ f) m) za⟩
end
section
open Go Go.Sx
theorem LX(fO fN ub:Nat)(s:fU)(w:World)(hO:Own (fU.R fO fN ub s) w)(x:Lv) :
 CR ya 134 (xB ub x) w (fun r w' => r = .int .i64 (s.gJ fO fN x.u x.v)/\fV (fU.R fO fN ub s) w w' (fU.R fO fN ub s)):=by
 have ak:s.t.A.used<=s.t.A.n:=hO.fact.tok.ul
 have ah:=hO.fact.n
 have ai:=hO.fact.tn
 have ag:=hO.fact.en
 have aj:=hO.fact.vn
 have af:s.A.used<=s.A.begun:=by have h7:=hO.fact.lE.used;omega
 have ae:=hO.fact.lE.le
 refine en Tryz.func134 Tryz.ntmps134 ?_
 have ad:=Own.of hO.un
 have hU:s.ok fO fN:=hO.fact
 refine fR ad 2 ?_
 refine iC ad (fun L B M N l=>?_)
 have C:=yg [1,2,3,4,5,6,0] l
 have m:=yt (p:=s.ok fO fN) (yc [_,_,_,_,_,_] _ C) hU
 refine fK l 7 ?_
 refine cl AG (Bu fO fN ub s B (ye m 0 rfl)) ?_
 rintro _ O ⟨rfl,ht⟩
 have D:=yj 0 m ht
 have g:=(ku D).unpack
 refine fK g 13 ?_
 by_cases P:(x.u:Int)=(x.v:Int)
 . refine fP g 11 ?_
   refine gq (v:=xF) uh rfl ?_
   exact⟨gj (fU.Og o_).symm,ym (yt (p:=fU.ok fO fN s) (yc [_,_,_,_,_,_] _ g) hU) za⟩
 . refine gD g 8 ?_
   refine kC mixed [([0,1,2,3,5,6,7,8,4],[8])] [9] g (fun E k=>jA ?_)
   refine fK k 8 ?_
   refine cl Iw (L9 s.jj s.aw E (ye k 4 rfl)) ?_
   rintro _ G ⟨rfl,ht⟩
   have e:=yj 4 k ht
   refine fP e 1 ?_
   refine kn (kF ?_)
   by_cases Q:((s.A.used:Int):Int)≥((fN:Int):Int)
   . refine fP e 11 ?_
     refine gq (v:=(.int .i64 12)) uh rfl ?_
     exact⟨gj (fU.Of o_ o_).symm,ym (yt (p:=fU.ok fO fN s) (yc [_,_,_,_,_,_] _ e) hU) za⟩
   . refine fK e 12 ?_
     refine cl WQ (afT s.tb s.ab s.t G (ye e 5 rfl)) ?_
     rintro _ H ⟨rfl,ht⟩
     have f:=yj 5 e ht
     refine fK f 10 ?_
     refine jc (pvs:=[(0,(Zo x.u)),(1,(Zo x.v))]) (v:=.agg (vI x.u x.v)) rfl rfl (uJ [(0,(Zq x.u)),(1,(Zq x.v))] uc oq jt rfl ⟨rfl,rfl,rfl,rfl,trivial⟩ rfl s_) (gD f 4 ?_)
     refine ry 3 (iG (fR f 13 ?_))
     refine mL (i:=0) rfl rfl rfl oq yn rfl jt d_ rfl (fK f 10 ?_)
     refine cl Ew (F3 s.tb s.ab s.t H (ye f 5 rfl) x.u) ?_
     rintro _ o ⟨S,I,rfl,d,ht⟩
     have c:=yj 5 f ht
     refine gD c 13 ?_
     cases q:(I:Bool)
     . skip
       subst q
       refine iO c 12 ?_
       refine tN (?_)
       refine iG (fR c 13 ?_)
       refine mL (i:=1) rfl rfl rfl oq yn rfl jt d_ rfl (fK c 10 ?_)
       refine cl Ew (F3 s.tb s.ab s.t o (ye c 5 rfl) x.v) ?_
       rintro _ U ⟨V,J,rfl,h,ht⟩
       have a:=yj 5 c ht
       refine gD a 13 ?_
       cases y:(J:Bool)
       . skip
         subst y
         refine iO a 12 ?_
         refine tN (?_)
         refine iG (fR a 20 ?_)
         by_cases W:(((s.t.A.used:Int)+1)+1:Int)>((fO:Int):Int)
         . refine fP a 11 ?_
           refine gq (v:=(.int .i64 11)) uh rfl ?_
           have F:=d.cnt
           simp at F
           have T:=h.cnt
           simp at T
           exact⟨gj (fU.Cr o_ o_ o_).symm,ym (yt (p:=fU.ok fO fN s) (yc [_,_,_,_,_,_] _ a) hU) za⟩
         . refine fP a 12 ?_
           refine gq (v:=Zc) uh rfl ?_
           have F:=d.cnt
           simp at F
           have T:=h.cnt
           simp at T
           exact⟨gj (fU.Av o_ o_ o_).symm,ym (yt (p:=fU.ok fO fN s) (yc [_,_,_,_,_,_] _ a) hU) za⟩
       . skip
         subst y
         refine iO a 8 ?_
         refine tN (?_)
         refine iG (fR a 20 ?_)
         by_cases X:((s.t.A.used:Int)+1:Int)>((fO:Int):Int)
         . refine fP a 11 ?_
           refine gq (v:=(.int .i64 11)) uh rfl ?_
           have F:=d.cnt
           simp at F
           have T:=h.cnt
           simp at T
           exact⟨gj (fU.Cr o_ o_ o_).symm,ym (yt (p:=fU.ok fO fN s) (yc [_,_,_,_,_,_] _ a) hU) za⟩
         . refine fP a 12 ?_
           refine gq (v:=Zc) uh rfl ?_
           have F:=d.cnt
           simp at F
           have T:=h.cnt
           simp at T
           exact⟨gj (fU.Av o_ o_ o_).symm,ym (yt (p:=fU.ok fO fN s) (yc [_,_,_,_,_,_] _ a) hU) za⟩
     . skip
       subst q
       refine iO c 8 ?_
       refine tN (?_)
       refine iG (fR c 13 ?_)
       refine mL (i:=1) rfl rfl rfl oq yn rfl jt d_ rfl (fK c 10 ?_)
       refine cl Ew (F3 s.tb s.ab s.t o (ye c 5 rfl) x.v) ?_
       rintro _ Y ⟨Z,K,rfl,j,ht⟩
       have b:=yj 5 c ht
       refine gD b 13 ?_
       cases z:(K:Bool)
       . skip
         subst z
         refine iO b 12 ?_
         refine tN (?_)
         refine iG (fR b 20 ?_)
         by_cases aa:((s.t.A.used:Int)+1:Int)>((fO:Int):Int)
         . refine fP b 11 ?_
           refine gq (v:=(.int .i64 11)) uh rfl ?_
           have F:=d.cnt
           simp at F
           have T:=j.cnt
           simp at T
           exact⟨gj (fU.Cr o_ o_ o_).symm,ym (yt (p:=fU.ok fO fN s) (yc [_,_,_,_,_,_] _ b) hU) za⟩
         . refine fP b 12 ?_
           refine gq (v:=Zc) uh rfl ?_
           have F:=d.cnt
           simp at F
           have T:=j.cnt
           simp at T
           exact⟨gj (fU.Av o_ o_ o_).symm,ym (yt (p:=fU.ok fO fN s) (yc [_,_,_,_,_,_] _ b) hU) za⟩
       . skip
         subst z
         refine iO b 8 ?_
         refine tN (?_)
         refine iG (fR b 20 ?_)
         by_cases ac:((s.t.A.used:Int):Int)>((fO:Int):Int)
         . refine fP b 11 ?_
           refine gq (v:=(.int .i64 11)) uh rfl ?_
           have F:=d.cnt
           simp at F
           have T:=j.cnt
           simp at T
           exact⟨gj (fU.Cr o_ o_ o_).symm,ym (yt (p:=fU.ok fO fN s) (yc [_,_,_,_,_,_] _ b) hU) za⟩
         . refine fP b 12 ?_
           refine gq (v:=Zc) uh rfl ?_
           have F:=d.cnt
           simp at F
           have T:=j.cnt
           simp at T
           exact⟨gj (fU.Av o_ o_ o_).symm,ym (yt (p:=fU.ok fO fN s) (yc [_,_,_,_,_,_] _ b) hU) za⟩
end
end Go.Proofs.YtedjjkcihkmjgaaGreatDoor
