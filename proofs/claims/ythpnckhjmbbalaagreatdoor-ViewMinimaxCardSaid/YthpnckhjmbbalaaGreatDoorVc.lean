/- What the functions that the statements reach do: walks through the code of the program and of the references, one theorem a function; under what is said of its arguments. -/
import Derived.Test.YthpnckhjmbbalaaGreatDoorFb
import Derived.Test.YthpnckhjmbbalaaGreatDoorVa
import Derived.Test.YthpnckhjmbbalaaGreatDoorFd
import Derived.Test.YthpnckhjmbbalaaGreatDoorVb
import Derived.Ground.Names2Prog
import Derived.Shelf.Slices.Delete
import Derived.Test.YthpnckhjmbbalaaGreatDoorFa
set_option linter.unusedVariables false
set_option linter.unusedSimpArgs false
set_option maxRecDepth 100000
set_option maxHeartbeats 4000000
namespace Go.Proofs.YthpnckhjmbbalaaGreatDoor
section
open Go Go.Sx
theorem afv(fN fL ub:Nat)(s:fV)(w:World)(a:Own (fV.R fN fL ub s) w)(x:Lv)(b:s.gP fN fL x.u x.v=0) :
 CR ya 75 (xE ub x) w (fun r w' => r = .int .i64 0/\fZ (fV.R fN fL ub s) w w' (fV.R fN fL ub s)):=by
 have h:=Lw fN fL ub s w a x
 rw[b]at h
 exact h
theorem GC(tb ab:Nat)(t:TW)(w:World)(e:Own (TW.R tb ab t) w)(id:Int)(m:t.mem id\/t.A.used<t.A.n)(l:gV .u64 id) :
 CR ya 120 (Z4 tb id) w (fun r w' => ∃ (z:Nat) (b:Bool) (t2:TW),r = .tuple (Ei z b)/\TW.zT t t2 id/\TW.Kp t t2/\fZ (TW.R tb ab t) w w' (TW.R tb ab t2)):=by
 by_cases hm:t.mem id
 . obtain⟨i,hi,d⟩:=hm
   exact CR.mono (afm tb ab t w e id i hi d) fun r w' ⟨a,c⟩=>⟨i,false,t,a,⟨fun x=>⟨.inl,fun h=>h.elim (fun h=>h) (fun h=>h▸⟨i,hi,d⟩)⟩,rfl,by rw[TW.xN ⟨i,hi,d⟩];rfl⟩,TW.Kp.refl _,c⟩
 . exact CR.mono (afl tb ab t w e id hm l (m.resolve_left hm)) fun r w' ⟨i,t2,a,⟨c,f,g,k⟩,j⟩=>⟨i,true,t2,a,⟨c,f,by rw[TW.tF hm];exact g⟩,k,j⟩
theorem TQ(fN fL ub:Nat)(s:fV)(w:World)(hO:Own (fV.R fN fL ub s) w)(x:Lv)(T:x.ok)(hc:s.gP fN fL x.u x.v=0)(cy:s.last<=9000000000000000000) :
 CR ya 80 #[(Zb ub),(Er x),(Za x.exp)] w (fun r w' => ∃ (i:Nat) (s2:fV),r = .tuple #[(HZ i (s.last+1) x),.int .i64 0]/\((∀ y,s2.has y↔s.has y\/y=⟨(i:Int),s.last+1,x.u,x.v,x.wt,x.t,x.exp⟩)/\s2.last=s.last+1/\TW.Kp s.t s2.t)/\fZ (fV.R fN fL ub s) w w' (fV.R fN fL ub s2)):=by
 have cB:s.t.A.used<=s.t.A.n:=hO.fact.tok.ul
 have cr:=hO.fact.n
 have ct:=hO.fact.tn
 have cq:=hO.fact.en
 have cu:=hO.fact.vn
 have cm:s.A.used<=s.A.begun:=by have h7:=hO.fact.kS.used;omega
 have ck:=hO.fact.kS.le
 have cn:s.aw.A.used=s.A.used:=rfl
 have co:s.aw.A.n=s.A.n:=rfl
 have cp:s.aw.A.begun=s.A.begun:=rfl
 have cz:(s.live++[(⟨0,0,0,0,0,0,0⟩:Lv)]).length=s.live.length+1:=by simp
 have bc:=fV.EJ hc
 have cx:=hO.fact.sP
 have cA:=hO.fact.ll
 have F:∀ id,(fT s.im id).2.length<=65536:=fun id=>hO.fact.Jk id
 refine en Tryz.func80 Tryz.ntmps80 ?_
 have ce:=Own.of hO.un
 have hU:s.ok fN fL:=hO.fact
 refine fR ce 2 ?_
 refine iz ce (fun j bd be bf aI=>?_)
 refine iO aI (fun l aJ bg bh aq=>?_)
 have aK:=yg [2,3,4,5,6,7,0,1] aq
 have ar:=yp (p:=s.ok fN fL) (yc [_,_,_,_,_,_] _ aK) hU
 refine fK aq 8 ?_
 refine cl I1 (afv fN fL ub s aJ (ye ar 0 rfl) x hc) ?_
 rintro _ aL ⟨rfl,ht⟩
 have aM:=yk 0 ar ht
 have ad:=(jP aM).unpack
 refine fK ad 18 ?_
 refine cl Ol (T6 s.je s.aw aL (ye ad 4 rfl) o_) ?_
 rintro _ bi ⟨b,h,rfl,ae,ht⟩
 have au:=yk 4 ad ht
 have cd:=(yy au (i:=4) rfl:h.A.ok)
 have cv:b<=s.live.length:=by rcases ae.oU with h9|h9<;>omega
 have cw:b<=65536:=by omega
 refine wS au 30 fun bj aN=>?_
 refine kW mixed [([0,1,2,3,4,5,6,7,8],[4,5])] [9] aN (fun bl av=>j3 ?_)
 refine fK av 7 ?_
 refine jh (pvs:=[(0,(Za ((b:Nat):Int))),(1,(Zo (s.last+1))),(2,(Er x)),(3,(Za x.exp))]) (v:=.agg #[(Za ((b:Nat):Int)),(Zo (s.last+1)),(Zo x.u),(Zo x.v),(Za x.wt),(Za x.t),(Za x.exp)]) rfl rfl (jx [(0,(Ze ((b:Nat):Int))),(1,(Zt (s.last+1))),(2,(Z0 x)),(3,(Ze x.exp))] nO Kr rfl ⟨rfl,rfl,rfl,rfl,rfl,rfl,rfl,rfl,trivial⟩ rfl) (iO av (fun q bm bn bo af=>?_))
 refine fQ af 1 ?_
 refine u9 (lH rfl pU (lH rfl (qU (tL (cs:=(Z0 x)) rfl DI rfl u5 rfl (lN af (i:=8) (o:=0) (vs:=(Z0 x)) rfl rfl)) rfl rfl) (trivial))) (lE ?_)
 refine wS af 5 fun bp H=>?_
 refine ri 3 (iE (fR H 7 ?_))
 refine jA (m:=s.live.length) 2 rfl rfl sn H rfl (fK H 1 ?_)
 by_cases bq:((s.live.length:Int):Int)<=(((b:Nat):Int):Int)
 . refine fK H 13 ?_
   refine jh (pvs:=[]) (v:=.agg HE) rfl rfl (jx [] nO Kr rfl trivial rfl) (kg (vs:=[(.agg HE)]) (cs:=nw) rfl rfl sn nO rfl (by simp[Value.cells]) rfl rfl rfl H (fun aO br bs bt ax=>mS (cf:=Lv.cells) (ys:=s.live) (zs:=[(⟨0,0,0,0,0,0,0⟩:Lv)]) (LL:=fun B=>[row (Z6 aO) 107 7 1 (nw),blk q 107 (qF ((b:Nat):Int) (s.last+1) x),blk ub 143 (Cb fN fL (s.last+1) s (some s.mb)),fM Lv.cells B 107 7 (s.live++[(⟨0,0,0,0,0,0,0⟩:Lv)]),gZ s.mb .u64 p_ s.im,jE 3 s.im,(AW.R s.je h),(xG s),blk l 107 nw,blk j 61 (Z0 x)]) 3 rfl rfl rfl sn nO rfl d_ ax rfl (lX ax (i:=0) rfl) (fun x hx=>zq.1 (show List.all _ _=true from rfl) x hx) (by simp only[zt,zh,zm,maxLen];omega) (by simp only[zt,zh,zm,maxLen];omega) f_ ?_))
   intro B bu aP bv
   have P:=yg [1,2,3,4,5,6,7,8,9] aP
   refine fK P 2 ?_
   refine j8 1 P (fun bw K=>?_) (hvs:=(cells_one (yu P (i:=2) rfl))) (h1:=(iw (yu P (i:=2) rfl) lS))
   refine fQ K 2 ?_
   refine tN (?_)
   refine iE (fR K 7 ?_)
   refine jA (m:=(s.live++[(⟨0,0,0,0,0,0,0⟩:Lv)]).length) 2 rfl rfl sn K rfl (fK K 1 ?_)
   refine cmp rfl rfl rfl (NN (by simp only[zt,zh,zm];omega)) (gO K 17 fun bx aQ=>?_)
   refine iR (f:=(fun _=>(⟨((b:Nat):Int),s.last+1,x.u,x.v,x.wt,x.t,x.exp⟩:Lv))) 2 aQ (fun aR C=>?_)
   refine fK C 6 ?_
   refine ld rfl rfl yj rfl (lM C 8 rfl rfl) (fK C 1 ?_)
   refine ld rfl rfl yj rfl (lM C 8 rfl rfl) (jh (pvs:=[(0,(Zo x.u)),(1,(Zo x.v))]) (v:=.agg (vF x.u x.v)) rfl rfl (uC [(0,(Zt x.u)),(1,(Zt x.v))] ua oq jI rfl ⟨rfl,rfl,rfl,rfl,trivial⟩ rfl s_) (gJ C 4 ?_))
   refine ri 3 (iE (fR C 13 ?_))
   refine mC (i:=0) rfl rfl rfl oq yj rfl jI d_ rfl (fK C 10 ?_)
   refine cl EU (GC s.tb s.ab s.t aR (ye C 6 rfl) x.u (TW.SB o_) T.u) ?_
   rintro _ bz ⟨bA,bB,L,rfl,Q,cg,ht⟩
   have ag:=yk 6 C ht
   have bk:=(yy ag (i:=6) rfl:L.ok)
   refine gJ ag 2 ?_
   have aS:=yg [4,0,1,2,3,5,6,7,8] ag
   have aT:=zD x.u aS
   refine kW mixed [([0,1,2,3,4,5,6,7,8,9,10,11,12],[3,8,10]),([13],[3])] [14] aT (fun bC S=>j3 ?_)
   refine fK S 10 ?_
   refine qP (a:=x.u) (mm:=s.im) (enc:=p_) (k:=.u64) 5 rfl rfl rfl yv yj j9 rfl S rfl (fK S 1 ?_)
   refine kg (vs:=(Ze ((b:Nat):Int))) (cs:=(Ze ((b:Nat):Int))) rfl rfl yd gy rfl (by simp[Value.cells]) rfl rfl rfl S (fun aU bD bE bF U=>fQ U 1 ?_)
   refine u9 (lH rfl pU (lH rfl pU (lH rfl (qU (x9 (a:=x.u) (mm:=s.im) (enc:=p_) (k:=.u64) 6 rfl rfl yv yj j9 rfl U rfl) rfl rfl) (trivial)))) (j3 ?_)
   refine vS (k:=.i64) (ys:=gA (fT s.im x.u).2) (zs:=[((b:Nat):Int)]) (LL:=fun d=>[ig .i64 (Z6 aU) 3 ([((b:Nat):Int)]),ig .i64 d 3 ((gA (fT s.im x.u).2)++([((b:Nat):Int)])),jE 3 (iJ s.im x.u),blk q 107 (qF ((b:Nat):Int) (s.last+1) x),blk ub 143 (Ez fN fL (s.last+1) s B (some s.mb)),fM Lv.cells B 107 7 (fO (s.live++[(⟨0,0,0,0,0,0,0⟩:Lv)]) b (fun _=>(⟨((b:Nat):Int),s.last+1,x.u,x.v,x.wt,x.t,x.exp⟩:Lv))),gZ s.mb .u64 p_ s.im,(AW.R s.je h),(Ab s L),blk l 107 nw,blk j 61 (Z0 x)]) 1 rfl rfl rfl yd gy rfl U rfl (lX U (i:=0) rfl) (by simp only[zt,zh,zm,gA,zu,maxLen];have h7:=F x.u;have h8:=F x.v;first|omega|(rw[tO bc.1];omega)) (by simp only[zt,zh,zm,gA,zu,maxLen];have h7:=F x.u;have h8:=F x.v;first|omega|(rw[tO bc.1];omega)) f_ ?_
   intro d bG aV bH
   have ay:=yg [1,2,3,4,5,6,7,8,9,10] aV
   refine fQ ay 1 ?_
   refine kR (lE ?_)
   refine qT (a:=x.u) (c:=(d,(fT s.im x.u).2++[b])) (mm:=s.im) (enc:=p_) (k:=.u64) (L' := (MX d ((gA (fT s.im x.u).2)++([((b:Nat):Int)])) (iJ s.im x.u) q ((b:Nat):Int) (s.last+1) x ub fN fL s B (some s.mb) (fO (s.live++[(⟨0,0,0,0,0,0,0⟩:Lv)]) b (fun _=>(⟨((b:Nat):Int),s.last+1,x.u,x.v,x.wt,x.t,x.exp⟩:Lv))) (gx s.im x.u (d,(fT s.im x.u).2++[b])) h L l j)) 5 rfl rfl rfl rfl yv yj ay rfl rfl (fun az aA=>fQ aA 1 ?_)
   have M:St _ (MS (gx s.im x.u (d,(fT s.im x.u).2++[b])) q ((b:Nat):Int) (s.last+1) x ub fN fL s B (some s.mb) (fO (s.live++[(⟨0,0,0,0,0,0,0⟩:Lv)]) b (fun _=>(⟨((b:Nat):Int),s.last+1,x.u,x.v,x.wt,x.t,x.exp⟩:Lv))) h L l j) az:=zF (by have h9:=aA;rw[<-C2]at h9;exact h9)
   refine uV tt none M 6 ?_
   refine tN (?_)
   refine iE (fR M 13 ?_)
   refine mC (i:=1) rfl rfl rfl oq yj rfl jI d_ rfl (fK M 10 ?_)
   refine cl EU (GC s.tb s.ab L az (ye M 6 rfl) x.v (Q.room o_) T.v) ?_
   rintro _ bI ⟨bJ,bK,I,rfl,ah,ch,ht⟩
   have ai:=yk 6 M ht
   have bk:=(yy ai (i:=6) rfl:I.ok)
   refine gJ ai 2 ?_
   have aW:=zD x.v ai
   refine kW mixed [([0,1,2,3,4,5,6,7,8,9,10,11,12],[3,8,10]),([13],[3])] [14] aW (fun bL V=>j3 ?_)
   refine fK V 10 ?_
   refine qP (a:=x.v) (mm:=(gx s.im x.u (d,(fT s.im x.u).2++[b]))) (enc:=p_) (k:=.u64) 5 rfl rfl rfl yv yj j9 rfl V rfl (fK V 1 ?_)
   refine kg (vs:=(Ze ((b:Nat):Int))) (cs:=(Ze ((b:Nat):Int))) rfl rfl yd gy rfl (by simp[Value.cells]) rfl rfl rfl V (fun aX bM bN bO W=>fQ W 1 ?_)
   refine u9 (lH rfl pU (lH rfl pU (lH rfl (qU (x9 (a:=x.v) (mm:=(gx s.im x.u (d,(fT s.im x.u).2++[b]))) (enc:=p_) (k:=.u64) 6 rfl rfl yv yj j9 rfl W rfl) rfl rfl) (trivial)))) (j3 ?_)
   refine vS (k:=.i64) (ys:=gA (fT (gx s.im x.u (d,(fT s.im x.u).2++[b])) x.v).2) (zs:=[((b:Nat):Int)]) (LL:=fun D=>[ig .i64 (Z6 aX) 3 ([((b:Nat):Int)]),ig .i64 D 3 ((gA (fT (gx s.im x.u (d,(fT s.im x.u).2++[b])) x.v).2)++([((b:Nat):Int)])),jE 3 (iJ (gx s.im x.u (d,(fT s.im x.u).2++[b])) x.v),blk q 107 (qF ((b:Nat):Int) (s.last+1) x),blk ub 143 (Ez fN fL (s.last+1) s B (some s.mb)),fM Lv.cells B 107 7 (fO (s.live++[(⟨0,0,0,0,0,0,0⟩:Lv)]) b (fun _=>(⟨((b:Nat):Int),s.last+1,x.u,x.v,x.wt,x.t,x.exp⟩:Lv))),gZ s.mb .u64 p_ (gx s.im x.u (d,(fT s.im x.u).2++[b])),(AW.R s.je h),(Ab s I),blk l 107 nw,blk j 61 (Z0 x)]) 1 rfl rfl rfl yd gy rfl W rfl (lX W (i:=0) rfl) (by simp only[zt,zh,zm,gA,zu,maxLen];have h7:=F x.u;have h8:=F x.v;first|omega|(rw[tO bc.1];omega)) (by simp only[zt,zh,zm,gA,zu,maxLen];have h7:=F x.u;have h8:=F x.v;first|omega|(rw[tO bc.1];omega)) f_ ?_
   intro D bP aY bQ
   have aB:=yg [1,2,3,4,5,6,7,8,9,10] aY
   refine fQ aB 1 ?_
   refine kR (lE ?_)
   refine qT (a:=x.v) (c:=(D,(fT (gx s.im x.u (d,(fT s.im x.u).2++[b])) x.v).2++[b])) (mm:=(gx s.im x.u (d,(fT s.im x.u).2++[b]))) (enc:=p_) (k:=.u64) (L' := (MX D ((gA (fT (gx s.im x.u (d,(fT s.im x.u).2++[b])) x.v).2)++([((b:Nat):Int)])) (iJ (gx s.im x.u (d,(fT s.im x.u).2++[b])) x.v) q ((b:Nat):Int) (s.last+1) x ub fN fL s B (some s.mb) (fO (s.live++[(⟨0,0,0,0,0,0,0⟩:Lv)]) b (fun _=>(⟨((b:Nat):Int),s.last+1,x.u,x.v,x.wt,x.t,x.exp⟩:Lv))) (gx (gx s.im x.u (d,(fT s.im x.u).2++[b])) x.v (D,(fT (gx s.im x.u (d,(fT s.im x.u).2++[b])) x.v).2++[b])) h I l j)) 5 rfl rfl rfl rfl yv yj aB rfl rfl (fun aZ aC=>fQ aC 1 ?_)
   have aj:St _ (MS (gx (gx s.im x.u (d,(fT s.im x.u).2++[b])) x.v (D,(fT (gx s.im x.u (d,(fT s.im x.u).2++[b])) x.v).2++[b])) q ((b:Nat):Int) (s.last+1) x ub fN fL s B (some s.mb) (fO (s.live++[(⟨0,0,0,0,0,0,0⟩:Lv)]) b (fun _=>(⟨((b:Nat):Int),s.last+1,x.u,x.v,x.wt,x.t,x.exp⟩:Lv))) h I l j) aZ:=zF (by have h9:=aC;rw[<-C2]at h9;exact h9)
   refine uV tt none aj 6 ?_
   refine tN (?_)
   refine iE (fR aj 15 ?_)
   refine j8 7 aj (fun bR ak=>?_)
   refine fQ ak 4 ?_
   refine oc (v:=(HZ ((b:Nat):Int) (s.last+1) x)) (v' := Zc) Tryz.results80 (nM (cs:=(qF ((b:Nat):Int) (s.last+1) x)) rfl wY rfl nO rfl (lN ak (i:=7) (o:=0) (vs:=(qF ((b:Nat):Int) (s.last+1) x)) rfl rfl)) (oK rfl) ?_
   have a0:=yg [2,3,4,0,5,6,1,7,8] ak
   have cc:=hU.ins (e:=(⟨(b:Int),s.last+1,x.u,x.v,x.wt,x.t,x.exp⟩:Lv)) ae cd bk rfl rfl ⟨kF (by show _/\_;dsimp only;omega),oV (by show _/\_;dsimp only;omega),T.u,T.v,T.wt,T.t,T.exp⟩ bc.1 (fun z=>by rw[ah.mem,Q.mem]) (by rw[ah.n,Q.n]) (lv2:=B) (ls:=fO (s.live++[(⟨0,0,0,0,0,0,0⟩:Lv)]) b (fun _=>(⟨((b:Nat):Int),s.last+1,x.u,x.v,x.wt,x.t,x.exp⟩:Lv))) (by unfold yI;rw[if_pos o_]<;>rfl) (im2:=(gx (gx s.im x.u (d,(fT s.im x.u).2++[b])) x.v (D,(fT (gx s.im x.u (d,(fT s.im x.u).2++[b])) x.v).2++[b]))) (by rw[tO bc.1];rfl)
   exact⟨b,(⟨s.je,s.tb,s.ab,s.mb,B,s.last+1,h,I,fO (s.live++[(⟨0,0,0,0,0,0,0⟩:Lv)]) b (fun _=>(⟨((b:Nat):Int),s.last+1,x.u,x.v,x.wt,x.t,x.exp⟩:Lv)),(gx (gx s.im x.u (d,(fT s.im x.u).2++[b])) x.v (D,(fT (gx s.im x.u (d,(fT s.im x.u).2++[b])) x.v).2++[b]))⟩:fV),rfl,⟨cc.2,rfl,Q.xY ah cg ch⟩,yo (yp (p:=fV.ok fN fL (⟨s.je,s.tb,s.ab,s.mb,B,s.last+1,h,I,fO (s.live++[(⟨0,0,0,0,0,0,0⟩:Lv)]) b (fun _=>(⟨((b:Nat):Int),s.last+1,x.u,x.v,x.wt,x.t,x.exp⟩:Lv)),(gx (gx s.im x.u (d,(fT s.im x.u).2++[b])) x.v (D,(fT (gx s.im x.u (d,(fT s.im x.u).2++[b])) x.v).2++[b]))⟩:fV)) (yc [_,_,_,_,_,_] _ a0) cc.1) zd⟩
 . refine gO H 18 fun bS a1=>?_
   refine iR (f:=(fun _=>(⟨((b:Nat):Int),s.last+1,x.u,x.v,x.wt,x.t,x.exp⟩:Lv))) 2 a1 (fun a2 E=>?_)
   refine fK E 6 ?_
   refine ld rfl rfl yj rfl (lM E 8 rfl rfl) (fK E 1 ?_)
   refine ld rfl rfl yj rfl (lM E 8 rfl rfl) (jh (pvs:=[(0,(Zo x.u)),(1,(Zo x.v))]) (v:=.agg (vF x.u x.v)) rfl rfl (uC [(0,(Zt x.u)),(1,(Zt x.v))] ua oq jI rfl ⟨rfl,rfl,rfl,rfl,trivial⟩ rfl s_) (gJ E 4 ?_))
   refine ri 3 (iE (fR E 13 ?_))
   refine mC (i:=0) rfl rfl rfl oq yj rfl jI d_ rfl (fK E 10 ?_)
   refine cl EU (GC s.tb s.ab s.t a2 (ye E 6 rfl) x.u (TW.SB o_) T.u) ?_
   rintro _ bT ⟨bU,bV,N,rfl,X,ci,ht⟩
   have al:=yk 6 E ht
   have bk:=(yy al (i:=6) rfl:N.ok)
   refine gJ al 2 ?_
   have a3:=yg [4,0,1,2,3,5,6,7,8] al
   have a4:=zD x.u a3
   refine kW mixed [([0,1,2,3,4,5,6,7,8,9,10,11,12],[3,8,10]),([13],[3])] [14] a4 (fun bW Y=>j3 ?_)
   refine fK Y 10 ?_
   refine qP (a:=x.u) (mm:=s.im) (enc:=p_) (k:=.u64) 5 rfl rfl rfl yv yj j9 rfl Y rfl (fK Y 1 ?_)
   refine kg (vs:=(Ze ((b:Nat):Int))) (cs:=(Ze ((b:Nat):Int))) rfl rfl yd gy rfl (by simp[Value.cells]) rfl rfl rfl Y (fun a5 bX bY bZ Z=>fQ Z 1 ?_)
   refine u9 (lH rfl pU (lH rfl pU (lH rfl (qU (x9 (a:=x.u) (mm:=s.im) (enc:=p_) (k:=.u64) 6 rfl rfl yv yj j9 rfl Z rfl) rfl rfl) (trivial)))) (j3 ?_)
   refine vS (k:=.i64) (ys:=gA (fT s.im x.u).2) (zs:=[((b:Nat):Int)]) (LL:=fun g=>[ig .i64 (Z6 a5) 3 ([((b:Nat):Int)]),ig .i64 g 3 ((gA (fT s.im x.u).2)++([((b:Nat):Int)])),jE 3 (iJ s.im x.u),blk q 107 (qF ((b:Nat):Int) (s.last+1) x),blk ub 143 (Cb fN fL (s.last+1) s (some s.mb)),fM Lv.cells s.lv 107 7 (fO s.live b (fun _=>(⟨((b:Nat):Int),s.last+1,x.u,x.v,x.wt,x.t,x.exp⟩:Lv))),gZ s.mb .u64 p_ s.im,(AW.R s.je h),(Ab s N),blk l 107 nw,blk j 61 (Z0 x)]) 1 rfl rfl rfl yd gy rfl Z rfl (lX Z (i:=0) rfl) (by simp only[zt,zh,zm,gA,zu,maxLen];have h7:=F x.u;have h8:=F x.v;first|omega|(rw[tO bc.1];omega)) (by simp only[zt,zh,zm,gA,zu,maxLen];have h7:=F x.u;have h8:=F x.v;first|omega|(rw[tO bc.1];omega)) f_ ?_
   intro g b0 a6 b1
   have aD:=yg [1,2,3,4,5,6,7,8,9,10] a6
   refine fQ aD 1 ?_
   refine kR (lE ?_)
   refine qT (a:=x.u) (c:=(g,(fT s.im x.u).2++[b])) (mm:=s.im) (enc:=p_) (k:=.u64) (L' := (MW g ((gA (fT s.im x.u).2)++([((b:Nat):Int)])) (iJ s.im x.u) q ((b:Nat):Int) (s.last+1) x ub fN fL s (some s.mb) (fO s.live b (fun _=>(⟨((b:Nat):Int),s.last+1,x.u,x.v,x.wt,x.t,x.exp⟩:Lv))) (gx s.im x.u (g,(fT s.im x.u).2++[b])) h N l j)) 5 rfl rfl rfl rfl yv yj aD rfl rfl (fun aE aF=>fQ aF 1 ?_)
   have O:St _ (Ms (gx s.im x.u (g,(fT s.im x.u).2++[b])) q ((b:Nat):Int) (s.last+1) x ub fN fL s (some s.mb) (fO s.live b (fun _=>(⟨((b:Nat):Int),s.last+1,x.u,x.v,x.wt,x.t,x.exp⟩:Lv))) h N l j) aE:=zF (by have h9:=aF;rw[<-C2]at h9;exact h9)
   refine uV tt none O 6 ?_
   refine tN (?_)
   refine iE (fR O 13 ?_)
   refine mC (i:=1) rfl rfl rfl oq yj rfl jI d_ rfl (fK O 10 ?_)
   refine cl EU (GC s.tb s.ab N aE (ye O 6 rfl) x.v (X.room o_) T.v) ?_
   rintro _ b2 ⟨b3,b4,J,rfl,am,cj,ht⟩
   have an:=yk 6 O ht
   have bk:=(yy an (i:=6) rfl:J.ok)
   refine gJ an 2 ?_
   have a7:=zD x.v an
   refine kW mixed [([0,1,2,3,4,5,6,7,8,9,10,11,12],[3,8,10]),([13],[3])] [14] a7 (fun b5 aa=>j3 ?_)
   refine fK aa 10 ?_
   refine qP (a:=x.v) (mm:=(gx s.im x.u (g,(fT s.im x.u).2++[b]))) (enc:=p_) (k:=.u64) 5 rfl rfl rfl yv yj j9 rfl aa rfl (fK aa 1 ?_)
   refine kg (vs:=(Ze ((b:Nat):Int))) (cs:=(Ze ((b:Nat):Int))) rfl rfl yd gy rfl (by simp[Value.cells]) rfl rfl rfl aa (fun a8 b6 b7 b8 ac=>fQ ac 1 ?_)
   refine u9 (lH rfl pU (lH rfl pU (lH rfl (qU (x9 (a:=x.v) (mm:=(gx s.im x.u (g,(fT s.im x.u).2++[b]))) (enc:=p_) (k:=.u64) 6 rfl rfl yv yj j9 rfl ac rfl) rfl rfl) (trivial)))) (j3 ?_)
   refine vS (k:=.i64) (ys:=gA (fT (gx s.im x.u (g,(fT s.im x.u).2++[b])) x.v).2) (zs:=[((b:Nat):Int)]) (LL:=fun G=>[ig .i64 (Z6 a8) 3 ([((b:Nat):Int)]),ig .i64 G 3 ((gA (fT (gx s.im x.u (g,(fT s.im x.u).2++[b])) x.v).2)++([((b:Nat):Int)])),jE 3 (iJ (gx s.im x.u (g,(fT s.im x.u).2++[b])) x.v),blk q 107 (qF ((b:Nat):Int) (s.last+1) x),blk ub 143 (Cb fN fL (s.last+1) s (some s.mb)),fM Lv.cells s.lv 107 7 (fO s.live b (fun _=>(⟨((b:Nat):Int),s.last+1,x.u,x.v,x.wt,x.t,x.exp⟩:Lv))),gZ s.mb .u64 p_ (gx s.im x.u (g,(fT s.im x.u).2++[b])),(AW.R s.je h),(Ab s J),blk l 107 nw,blk j 61 (Z0 x)]) 1 rfl rfl rfl yd gy rfl ac rfl (lX ac (i:=0) rfl) (by simp only[zt,zh,zm,gA,zu,maxLen];have h7:=F x.u;have h8:=F x.v;first|omega|(rw[tO bc.1];omega)) (by simp only[zt,zh,zm,gA,zu,maxLen];have h7:=F x.u;have h8:=F x.v;first|omega|(rw[tO bc.1];omega)) f_ ?_
   intro G b9 a9 ca
   have aG:=yg [1,2,3,4,5,6,7,8,9,10] a9
   refine fQ aG 1 ?_
   refine kR (lE ?_)
   refine qT (a:=x.v) (c:=(G,(fT (gx s.im x.u (g,(fT s.im x.u).2++[b])) x.v).2++[b])) (mm:=(gx s.im x.u (g,(fT s.im x.u).2++[b]))) (enc:=p_) (k:=.u64) (L' := (MW G ((gA (fT (gx s.im x.u (g,(fT s.im x.u).2++[b])) x.v).2)++([((b:Nat):Int)])) (iJ (gx s.im x.u (g,(fT s.im x.u).2++[b])) x.v) q ((b:Nat):Int) (s.last+1) x ub fN fL s (some s.mb) (fO s.live b (fun _=>(⟨((b:Nat):Int),s.last+1,x.u,x.v,x.wt,x.t,x.exp⟩:Lv))) (gx (gx s.im x.u (g,(fT s.im x.u).2++[b])) x.v (G,(fT (gx s.im x.u (g,(fT s.im x.u).2++[b])) x.v).2++[b])) h J l j)) 5 rfl rfl rfl rfl yv yj aG rfl rfl (fun ba aH=>fQ aH 1 ?_)
   have ao:St _ (Ms (gx (gx s.im x.u (g,(fT s.im x.u).2++[b])) x.v (G,(fT (gx s.im x.u (g,(fT s.im x.u).2++[b])) x.v).2++[b])) q ((b:Nat):Int) (s.last+1) x ub fN fL s (some s.mb) (fO s.live b (fun _=>(⟨((b:Nat):Int),s.last+1,x.u,x.v,x.wt,x.t,x.exp⟩:Lv))) h J l j) ba:=zF (by have h9:=aH;rw[<-C2]at h9;exact h9)
   refine uV tt none ao 6 ?_
   refine tN (?_)
   refine iE (fR ao 15 ?_)
   refine j8 7 ao (fun cb ap=>?_)
   refine fQ ap 4 ?_
   refine oc (v:=(HZ ((b:Nat):Int) (s.last+1) x)) (v' := Zc) Tryz.results80 (nM (cs:=(qF ((b:Nat):Int) (s.last+1) x)) rfl wY rfl nO rfl (lN ap (i:=7) (o:=0) (vs:=(qF ((b:Nat):Int) (s.last+1) x)) rfl rfl)) (oK rfl) ?_
   have bb:=yg [2,3,4,0,5,6,1,7,8] ap
   have cc:=hU.ins (e:=(⟨(b:Int),s.last+1,x.u,x.v,x.wt,x.t,x.exp⟩:Lv)) ae cd bk rfl rfl ⟨kF (by show _/\_;dsimp only;omega),oV (by show _/\_;dsimp only;omega),T.u,T.v,T.wt,T.t,T.exp⟩ bc.1 (fun z=>by rw[am.mem,X.mem]) (by rw[am.n,X.n]) (lv2:=s.lv) (ls:=fO s.live b (fun _=>(⟨((b:Nat):Int),s.last+1,x.u,x.v,x.wt,x.t,x.exp⟩:Lv))) (by unfold yI;rw[if_neg o_]<;>rfl) (im2:=(gx (gx s.im x.u (g,(fT s.im x.u).2++[b])) x.v (G,(fT (gx s.im x.u (g,(fT s.im x.u).2++[b])) x.v).2++[b]))) (by rw[tO bc.1];rfl)
   exact⟨b,(⟨s.je,s.tb,s.ab,s.mb,s.lv,s.last+1,h,J,fO s.live b (fun _=>(⟨((b:Nat):Int),s.last+1,x.u,x.v,x.wt,x.t,x.exp⟩:Lv)),(gx (gx s.im x.u (g,(fT s.im x.u).2++[b])) x.v (G,(fT (gx s.im x.u (g,(fT s.im x.u).2++[b])) x.v).2++[b]))⟩:fV),rfl,⟨cc.2,rfl,X.xY am ci cj⟩,yo (yp (p:=fV.ok fN fL (⟨s.je,s.tb,s.ab,s.mb,s.lv,s.last+1,h,J,fO s.live b (fun _=>(⟨((b:Nat):Int),s.last+1,x.u,x.v,x.wt,x.t,x.exp⟩:Lv)),(gx (gx s.im x.u (g,(fT s.im x.u).2++[b])) x.v (G,(fT (gx s.im x.u (g,(fT s.im x.u).2++[b])) x.v).2++[b]))⟩:fV)) (yc [_,_,_,_,_,_] _ bb) cc.1) zd⟩
end
section
open Go Go.Sx
end
end Go.Proofs.YthpnckhjmbbalaaGreatDoor
namespace Go.Proofs
open Go.Shelf Go.Lib Go.Sort Go.RowKit in
def Tryz.aaw:Go.Shelf.Ren:=⟨fun|23=>72|n=>n,fun|22=>65|3=>3|4=>4|0=>0|n=>n,fun|n=>n⟩
open Go.Shelf Go.Lib Go.Sort Go.RowKit in
theorem Tryz.aav:Go.Proofs.Lays2.n23 Proofs.Tryz.prog Tryz.aaw where
 mixed:=by kernel_rfl
 f23:=Proofs.Tryz.func72.trans (congrArg some<|by kernel_rfl)
 t0:=Proofs.Tryz.underlying0
 a0:=Proofs.Tryz.isAgg0
 z0:=Proofs.Tryz.sizeOf0
 v0:=Proofs.Tryz.zeroValue0
 t3:=Proofs.Tryz.underlying3
 a3:=Proofs.Tryz.isAgg3
 z3:=Proofs.Tryz.sizeOf3
 v3:=Proofs.Tryz.zeroValue3
 t4:=Proofs.Tryz.underlying4
 a4:=Proofs.Tryz.isAgg4
 z4:=Proofs.Tryz.sizeOf4
 v4:=Proofs.Tryz.zeroValue4
 t22:=Proofs.Tryz.underlying65
 a22:=Proofs.Tryz.isAgg65
 z22:=Proofs.Tryz.sizeOf65
 v22:=Proofs.Tryz.zeroValue65
 i3:=by kernel_rfl
end Go.Proofs
namespace Go.Proofs.YthpnckhjmbbalaaGreatDoor
section
open Go Go.Sx
theorem IE(v:Value)(xs:List Int)(w:World)(i:Nat)(f:Own (ig .i64 v 3 xs) w)(hi:i<xs.length) :
 CR ya 72 #[v,.int .i64 (i:Int),.int .i64 ((i+1:Nat):Int)] w (fun r w' => fZ (ig .i64 v 3 xs) w w' (ig .i64 r 3 (xs.eraseIdx i))) :=
 Wj f hi fun b a c d e=>Any.slices_Delete_int Tryz.aav b 0 a i (i+1) xs w c d e o_ o_
theorem Jl(v:Value)(xs:List Int)(x:Int)(k:Nat)(w:World)(hv:Ints .i64 (fun _=>True) w v xs)(A:xs.length<=1000000)(hk:xs[k]? = some x)(t:∀ (j:Nat) (y:Int),j<k->xs[j]? = some y->y≠x) :
 CR ya 71 #[v,(Za x)] w (fun r w' => r = .int .i64 (k:Int)/\gz [] w w'):=by
 have z:=(zj.1 hk).1
 refine en Tryz.func71 Tryz.ntmps71 ?_
 have o:=yt w
 refine fR o 9 ?_
 refine kU (v:=v) rfl rfl yd hv (gJ o 4 ?_)
 refine lp (α:=Nat) (fun q=>[(0,v),(1,(Za x)),(7,(Za xs.length)),(8,(Za q))]) (fun q w1=>St [(w,[])] [] w1/\q<=k) (fun q=>k-q) 0 ⟨rfl,rfl,rfl,gw rO,trivial⟩ (⟨o,o_⟩) ?_
 rintro q d e ⟨m,B⟩
 obtain⟨y,n⟩:=pO (show q<xs.length by omega)
 refine fR m 2 ?_
 refine cmp rfl rfl rfl (qm o_) (fK m 19 ?_)
 refine CI (i:=(q:Int)) (el:=y) rfl rfl rfl yd gy (St.Fj m s_ hv) o_ (by rw[show ((q:Nat):Int).toNat=q by omega];exact n) ?_
 intro f g b c h
 have l:=c.i64
 refine ld rfl rfl yf rfl b ?_
 by_cases a:(x:Int)=(y:Int)
 . have u:q=k:=(xu q k).elim (fun p=>absurd (show y=x from by have s:=a;omega) (t q y p n)) (fun p=>by omega)
   refine fQ m 16 ?_
   refine gp (v:=(Za q)) Tryz.results71 rfl ?_
   obtain rfl:q=k:=by omega
   exact⟨rfl,m.gC s_⟩
 . have u:q≠k:=by rintro rfl;rw[hk]at n;cases n;exact(by have s:=a;omega:False)
   refine fQ m 11 ?_
   refine tN (?_)
   exact again (q+1) ⟨rfl,rfl,rfl,gw rO,trivial⟩ (⟨m,o_⟩) (by show (k-(q+1):Nat)<k-q;omega)
theorem TV(fN fL ub:Nat)(s:fV)(w:World)(hO:Own (fV.R fN fL ub s) w)(i:Nat)(hi:s.A.gX i) :
 CR ya 40 (Zm ub i) w (fun r w' => ∃ (s2:fV),r = .tuple #[(zV (fJ s.live i)),.int .i64 0]/\((∀ y,s2.has y↔s.has y/\y.slot≠(i:Int))/\s2.last=s.last/\TW.Kp s.t s2.t)/\fZ (fV.R fN fL ub s) w w' (fV.R fN fL ub s2)):=by
 have cb:s.t.A.used<=s.t.A.n:=hO.fact.tok.ul
 have b6:=hO.fact.n
 have b7:=hO.fact.tn
 have b5:=hO.fact.en
 have b8:=hO.fact.vn
 have b4:s.A.used<=s.A.begun:=by have T:=hO.fact.kS.used;omega
 have b3:=hO.fact.kS.le
 have ca:=hO.fact.ll
 have b9:=hi.1
 have bY:=hO.fact.ne i hi
 refine en Tryz.func40 Tryz.ntmps40 ?_
 have b2:=Own.of hO.un
 have F:s.ok fN fL:=hO.fact
 refine fR b2 2 ?_
 refine iO b2 (fun C aT bE bF an=>?_)
 have aU:=yg [1,2,3,4,5,6,0] an
 have ao:=yp (p:=s.ok fN fL) (yc [_,_,_,_,_,_] _ aU) F
 refine fK an 7 ?_
 refine cl Ax (Bm fN fL ub s aT (ye ao 0 rfl)) ?_
 rintro _ aV ⟨rfl,ht⟩
 have aW:=yk 0 ao ht
 have Y:=(jP aW).unpack
 refine fK Y 14 ?_
 refine cl O8 (Ub s.je s.aw aV (ye Y 4 rfl) i hi) ?_
 rintro _ bG ⟨g,rfl,S,ht⟩
 have Z:=yk 4 Y ht
 have bX:=(yy Z (i:=4) rfl:g.A.ok)
 refine fK Z 21 ?_
 refine iO Z (fun D bH bI bJ aX=>?_)
 refine gO aX 10 fun bK ap=>?_
 refine jh (pvs:=[]) (v:=.agg HE) rfl rfl (jx [] nO Kr rfl trivial rfl) (fK ap 1 ?_)
 refine iR (f:=(fun _=>(⟨0,0,0,0,0,0,0⟩:Lv))) 2 ap (fun aY K=>?_)
 refine fK K 11 ?_
 refine jh (pvs:=[(0,(Zo ((fJ s.live i).u))),(1,(Zo ((fJ s.live i).v)))]) (v:=.agg (vF ((fJ s.live i).u) ((fJ s.live i).v))) rfl rfl (uC [(0,(Zt ((fJ s.live i).u))),(1,(Zt ((fJ s.live i).v)))] ua oq jI rfl ⟨rfl,rfl,rfl,rfl,trivial⟩ rfl s_) (gJ K 4 ?_)
 refine ri 3 (iE (fR K 13 ?_))
 refine mC (i:=0) rfl rfl rfl oq yj rfl jI d_ rfl ?_
 have aZ:=yg [4,0,1,2,3,5,6,7] K
 have L:=zD ((fJ s.live i).u) aZ
 refine fK K 10 ?_
 refine qP (a:=(fJ s.live i).u) (mm:=s.im) (enc:=p_) (k:=.u64) 5 rfl rfl rfl yv yj j9 rfl L rfl (vU (v:=((pK s i).1)) rfl rfl (fK L 5 ?_))
 refine mv (v:=((pK s i).1)) rfl rfl ?_
 have a0:=((F.inc (fJ s.live i).u i).2 ⟨hi,.inl rfl⟩)
 obtain⟨b,aq,au,a1⟩:=Jg a0 (F.nd _)
 have a2:b<(gA (pK s i).2).length:=(zj.1 au).1
 have av:(gA (pK s i).2).length<=1000000:=by rw[gA,zu];exact k7 (F.Jk _) d_
 refine fK L 1 ?_
 refine cl IX (Jl ((pK s i).1) (gA (pK s i).2) (i:Int) b aY (w6 L (i:=0) rfl (J3 (by rw[gA,zu]at av;exact fun j hj=>Jj F (fun _ h=>h) hj))).any av au a1) ?_
 rintro _ a3 ⟨rfl,a4⟩
 have M:=yq L a4
 refine fK M 6 ?_
 refine cmp rfl rfl rfl (nX o_) (fK M 4 ?_)
 refine mv (v:=((pK s i).1)) rfl rfl (fK M 2 ?_)
 refine ar (e:=((b+1:Nat):Int)) rfl rfl rfl rfl iZ (cl IY (IE ((pK s i).1) (gA (pK s i).2) a3 b (ye M 0 rfl) a2) ?_)
 rintro d bL ht
 have bZ:=yk 0 M ht
 rw[J2]at bZ
 have E:=bZ
 refine fK E 7 ?_
 refine jA (m:=(gA ((pK s i).2.eraseIdx b)).length) 0 rfl rfl yd E rfl ?_
 by_cases ax:((((gA ((pK s i).2.eraseIdx b)).length:Nat):Int):Int)>(0:Int)
 . have a5:(pK s i).2.eraseIdx b≠[]:=by intro e9;have T:=@ax;rw[e9]at T;simp[gA]at T
   refine fK E 12 ?_
   refine qT (a:=(fJ s.live i).u) (c:=(d,(pK s i).2.eraseIdx b)) (mm:=s.im) (enc:=p_) (k:=.u64) (L' := (MY d (gA ((fT s.im ((fJ s.live i).u)).2.eraseIdx b)) (iJ s.im ((fJ s.live i).u)) D (fJ s.live i) ub fN fL s (some s.mb) (fO s.live i (fun _=>(⟨0,0,0,0,0,0,0⟩:Lv))) (gx s.im ((fJ s.live i).u) (d,(fT s.im ((fJ s.live i).u)).2.eraseIdx b)) g C)) 5 rfl rfl rfl rfl yv yj E rfl rfl ?_
   intro a6 ay
   have aa:=zF ay
   have x:mu s.im s.t (uA s i d b) s.t (fJ s.live i).u i:=mu.keep (F.nd _) aq a5
   refine fQ ay 10 ?_
   refine tN (?_)
   refine iE (fR aa 13 ?_)
   refine mC (i:=1) rfl rfl rfl oq yj rfl jI d_ rfl ?_
   have N:=zD ((fJ s.live i).v) aa
   refine fK aa 10 ?_
   refine qP (a:=(fJ s.live i).v) (mm:=(uA s i d b)) (enc:=p_) (k:=.u64) 5 rfl rfl rfl yv yj j9 rfl N rfl (vU (v:=((pJ s i d b).1)) rfl rfl (fK N 5 ?_))
   refine mv (v:=((pJ s i d b).1)) rfl rfl ?_
   have a7:=((x.get (fJ s.live i).v i).2 ⟨(F.inc (fJ s.live i).v i).2 ⟨hi,.inr rfl⟩,fun e=>absurd e.symm bY⟩)
   obtain⟨l,az,aA,a8⟩:=Jg a7 (x.nd F.nd _)
   have a9:l<(gA (pJ s i d b).2).length:=(zj.1 aA).1
   have aB:(gA (pJ s i d b).2).length<=1000000:=by rw[gA,zu];exact k7 (inc_le F x _) d_
   refine fK N 1 ?_
   refine cl IX (Jl ((pJ s i d b).1) (gA (pJ s i d b).2) (i:Int) l a6 (w6 N (i:=0) rfl (J3 (by rw[gA,zu]at aB;exact fun j hj=>Jj F (fun _ h=>((x.get _ _).1 h).1) hj))).any aB aA a8) ?_
   rintro _ ba ⟨rfl,bb⟩
   have O:=yq N bb
   refine fK O 6 ?_
   refine cmp rfl rfl rfl (nX o_) (fK O 4 ?_)
   refine mv (v:=((pJ s i d b).1)) rfl rfl (fK O 2 ?_)
   refine ar (e:=((l+1:Nat):Int)) rfl rfl rfl rfl iZ (cl IY (IE ((pJ s i d b).1) (gA (pJ s i d b).2) ba l (ye O 0 rfl) a9) ?_)
   rintro G bM ht
   have b0:=yk 0 O ht
   rw[J2]at b0
   have H:=b0
   refine fK H 7 ?_
   refine jA (m:=(gA ((pJ s i d b).2.eraseIdx l)).length) 0 rfl rfl yd H rfl ?_
   by_cases aC:((((gA ((pJ s i d b).2.eraseIdx l)).length:Nat):Int):Int)>(0:Int)
   . have bc:(pJ s i d b).2.eraseIdx l≠[]:=by intro e9;have T:=@aC;rw[e9]at T;simp[gA]at T
     refine fK H 12 ?_
     refine qT (a:=(fJ s.live i).v) (c:=(G,(pJ s i d b).2.eraseIdx l)) (mm:=(uA s i d b)) (enc:=p_) (k:=.u64) (L' := (MY G (gA ((fT (gx s.im ((fJ s.live i).u) (d,(fT s.im ((fJ s.live i).u)).2.eraseIdx b)) ((fJ s.live i).v)).2.eraseIdx l)) (iJ (gx s.im ((fJ s.live i).u) (d,(fT s.im ((fJ s.live i).u)).2.eraseIdx b)) ((fJ s.live i).v)) D (fJ s.live i) ub fN fL s (some s.mb) (fO s.live i (fun _=>(⟨0,0,0,0,0,0,0⟩:Lv))) (gx (gx s.im ((fJ s.live i).u) (d,(fT s.im ((fJ s.live i).u)).2.eraseIdx b)) ((fJ s.live i).v) (G,(fT (gx s.im ((fJ s.live i).u) (d,(fT s.im ((fJ s.live i).u)).2.eraseIdx b)) ((fJ s.live i).v)).2.eraseIdx l)) g C)) 5 rfl rfl rfl rfl yv yj H rfl rfl ?_
     intro bN aD
     have aE:=zF aD
     have aF:mu (uA s i d b) s.t (HX s i d b G l) s.t (fJ s.live i).v i:=mu.keep (x.nd F.nd _) az bc
     refine fQ aD 10 ?_
     refine tN (?_)
     refine iE (fR aE 15 ?_)
     refine j8 7 aE (fun bO ac=>?_)
     refine fQ ac 4 ?_
     refine oc (v:=(zV (fJ s.live i))) (v' := Zc) GU (nM (cs:=(Z9 (fJ s.live i))) rfl wY rfl nO rfl (lN ac (i:=7) (o:=0) (vs:=(Z9 (fJ s.live i))) rfl rfl)) (oK rfl) ?_
     have aG:=yg [2,3,4,0,5,6,1,7] ac
     have bW:=(yy aG (i:=5) rfl:s.t.ok)
     have bk:=F.rem hi S bX bW x aF (lv2:=s.lv) (ls:=fO s.live i (fun _=>(⟨0,0,0,0,0,0,0⟩:Lv))) rfl
     exact⟨(⟨s.je,s.tb,s.ab,s.mb,s.lv,s.last,g,s.t,fO s.live i (fun _=>(⟨0,0,0,0,0,0,0⟩:Lv)),(HX s i d b G l)⟩:fV),rfl,⟨bk.2,rfl,aF.xY (TW.Kp.refl _) (TW.Kp.refl _)⟩,yo (yp (p:=fV.ok fN fL (⟨s.je,s.tb,s.ab,s.mb,s.lv,s.last,g,s.t,fO s.live i (fun _=>(⟨0,0,0,0,0,0,0⟩:Lv)),(HX s i d b G l)⟩:fV)) (yc [_,_,_,_,_,_] _ aG) bk.1) zd⟩
   . have bd:(pJ s i d b).2.eraseIdx l=[]:=by have T:=@aC;simp only[gA,zu]at T;exact ug o_
     have be:=yg [1,2,3,4,5,6,7,8] H
     refine fK H 13 ?_
     refine Cq (a:=(fJ s.live i).v) (mm:=(uA s i d b)) (enc:=p_) (k:=.u64) (L' := (MT (iJ (gx s.im ((fJ s.live i).u) (d,(fT s.im ((fJ s.live i).u)).2.eraseIdx b)) ((fJ s.live i).v)) D (fJ s.live i) ub fN fL s (some s.mb) (fO s.live i (fun _=>(⟨0,0,0,0,0,0,0⟩:Lv))) g C)) 4 rfl rfl rfl yv yj be rfl rfl ?_
     intro bf ad
     obtain⟨bg,bh,bi⟩:=((x.mem (fJ s.live i).v).2 ⟨(F.mem (fJ s.live i).v).2 ⟨i,hi,.inr rfl⟩,fun e=>absurd e.symm bY⟩)
     refine fK ad 8 ?_
     refine cl IZ (K9 s.tb s.ab s.t bf (ye ad 6 rfl) (fJ s.live i).v bg bh bi) ?_
     rintro _ bP ⟨U,rfl,ae,ht⟩
     have af:=yk 6 ad ht
     have aH:mu (uA s i d b) s.t (HW s i d b) U (fJ s.live i).v i:=mu.drop (x.keys F.keys) (x.nd F.nd _) az bd ae.1 ae.2.1
     refine fQ af 7 ?_
     refine tN (?_)
     refine iE (fR af 15 ?_)
     refine j8 7 af (fun bQ ag=>?_)
     refine fQ ag 4 ?_
     refine oc (v:=(zV (fJ s.live i))) (v' := Zc) GU (nM (cs:=(Z9 (fJ s.live i))) rfl wY rfl nO rfl (lN ag (i:=7) (o:=0) (vs:=(Z9 (fJ s.live i))) rfl rfl)) (oK rfl) ?_
     have aI:=yg [2,3,4,0,5,6,1,7] ag
     have bW:=(yy aI (i:=5) rfl:U.ok)
     have bk:=F.rem hi S bX bW x aH (lv2:=s.lv) (ls:=fO s.live i (fun _=>(⟨0,0,0,0,0,0,0⟩:Lv))) rfl
     exact⟨(⟨s.je,s.tb,s.ab,s.mb,s.lv,s.last,g,U,fO s.live i (fun _=>(⟨0,0,0,0,0,0,0⟩:Lv)),(HW s i d b)⟩:fV),rfl,⟨bk.2,rfl,aH.xY (TW.Kp.refl _) ae.2.2.2.2⟩,yo (yp (p:=fV.ok fN fL (⟨s.je,s.tb,s.ab,s.mb,s.lv,s.last,g,U,fO s.live i (fun _=>(⟨0,0,0,0,0,0,0⟩:Lv)),(HW s i d b)⟩:fV)) (yc [_,_,_,_,_,_] _ aI) bk.1) zd⟩
 . have bj:(pK s i).2.eraseIdx b=[]:=by have T:=@ax;simp only[gA,zu]at T;exact ug o_
   have bl:=yg [1,2,3,4,5,6,7,8] E
   refine fK E 13 ?_
   refine Cq (a:=(fJ s.live i).u) (mm:=s.im) (enc:=p_) (k:=.u64) (L' := (MT (iJ s.im ((fJ s.live i).u)) D (fJ s.live i) ub fN fL s (some s.mb) (fO s.live i (fun _=>(⟨0,0,0,0,0,0,0⟩:Lv))) g C)) 4 rfl rfl rfl yv yj bl rfl rfl ?_
   intro bm ah
   obtain⟨bn,bo,bp⟩:=((F.mem (fJ s.live i).u).2 ⟨i,hi,.inl rfl⟩)
   refine fK ah 8 ?_
   refine cl IZ (K9 s.tb s.ab s.t bm (ye ah 6 rfl) (fJ s.live i).u bn bo bp) ?_
   rintro _ bq ⟨z,rfl,V,ht⟩
   have W:=yk 6 ah ht
   have B:mu s.im s.t (uB s i) z (fJ s.live i).u i:=mu.drop F.keys (F.nd _) aq bj V.1 V.2.1
   refine fQ W 7 ?_
   refine tN (?_)
   refine iE (fR W 13 ?_)
   refine mC (i:=1) rfl rfl rfl oq yj rfl jI d_ rfl ?_
   have P:=zD ((fJ s.live i).v) W
   refine fK W 10 ?_
   refine qP (a:=(fJ s.live i).v) (mm:=(uB s i)) (enc:=p_) (k:=.u64) 5 rfl rfl rfl yv yj j9 rfl P rfl (vU (v:=((oS s i).1)) rfl rfl (fK P 5 ?_))
   refine mv (v:=((oS s i).1)) rfl rfl ?_
   have br:=((B.get (fJ s.live i).v i).2 ⟨(F.inc (fJ s.live i).v i).2 ⟨hi,.inr rfl⟩,fun e=>absurd e.symm bY⟩)
   obtain⟨q,aJ,aK,bs⟩:=Jg br (B.nd F.nd _)
   have bt:q<(gA (oS s i).2).length:=(zj.1 aK).1
   have aL:(gA (oS s i).2).length<=1000000:=by rw[gA,zu];exact k7 (inc_le F B _) d_
   refine fK P 1 ?_
   refine cl IX (Jl ((oS s i).1) (gA (oS s i).2) (i:Int) q bq (w6 P (i:=0) rfl (J3 (by rw[gA,zu]at aL;exact fun j hj=>Jj F (fun _ h=>((B.get _ _).1 h).1) hj))).any aL aK bs) ?_
   rintro _ bu ⟨rfl,bv⟩
   have Q:=yq P bv
   refine fK Q 6 ?_
   refine cmp rfl rfl rfl (nX o_) (fK Q 4 ?_)
   refine mv (v:=((oS s i).1)) rfl rfl (fK Q 2 ?_)
   refine ar (e:=((q+1:Nat):Int)) rfl rfl rfl rfl iZ (cl IY (IE ((oS s i).1) (gA (oS s i).2) bu q (ye Q 0 rfl) bt) ?_)
   rintro I bR ht
   have b1:=yk 0 Q ht
   rw[J2]at b1
   have J:=b1
   refine fK J 7 ?_
   refine jA (m:=(gA ((oS s i).2.eraseIdx q)).length) 0 rfl rfl yd J rfl ?_
   by_cases aM:((((gA ((oS s i).2.eraseIdx q)).length:Nat):Int):Int)>(0:Int)
   . have bw:(oS s i).2.eraseIdx q≠[]:=by intro e9;have T:=@aM;rw[e9]at T;simp[gA]at T
     refine fK J 12 ?_
     refine qT (a:=(fJ s.live i).v) (c:=(I,(oS s i).2.eraseIdx q)) (mm:=(uB s i)) (enc:=p_) (k:=.u64) (L' := [ig .i64 I 3 (gA ((oS s i).2.eraseIdx q)),jE 3 (Ah s i),blk D 107 (Z9 (fJ s.live i)),blk ub 143 (pM fN fL s (some s.mb)),fM Lv.cells s.lv 107 7 (fO s.live i (fun _=>(⟨0,0,0,0,0,0,0⟩:Lv))),gZ s.mb .u64 p_ (Ef s i I q),(AW.R s.je g),(Ab s z),blk C 107 nw]) 5 rfl rfl rfl rfl yv yj J rfl rfl ?_
     intro bS aN
     have aO:=zF aN
     have aP:mu (uB s i) z (Ef s i I q) z (fJ s.live i).v i:=mu.keep (B.nd F.nd _) aJ bw
     refine fQ aN 10 ?_
     refine tN (?_)
     refine iE (fR aO 15 ?_)
     refine j8 7 aO (fun bT ai=>?_)
     refine fQ ai 4 ?_
     refine oc (v:=(zV (fJ s.live i))) (v' := Zc) GU (nM (cs:=(Z9 (fJ s.live i))) rfl wY rfl nO rfl (lN ai (i:=7) (o:=0) (vs:=(Z9 (fJ s.live i))) rfl rfl)) (oK rfl) ?_
     have aQ:=yg [2,3,4,0,5,6,1,7] ai
     have bW:=(yy aQ (i:=5) rfl:z.ok)
     have bk:=F.rem hi S bX bW B aP (lv2:=s.lv) (ls:=fO s.live i (fun _=>(⟨0,0,0,0,0,0,0⟩:Lv))) rfl
     exact⟨(⟨s.je,s.tb,s.ab,s.mb,s.lv,s.last,g,z,fO s.live i (fun _=>(⟨0,0,0,0,0,0,0⟩:Lv)),(Ef s i I q)⟩:fV),rfl,⟨bk.2,rfl,aP.xY V.2.2.2.2 (TW.Kp.refl _)⟩,yo (yp (p:=fV.ok fN fL (⟨s.je,s.tb,s.ab,s.mb,s.lv,s.last,g,z,fO s.live i (fun _=>(⟨0,0,0,0,0,0,0⟩:Lv)),(Ef s i I q)⟩:fV)) (yc [_,_,_,_,_,_] _ aQ) bk.1) zd⟩
   . have bx:(oS s i).2.eraseIdx q=[]:=by have T:=@aM;simp only[gA,zu]at T;exact ug o_
     have bz:=yg [1,2,3,4,5,6,7,8] J
     refine fK J 13 ?_
     refine Cq (a:=(fJ s.live i).v) (mm:=(uB s i)) (enc:=p_) (k:=.u64) (L' := [jE 3 (Ah s i),blk D 107 (Z9 (fJ s.live i)),blk ub 143 (pM fN fL s (some s.mb)),fM Lv.cells s.lv 107 7 (fO s.live i (fun _=>(⟨0,0,0,0,0,0,0⟩:Lv))),gZ s.mb .u64 p_ (Ah s i),(AW.R s.je g),(Ab s z),blk C 107 nw]) 4 rfl rfl rfl yv yj bz rfl rfl ?_
     intro bA aj
     obtain⟨bB,bC,bD⟩:=((B.mem (fJ s.live i).v).2 ⟨(F.mem (fJ s.live i).v).2 ⟨i,hi,.inr rfl⟩,fun e=>absurd e.symm bY⟩)
     refine fK aj 8 ?_
     refine cl IZ (K9 s.tb s.ab z bA (ye aj 6 rfl) (fJ s.live i).v bB bC bD) ?_
     rintro _ bU ⟨X,rfl,ak,ht⟩
     have al:=yk 6 aj ht
     have aR:mu (uB s i) z (Ah s i) X (fJ s.live i).v i:=mu.drop (B.keys F.keys) (B.nd F.nd _) aJ bx ak.1 ak.2.1
     refine fQ al 7 ?_
     refine tN (?_)
     refine iE (fR al 15 ?_)
     refine j8 7 al (fun bV am=>?_)
     refine fQ am 4 ?_
     refine oc (v:=(zV (fJ s.live i))) (v' := Zc) GU (nM (cs:=(Z9 (fJ s.live i))) rfl wY rfl nO rfl (lN am (i:=7) (o:=0) (vs:=(Z9 (fJ s.live i))) rfl rfl)) (oK rfl) ?_
     have aS:=yg [2,3,4,0,5,6,1,7] am
     have bW:=(yy aS (i:=5) rfl:X.ok)
     have bk:=F.rem hi S bX bW B aR (lv2:=s.lv) (ls:=fO s.live i (fun _=>(⟨0,0,0,0,0,0,0⟩:Lv))) rfl
     exact⟨(⟨s.je,s.tb,s.ab,s.mb,s.lv,s.last,g,X,fO s.live i (fun _=>(⟨0,0,0,0,0,0,0⟩:Lv)),(Ah s i)⟩:fV),rfl,⟨bk.2,rfl,aR.xY V.2.2.2.2 ak.2.2.2.2⟩,yo (yp (p:=fV.ok fN fL (⟨s.je,s.tb,s.ab,s.mb,s.lv,s.last,g,X,fO s.live i (fun _=>(⟨0,0,0,0,0,0,0⟩:Lv)),(Ah s i)⟩:fV)) (yc [_,_,_,_,_,_] _ aS) bk.1) zd⟩
end
section
open Go Go.Sx
theorem afz(fN fL:Nat)(w:World)(hv:fN<=4096)(I:fL<=16384) :
 CR ya 62 #[(Za fN),(Za fL),sK] w (fun r w' => ∃ (ub:Nat) (s:fV),r = .tuple (Z2 ub)/\((∀ y,¬ s.has y)/\s.last=0)/\fZ (gq []) w w' (fV.R fN fL ub s)):=by
 refine en Tryz.func62 Tryz.ntmps62 ?_
 have F:=yt w
 refine fR F 10 ?_
 refine cmp rfl rfl rfl (k8 o_) (fK F 2 ?_)
 refine cmp rfl rfl rfl (qn o_) (fK F 3 ?_)
 refine cmp rfl rfl rfl (k8 o_) (fK F 3 ?_)
 refine cmp rfl rfl rfl (qn o_) (fK F 13 ?_)
 refine cl Pe (Ui fL w o_) ?_
 rintro _ o ⟨a,f,rfl,q,G⟩
 have h:=(kf F G)
 refine fK h 20 ?_
 refine cl WA (afh fN o o_) ?_
 rintro _ z ⟨b,d,e,rfl,j,G⟩
 have k:=(kf h G)
 refine fK k 24 ?_
 refine mkV p_ .u64 rfl rfl k (fun c A B C t=>jh (pvs:=[(0,(Za fN)),(1,(Za fL)),(2,sK),(3,(Zb a)),(4,(Zb b)),(6,(.map (some c)))]) (v:=.agg #[(Za fN),(Za fL),sK,(Zb a),(Zb b),Zg,(.map (some c))]) rfl rfl (jx [(0,(Ze fN)),(1,(Ze fL)),(2,B1),(3,(Zi a)),(4,(Zi b)),(6,[(.map (some c))])] Tq acJ rfl ⟨rfl,rfl,rfl,rfl,rfl,rfl,rfl,rfl,rfl,rfl,rfl,rfl,trivial⟩ rfl) (iz t (fun g l D E m=>?_)))
 refine fQ m 5 ?_
 refine iF (v:=(Zb g)) (v' := Zc) Tryz.results62 rfl rfl ?_
 have u:St _ [fM Lv.cells Zg 107 7 ([]),blk g 143 (M1 fN fL a b (some c)),gZ c .u64 p_ ([]),(TW.R b d e),(AW.R a f)] l:=rq m 107 7
 have x:St _ [jE 3 [],fM Lv.cells Zg 107 7 ([]),blk g 143 (M1 fN fL a b (some c)),gZ c .u64 p_ ([]),(TW.R b d e),(AW.R a f)] l:=St.I3 u
 have n:=yg [2,1,3,0,5,4] x
 have J:=(yy n (i:=5) rfl:e.ok)
 have H:=fV.tP q J j.1 j.2.1 I hv a b d c
 exact⟨g,(⟨a,b,d,c,.slice none 0 0,0,f,e,[],[]⟩:fV),rfl,⟨H.2,rfl⟩,vj (yp (p:=fV.ok fN fL (⟨a,b,d,c,.slice none 0 0,0,f,e,[],[]⟩:fV)) (yc [_,_,_,_,_,_] _ n) H.1) s_⟩
end
section
open Go Go.Sx
theorem aem(fb nb m:Nat)(ed:Int)(xs:List Nd)(w:World)(g:(Ag fb nb m ed).holds w)(f:(blk nb 192 (xs.flatMap Nd.cells)).holds w)(hm:xs.length=m)(hb:m<=1000001)(e:gf xs)(i:Nat)(hi:i<m) :
 CR ya 174 (Zm fb i) w (fun r w' => r = .tuple (Z7 ((jH xs i).1:Int) ((jH xs i).2))/\gz [] w w'):=by
 have h:=e.up i o_
 refine en Tryz.func174 Tryz.ntmps174 ?_
 have d:=yt w
 refine fR d 23 ?_
 by_cases a:(((fJ xs i).up:Int):Int)=(0:Int)
 . refine fQ d 12 ?_
   refine iF (v:=Zc) (v' := Zn) G6 rfl rfl ?_
   exact⟨by simp only[jH];(repeat' split)<;>(first|rfl|omega),d.gC s_⟩
 . refine fK d 14 ?_
   refine jm (o' := ((fJ xs i).up)*9+0) (i:=((fJ xs i).up:Int)) rfl rfl rfl yh jj o_ o_ (gJ d 6 ?_)
   refine ri 3 (iE (fR d 14 ?_))
   refine mC (i:=0) rfl rfl rfl ym yf rfl gy d_ rfl (fK d 8 ?_)
   by_cases b:(((fJ xs ((fJ xs i).up)).k0:Int):Int)=((i:Int):Int)
   . refine fQ d 17 ?_
     refine iF (v:=Zc) (v' := Zf) G6 rfl rfl ?_
     exact⟨by simp only[jH];(repeat' split)<;>(first|rfl|omega),d.gC s_⟩
   . refine fQ d 11 ?_
     refine tN (?_)
     refine iE (fR d 14 ?_)
     refine mC (i:=1) rfl rfl rfl ym yf rfl gy d_ rfl (fK d 8 ?_)
     by_cases c:(((fJ xs ((fJ xs i).up)).k1:Int):Int)=((i:Int):Int)
     . refine fQ d 17 ?_
       refine iF (v:=qD) (v' := Zf) G6 rfl rfl ?_
       exact⟨by simp only[jH];(repeat' split)<;>(first|rfl|omega),d.gC s_⟩
     . refine fQ d 11 ?_
       refine tN (?_)
       refine iE (iP d 19 ?_)
       refine iF (v:=Zc) (v' := Zn) G6 rfl rfl ?_
       exact⟨by simp only[jH];(repeat' split)<;>(first|rfl|omega),d.gC s_⟩
theorem EF(fb nb m:Nat)(ed:Int)(xs:List Nd)(w:World)(k:(Ag fb nb m ed).holds w)(h:(blk nb 192 (xs.flatMap Nd.cells)).holds w)(hm:xs.length=m)(hb:m<=1000001)(g:gf xs)(i j:Nat)(hi:i<m)(l:j<m) :
 CR ya 178 (Zr fb i j) w (fun r w' => r = .bool (kT xs i j)/\gz [] w w'):=by
 refine en Tryz.func178 Tryz.ntmps178 ?_
 have f:=yt w
 refine qu f 31 fun b a=>?_
 by_cases c:((fJ xs i).key:Int)<((fJ xs j).key:Int)
 . refine fQ a 15 ?_
   refine gp (v:=Zf) GQ rfl ?_
   exact⟨E6 ((decide_eq_true o_).symm),a.gC s_⟩
 . refine fK a 4 ?_
   by_cases d:((fJ xs i).key:Int)=((fJ xs j).key:Int)
   . refine fK a 4 ?_
     by_cases e:((i:Int):Int)<((j:Int):Int)
     . refine fQ a 7 ?_
       refine gp (v:=Zf) GQ rfl ?_
       exact⟨E6 ((decide_eq_true o_).symm),a.gC s_⟩
     . refine fQ a 7 ?_
       refine gp (v:=Zn) GQ rfl ?_
       exact⟨E6 ((decide_eq_false o_).symm),a.gC s_⟩
   . refine fQ a 11 ?_
     refine gp (v:=Zn) GQ rfl ?_
     exact⟨E6 ((decide_eq_false o_).symm),a.gC s_⟩
theorem rQ(fb nb m:Nat)(ed:Int)(xs:List Nd)(w:World)(p:Own (Zk fb nb m ed xs) w)(hm:xs.length=m)(hb:m<=1000001)(q:gf xs)(i k:Nat)(hi:i<m)(hk:k<m) :
 CR ya 202 #[(Zb fb),(Za i),Zc,(Za k)] w (fun r w' => r = .tuple #[]/\fZ (Zk fb nb m ed xs) w w' (Zk fb nb m ed (iU xs i 0 k))):=by
 refine en Tryz.func202 Tryz.ntmps202 ?_
 have n:=(yr p).unpack
 refine fR n 11 ?_
 refine jM (o:=i*9+0) (o' := i*9+0) (i:=0) rfl rfl rfl ym gy d_ rfl (jZ (f:=(fun x:Nd=>{ x with k0:=k })) 1 n (fun c a d=>?_))
 refine fK a 5 ?_
 by_cases e:((k:Int):Int)=(0:Int)
 . refine fQ a 5 ?_
   refine i6 GS ?_
   have l:iU xs i 0 k=fO xs i (fun x=>{ x with k0:=k }):=by simp only[iU,reduceIte,DM];(repeat' split)<;>(first|rfl|omega)
   have j:=a
   rw[<-l]at j
   exact⟨rfl,yn (yc [_,_] [] j)⟩
 . refine fK a 13 ?_
   refine jZ (f:=(fun x:Nd=>{ x with up:=i })) 1 a (fun g b h=>?_)
   refine fQ b 1 ?_
   refine i6 GS ?_
   have l:iU xs i 0 k=fO (fO xs i (fun x=>{ x with k0:=k })) k (fun x=>{ x with up:=i }):=by simp only[iU,reduceIte,DM];(repeat' split)<;>(first|rfl|omega)
   have j:=b
   rw[<-l]at j
   exact⟨rfl,yn (yc [_,_] [] j)⟩
theorem rR(fb nb m:Nat)(ed:Int)(xs:List Nd)(w:World)(p:Own (Zk fb nb m ed xs) w)(hm:xs.length=m)(hb:m<=1000001)(q:gf xs)(i k:Nat)(hi:i<m)(hk:k<m) :
 CR ya 202 #[(Zb fb),(Za i),qD,(Za k)] w (fun r w' => r = .tuple #[]/\fZ (Zk fb nb m ed xs) w w' (Zk fb nb m ed (iU xs i 1 k))):=by
 refine en Tryz.func202 Tryz.ntmps202 ?_
 have n:=(yr p).unpack
 refine fR n 11 ?_
 refine jM (o:=i*9+0) (o' := i*9+1) (i:=1) rfl rfl rfl ym gy d_ rfl (jZ (f:=(fun x:Nd=>{ x with k1:=k })) 1 n (fun c a d=>?_))
 refine fK a 5 ?_
 by_cases e:((k:Int):Int)=(0:Int)
 . refine fQ a 5 ?_
   refine i6 GS ?_
   have l:iU xs i 1 k=fO xs i (fun x=>{ x with k1:=k }):=by simp only[iU,reduceIte,DM];(repeat' split)<;>(first|rfl|omega)
   have j:=a
   rw[<-l]at j
   exact⟨rfl,yn (yc [_,_] [] j)⟩
 . refine fK a 13 ?_
   refine jZ (f:=(fun x:Nd=>{ x with up:=i })) 1 a (fun g b h=>?_)
   refine fQ b 1 ?_
   refine i6 GS ?_
   have l:iU xs i 1 k=fO (fO xs i (fun x=>{ x with k1:=k })) k (fun x=>{ x with up:=i }):=by simp only[iU,reduceIte,DM];(repeat' split)<;>(first|rfl|omega)
   have j:=b
   rw[<-l]at j
   exact⟨rfl,yn (yc [_,_] [] j)⟩
theorem Ku(fb nb m:Nat)(ed:Int)(xs:List Nd)(w:World)(hO:Own (Zk fb nb m ed xs) w)(hm:xs.length=m)(hb:m<=1000001)(hI:gf xs)(i:Nat)(hi:i<m) :
 CR ya 176 (Zm fb i) w (fun r w' => r = .tuple #[]/\fZ (Zk fb nb m ed xs) w w' (Zk fb nb m ed (jX xs i))):=by
 refine en Tryz.func176 Tryz.ntmps176 ?_
 have aq:=(yr hO).unpack
 refine fR aq 7 ?_
 refine jm (o' := i*9+0) (i:=(i:Int)) rfl rfl rfl yh jj om o_ (gJ aq 13 ?_)
 cases P:((fJ xs i).flip:Bool)
 . skip
   refine iP aq 3 ?_
   refine A8 DJ ?_
   have T:jX xs i=xs:=by simp only[jX];(repeat' split)<;>(first|rfl|omega|simp_all)
   have F:=aq
   rw[<-T]at F
   exact⟨rfl,yn (yc [_,_] [] F)⟩
 . skip
   refine fR aq 8 ?_
   refine jZ (f:=(fun x:Nd=>{ x with flip:=false })) 1 aq (fun Q C R=>?_)
   have n:gf (fO xs i (fun x=>{ x with flip:=false })):=gf.iN hI om (fun x a b c d e=>⟨a,b,c,d,e⟩)
   obtain⟨p,y,S,n,C⟩:=iG (m:=m) n C
   refine gO C 9 fun U D=>?_
   refine jM (o:=i*9+0) (o' := i*9+1) (i:=1) rfl rfl rfl ym gy d_ rfl (fK D 4 ?_)
   refine jM (o:=i*9+0) (o' := i*9+0) (i:=0) rfl rfl rfl ym gy d_ rfl (fK D 3 ?_)
   refine jM (o:=i*9+0) (o' := i*9+0) (i:=0) rfl rfl rfl ym gy d_ rfl (jZ (f:=(fun x:Nd=>{ x with k0:=((fJ p i).k1) })) 1 D (fun V z W=>?_))
   have E:gf (fO p i (fun x=>{ x with k0:=((fJ p i).k1) })):=gf.iN n om (fun x a b c d e=>⟨(o9 (n.k1 i om)),b,c,d,e⟩)
   obtain⟨K,A,X,E,z⟩:=iG (m:=m) E z
   refine fK z 2 ?_
   refine jM (o:=i*9+0) (o' := i*9+1) (i:=1) rfl rfl rfl ym gy d_ rfl (jZ (f:=(fun x:Nd=>{ x with k1:=((fJ p i).k0) })) 1 z (fun Y j Z=>?_))
   have h:gf (fO K i (fun x=>{ x with k1:=((fJ p i).k0) })):=gf.iN E om (fun x a b c d e=>⟨a,(o9 (n.k0 i om)),c,d,e⟩)
   obtain⟨g,B,aa,h,j⟩:=iG (m:=m) h j
   refine gJ j 12 ?_
   refine ri 3 (iE (fR j 13 ?_))
   refine mC (i:=0) rfl rfl rfl ym yf rfl gy d_ rfl (fK j 6 ?_)
   by_cases ab:(((fJ g i).k0:Int):Int)=(0:Int)
   . refine fQ j 11 ?_
     refine tN (?_)
     refine iE (fR j 13 ?_)
     refine mC (i:=1) rfl rfl rfl ym yf rfl gy d_ rfl (fK j 6 ?_)
     by_cases ac:(((fJ g i).k1:Int):Int)=(0:Int)
     . refine fQ j 11 ?_
       refine tN (?_)
       refine iE (iP j 11 ?_)
       refine i6 DJ ?_
       have T:jX xs i=g:=by subst B;subst A;subst y;simp only[jX];(repeat' split)<;>(first|rfl|omega|simp_all)
       have F:=j
       rw[<-T]at F
       exact⟨rfl,yn (yc [_,_] [] F)⟩
     . refine gO j 15 fun ad q=>?_
       refine jm (o' := ((fJ g i).k1)*9+0) (i:=((fJ g i).k1:Int)) rfl rfl rfl yh jj (o9 (show ((fJ g i).k1)<(g).length from(o9 (h.k1 i om)))) o_ (fK q 1 ?_)
       refine ld rfl rfl yz rfl (mL q (i:=1) rfl f_ (o9 (h.k1 i om)) rfl) (fK q 1 ?_)
       refine jm (o' := ((fJ g i).k1)*9+0) (i:=((fJ g i).k1:Int)) rfl rfl rfl yh jj (o9 (show ((fJ g i).k1)<(g).length from(o9 (h.k1 i om)))) o_ (fK q 1 ?_)
       refine jZ (f:=(fun x:Nd=>{ x with flip := !((fJ g ((fJ g i).k1)).flip) })) 1 q (fun ae s af=>?_) (hk:=(o9 (h.k1 i om)))
       have H:gf (fO g ((fJ g i).k1) (fun x=>{ x with flip := !((fJ g ((fJ g i).k1)).flip) })):=gf.iN h (o9 (h.k1 i om)) (fun x a b c d e=>⟨a,b,c,d,e⟩)
       obtain⟨L,M,ag,H,s⟩:=iG (m:=m) H s
       refine fQ s 7 ?_
       refine tN (?_)
       refine iE (iP s 11 ?_)
       refine i6 DJ ?_
       have T:jX xs i=L:=by subst M;subst B;subst A;subst y;simp only[jX];(repeat' split)<;>(first|rfl|omega|simp_all)
       have F:=s
       rw[<-T]at F
       exact⟨rfl,yn (yc [_,_] [] F)⟩
   . refine gO j 15 fun ah t=>?_
     refine jm (o' := ((fJ g i).k0)*9+0) (i:=((fJ g i).k0:Int)) rfl rfl rfl yh jj (o9 (show ((fJ g i).k0)<(g).length from(o9 (h.k0 i om)))) o_ (fK t 1 ?_)
     refine ld rfl rfl yz rfl (mL t (i:=1) rfl f_ (o9 (h.k0 i om)) rfl) (fK t 1 ?_)
     refine jm (o' := ((fJ g i).k0)*9+0) (i:=((fJ g i).k0:Int)) rfl rfl rfl yh jj (o9 (show ((fJ g i).k0)<(g).length from(o9 (h.k0 i om)))) o_ (fK t 1 ?_)
     refine jZ (f:=(fun x:Nd=>{ x with flip := !((fJ g ((fJ g i).k0)).flip) })) 1 t (fun ai k aj=>?_) (hk:=(o9 (h.k0 i om)))
     have G:gf (fO g ((fJ g i).k0) (fun x=>{ x with flip := !((fJ g ((fJ g i).k0)).flip) })):=gf.iN h (o9 (h.k0 i om)) (fun x a b c d e=>⟨a,b,c,d,e⟩)
     obtain⟨l,I,ak,G,k⟩:=iG (m:=m) G k
     refine fQ k 7 ?_
     refine tN (?_)
     refine iE (fR k 13 ?_)
     refine mC (i:=1) rfl rfl rfl ym yf rfl gy d_ rfl (fK k 6 ?_)
     by_cases al:(((fJ g i).k1:Int):Int)=(0:Int)
     . refine fQ k 11 ?_
       refine tN (?_)
       refine iE (iP k 11 ?_)
       refine i6 DJ ?_
       have T:jX xs i=l:=by subst I;subst B;subst A;subst y;simp only[jX];(repeat' split)<;>(first|rfl|omega|simp_all)
       have F:=k
       rw[<-T]at F
       exact⟨rfl,yn (yc [_,_] [] F)⟩
     . refine gO k 15 fun am u=>?_
       refine jm (o' := ((fJ g i).k1)*9+0) (i:=((fJ g i).k1:Int)) rfl rfl rfl yh jj (o9 (show ((fJ g i).k1)<(l).length from(o9 (h.k1 i om)))) o_ (fK u 1 ?_)
       refine ld rfl rfl yz rfl (mL u (i:=1) rfl f_ (o9 (h.k1 i om)) rfl) (fK u 1 ?_)
       refine jm (o' := ((fJ g i).k1)*9+0) (i:=((fJ g i).k1:Int)) rfl rfl rfl yh jj (o9 (show ((fJ g i).k1)<(l).length from(o9 (h.k1 i om)))) o_ (fK u 1 ?_)
       refine jZ (f:=(fun x:Nd=>{ x with flip := !((fJ l ((fJ g i).k1)).flip) })) 1 u (fun an v ao=>?_) (hk:=(o9 (h.k1 i om)))
       have J:gf (fO l ((fJ g i).k1) (fun x=>{ x with flip := !((fJ l ((fJ g i).k1)).flip) })):=gf.iN G (o9 (h.k1 i om)) (fun x a b c d e=>⟨a,b,c,d,e⟩)
       obtain⟨N,O,ap,J,v⟩:=iG (m:=m) J v
       refine fQ v 7 ?_
       refine tN (?_)
       refine iE (iP v 11 ?_)
       refine i6 DJ ?_
       have T:jX xs i=N:=by subst O;subst I;subst B;subst A;subst y;simp only[jX];(repeat' split)<;>(first|rfl|omega|simp_all)
       have F:=v
       rw[<-T]at F
       exact⟨rfl,yn (yc [_,_] [] F)⟩
end
section
open Go Go.Sx
theorem lW(fb nb m:Nat)(ed:Int)(xs:List Nd)(w:World)(hO:Own (Zk fb nb m ed xs) w)(hm:xs.length=m)(hb:m<=1000001)(hI:gf xs)(i:Nat)(hi:i<m) :
 CR ya 138 (Zm fb i) w (fun r w' => r = .tuple #[]/\fZ (Zk fb nb m ed xs) w w' (Zk fb nb m ed (iH xs i))):=by
 refine en Tryz.func138 Tryz.ntmps138 ?_
 have bU:=(yr hO).unpack
 refine fR bU 7 ?_
 refine jm (o' := i*9+0) (i:=(i:Int)) rfl rfl rfl yh jj om o_ (fK bU 13 ?_)
 refine ar (e:=(IntKind.i64.wrap (1+(fJ xs i).iL))) rfl rfl rfl rfl rfl (fK bU 2 ?_)
 refine jZ (f:=(fun x:Nd=>{ x with size:=1 })) 1 bU (fun aW az aX=>?_)
 have aH:gf (fO xs i (fun x=>{ x with size:=1 })):=gf.iN hI om (fun x a b c d e=>⟨a,b,c,d,e⟩)
 refine fK az 2 ?_
 refine jZ (f:=(fun x:Nd=>{ x with first:=i })) 1 az (fun aY aA aZ=>?_)
 have aI:gf (fO (fO xs i (fun x=>{ x with size:=1 })) i (fun x=>{ x with first:=i })):=gf.iN aH om (fun x a b c d e=>⟨a,b,c,om,e⟩)
 refine fK aA 2 ?_
 refine jZ (f:=(fun x:Nd=>{ x with total:=(IntKind.i64.wrap (1+(fJ xs i).iL)) })) 1 aA (fun a0 aB a1=>?_)
 have aJ:gf (fO (fO (fO xs i (fun x=>{ x with size:=1 })) i (fun x=>{ x with first:=i })) i (fun x=>{ x with total:=(IntKind.i64.wrap (1+(fJ xs i).iL)) })):=gf.iN aI om (fun x a b c d e=>⟨a,b,c,d,e⟩)
 obtain⟨y,hy⟩:∃ y,y=fO xs i (fun x=>{ x with size:=1,first:=i,total:=IntKind.i64.wrap (1+x.iL) }):=⟨_,rfl⟩
 have bk:=aB
 have F:=aJ
 refine fK aB 4 ?_
 rw[adp o_,<-hy]at bk F
 have bV:y.length=m:=by rw[hy,gB,hm]
 refine gJ bk 8 ?_
 refine ri 3 (iE (fR bk 13 ?_))
 refine mC (i:=0) rfl rfl rfl ym yf rfl gy d_ rfl (fK bk 7 ?_)
 by_cases a2:(((fJ y i).k0:Int):Int)=(0:Int)
 . refine fQ bk 12 ?_
   refine tN (?_)
   refine iE (fR bk 13 ?_)
   refine mC (i:=1) rfl rfl rfl ym yf rfl gy d_ rfl (fK bk 7 ?_)
   by_cases a3:(((fJ y i).k1:Int):Int)=(0:Int)
   . refine fQ bk 12 ?_
     refine tN (?_)
     refine iE (iP bk 11 ?_)
     refine i6 vh ?_
     have e9:iH xs i=y:=by rw[uY hy o_];first|(rw[tV (k:=(fJ y i).k0) o_];rw[tV (k:=(fJ y i).k1) o_])
     have T:=bk
     rw[<-e9]at T
     exact⟨rfl,yn (yc [_,_] [] T)⟩
   . refine fK bk 13 ?_
     refine jm (o' := ((fJ y i).k1)*9+0) (i:=((fJ y i).k1:Int)) rfl rfl rfl yh jj (o9 (show ((fJ y i).k1)<(y).length from(o9 (F.k1 i om)))) o_ (gO bk 12 fun a4 V=>?_)
     refine ld rfl rfl yf rfl (mL V (i:=1) rfl f_ (o9 (F.k1 i om)) rfl) (ar (e:=(IntKind.i64.wrap ((fJ y i).size+(fJ y ((fJ y i).k1)).size))) rfl rfl rfl rfl rfl (fK V 2 ?_))
     refine jZ (f:=(fun x:Nd=>{ x with size:=(IntKind.i64.wrap ((fJ y i).size+(fJ y ((fJ y i).k1)).size)) })) 1 V (fun a5 W a6=>?_)
     have X:gf (fO y i (fun x=>{ x with size:=(IntKind.i64.wrap ((fJ y i).size+(fJ y ((fJ y i).k1)).size)) })):=gf.iN F om (fun x a b c d e=>⟨a,b,c,d,e⟩)
     obtain⟨B,R,a7,X,W⟩:=iG (m:=m) X W
     refine gO W 11 fun a8 Y=>?_
     refine ld rfl rfl yf rfl (mL Y (i:=1) rfl f_ (o9 (F.k1 i om)) rfl) (ar (e:=(IntKind.i64.wrap ((fJ B i).total+(fJ B ((fJ y i).k1)).total))) rfl rfl rfl rfl rfl (fK Y 2 ?_))
     refine jZ (f:=(fun x:Nd=>{ x with total:=(IntKind.i64.wrap ((fJ B i).total+(fJ B ((fJ y i).k1)).total)) })) 1 Y (fun a9 Z ba=>?_)
     have C:gf (fO B i (fun x=>{ x with total:=(IntKind.i64.wrap ((fJ B i).total+(fJ B ((fJ y i).k1)).total)) })):=gf.iN X om (fun x a b c d e=>⟨a,b,c,d,e⟩)
     obtain⟨j,S,bb,C,Z⟩:=iG (m:=m) C Z
     refine gO Z 8 fun aK J=>?_
     refine ld rfl rfl yf rfl (mL J (i:=1) rfl f_ (o9 (F.k1 i om)) rfl) (fK J 4 ?_)
     refine cl EY (EF fb nb m ed j aK (J.at (i:=0) rfl) (J.at (i:=1) rfl) oa hb C ((fJ j ((fJ y i).k1)).first) ((fJ j i).first) (o9 (C.first ((fJ y i).k1) (o9 (F.k1 i om)))) (o9 (C.first i om))) ?_
     rintro _ bc ⟨rfl,aL⟩
     have u:=yq J aL
     refine gJ u 2 ?_
     cases U:(kT j ((fJ j ((fJ y i).k1)).first) ((fJ j i).first):Bool)
     . skip
       refine iP u 8 ?_
       refine tN (?_)
       refine iE (iP u 11 ?_)
       refine i6 vh ?_
       have e9:iH xs i=j:=by rw[uY hy o_];first|(rw[tV (k:=(fJ y i).k0) o_];rw[tT (k:=(fJ y i).k1) o_ R S U])|(rw[tT (k:=(fJ y i).k0) o_ R S U];rw[tV (k:=(fJ y i).k1) o_])
       have T:=u
       rw[<-e9]at T
       exact⟨rfl,yn (yc [_,_] [] T)⟩
     . skip
       refine fR u 6 ?_
       refine ld rfl rfl yf rfl (mL u (i:=1) rfl f_ (o9 (F.k1 i om)) rfl) (fK u 2 ?_)
       refine jZ (f:=(fun x:Nd=>{ x with first:=((fJ j ((fJ y i).k1)).first) })) 1 u (fun bd K be=>?_)
       have aC:gf (fO j i (fun x=>{ x with first:=((fJ j ((fJ y i).k1)).first) })):=gf.iN C om (fun x a b c d e=>⟨a,b,c,(o9 (C.first ((fJ y i).k1) (o9 (F.k1 i om)))),e⟩)
       obtain⟨aM,aD,bf,aC,K⟩:=iG (m:=m) aC K
       refine fQ K 7 ?_
       refine tN (?_)
       refine iE (iP K 11 ?_)
       refine i6 vh ?_
       have e9:iH xs i=aM:=by rw[uY hy o_];first|(rw[tV (k:=(fJ y i).k0) o_];rw[tU (k:=(fJ y i).k1) o_ R S U aD])|(rw[tU (k:=(fJ y i).k0) o_ R S U aD];rw[tV (k:=(fJ y i).k1) o_])
       have T:=K
       rw[<-e9]at T
       exact⟨rfl,yn (yc [_,_] [] T)⟩
 . refine fK bk 13 ?_
   refine jm (o' := ((fJ y i).k0)*9+0) (i:=((fJ y i).k0:Int)) rfl rfl rfl yh jj (o9 (show ((fJ y i).k0)<(y).length from(o9 (F.k0 i om)))) o_ (gO bk 12 fun bg aa=>?_)
   refine ld rfl rfl yf rfl (mL aa (i:=1) rfl f_ (o9 (F.k0 i om)) rfl) (ar (e:=(IntKind.i64.wrap ((fJ y i).size+(fJ y ((fJ y i).k0)).size))) rfl rfl rfl rfl rfl (fK aa 2 ?_))
   refine jZ (f:=(fun x:Nd=>{ x with size:=(IntKind.i64.wrap ((fJ y i).size+(fJ y ((fJ y i).k0)).size)) })) 1 aa (fun bh ab bi=>?_)
   have ac:gf (fO y i (fun x=>{ x with size:=(IntKind.i64.wrap ((fJ y i).size+(fJ y ((fJ y i).k0)).size)) })):=gf.iN F om (fun x a b c d e=>⟨a,b,c,d,e⟩)
   obtain⟨D,l,bj,ac,ab⟩:=iG (m:=m) ac ab
   refine gO ab 11 fun bl ad=>?_
   refine ld rfl rfl yf rfl (mL ad (i:=1) rfl f_ (o9 (F.k0 i om)) rfl) (ar (e:=(IntKind.i64.wrap ((fJ D i).total+(fJ D ((fJ y i).k0)).total))) rfl rfl rfl rfl rfl (fK ad 2 ?_))
   refine jZ (f:=(fun x:Nd=>{ x with total:=(IntKind.i64.wrap ((fJ D i).total+(fJ D ((fJ y i).k0)).total)) })) 1 ad (fun bm ae bn=>?_)
   have v:gf (fO D i (fun x=>{ x with total:=(IntKind.i64.wrap ((fJ D i).total+(fJ D ((fJ y i).k0)).total)) })):=gf.iN ac om (fun x a b c d e=>⟨a,b,c,d,e⟩)
   obtain⟨g,n,bo,v,ae⟩:=iG (m:=m) v ae
   refine gO ae 8 fun aN L=>?_
   refine ld rfl rfl yf rfl (mL L (i:=1) rfl f_ (o9 (F.k0 i om)) rfl) (fK L 4 ?_)
   refine cl EY (EF fb nb m ed g aN (L.at (i:=0) rfl) (L.at (i:=1) rfl) oa hb v ((fJ g ((fJ y i).k0)).first) ((fJ g i).first) (o9 (v.first ((fJ y i).k0) (o9 (F.k0 i om)))) (o9 (v.first i om))) ?_
   rintro _ bp ⟨rfl,aO⟩
   have h:=yq L aO
   refine gJ h 2 ?_
   cases o:(kT g ((fJ g ((fJ y i).k0)).first) ((fJ g i).first):Bool)
   . skip
     refine iP h 8 ?_
     refine tN (?_)
     refine iE (fR h 13 ?_)
     refine mC (i:=1) rfl rfl rfl ym yf rfl gy d_ rfl (fK h 7 ?_)
     by_cases bq:(((fJ y i).k1:Int):Int)=(0:Int)
     . refine fQ h 12 ?_
       refine tN (?_)
       refine iE (iP h 11 ?_)
       refine i6 vh ?_
       have e9:iH xs i=g:=by rw[uY hy o_];first|(rw[tV (k:=(fJ y i).k0) o_];rw[tT (k:=(fJ y i).k1) o_ l n o])|(rw[tT (k:=(fJ y i).k0) o_ l n o];rw[tV (k:=(fJ y i).k1) o_])
       have T:=h
       rw[<-e9]at T
       exact⟨rfl,yn (yc [_,_] [] T)⟩
     . refine fK h 13 ?_
       refine jm (o' := ((fJ y i).k1)*9+0) (i:=((fJ y i).k1:Int)) rfl rfl rfl yh jj (o9 (show ((fJ y i).k1)<(g).length from(o9 (F.k1 i om)))) o_ (gO h 12 fun br af=>?_)
       refine ld rfl rfl yf rfl (mL af (i:=1) rfl f_ (o9 (F.k1 i om)) rfl) (ar (e:=(IntKind.i64.wrap ((fJ g i).size+(fJ g ((fJ y i).k1)).size))) rfl rfl rfl rfl rfl (fK af 2 ?_))
       refine jZ (f:=(fun x:Nd=>{ x with size:=(IntKind.i64.wrap ((fJ g i).size+(fJ g ((fJ y i).k1)).size)) })) 1 af (fun bs ag bt=>?_)
       have ah:gf (fO g i (fun x=>{ x with size:=(IntKind.i64.wrap ((fJ g i).size+(fJ g ((fJ y i).k1)).size)) })):=gf.iN v om (fun x a b c d e=>⟨a,b,c,d,e⟩)
       obtain⟨E,ai,bu,ah,ag⟩:=iG (m:=m) ah ag
       refine gO ag 11 fun bv aj=>?_
       refine ld rfl rfl yf rfl (mL aj (i:=1) rfl f_ (o9 (F.k1 i om)) rfl) (ar (e:=(IntKind.i64.wrap ((fJ E i).total+(fJ E ((fJ y i).k1)).total))) rfl rfl rfl rfl rfl (fK aj 2 ?_))
       refine jZ (f:=(fun x:Nd=>{ x with total:=(IntKind.i64.wrap ((fJ E i).total+(fJ E ((fJ y i).k1)).total)) })) 1 aj (fun bw ak bx=>?_)
       have G:gf (fO E i (fun x=>{ x with total:=(IntKind.i64.wrap ((fJ E i).total+(fJ E ((fJ y i).k1)).total)) })):=gf.iN ah om (fun x a b c d e=>⟨a,b,c,d,e⟩)
       obtain⟨p,al,bz,G,ak⟩:=iG (m:=m) G ak
       refine gO ak 8 fun aP M=>?_
       refine ld rfl rfl yf rfl (mL M (i:=1) rfl f_ (o9 (F.k1 i om)) rfl) (fK M 4 ?_)
       refine cl EY (EF fb nb m ed p aP (M.at (i:=0) rfl) (M.at (i:=1) rfl) oa hb G ((fJ p ((fJ y i).k1)).first) ((fJ p i).first) (o9 (G.first ((fJ y i).k1) (o9 (F.k1 i om)))) (o9 (G.first i om))) ?_
       rintro _ bA ⟨rfl,aQ⟩
       have z:=yq M aQ
       refine gJ z 2 ?_
       cases am:(kT p ((fJ p ((fJ y i).k1)).first) ((fJ p i).first):Bool)
       . skip
         refine iP z 8 ?_
         refine tN (?_)
         refine iE (iP z 11 ?_)
         refine i6 vh ?_
         have e9:iH xs i=p:=by rw[uY hy o_];first|(rw[tT (k:=(fJ y i).k0) o_ l n o];rw[tT (k:=(fJ y i).k1) o_ ai al am])
         have T:=z
         rw[<-e9]at T
         exact⟨rfl,yn (yc [_,_] [] T)⟩
       . skip
         refine fR z 6 ?_
         refine ld rfl rfl yf rfl (mL z (i:=1) rfl f_ (o9 (F.k1 i om)) rfl) (fK z 2 ?_)
         refine jZ (f:=(fun x:Nd=>{ x with first:=((fJ p ((fJ y i).k1)).first) })) 1 z (fun bB N bC=>?_)
         have aE:gf (fO p i (fun x=>{ x with first:=((fJ p ((fJ y i).k1)).first) })):=gf.iN G om (fun x a b c d e=>⟨a,b,c,(o9 (G.first ((fJ y i).k1) (o9 (F.k1 i om)))),e⟩)
         obtain⟨aR,aF,bD,aE,N⟩:=iG (m:=m) aE N
         refine fQ N 7 ?_
         refine tN (?_)
         refine iE (iP N 11 ?_)
         refine i6 vh ?_
         have e9:iH xs i=aR:=by rw[uY hy o_];first|(rw[tT (k:=(fJ y i).k0) o_ l n o];rw[tU (k:=(fJ y i).k1) o_ ai al am aF])|(rw[tU (k:=(fJ y i).k0) o_ l n o ai];rw[tT (k:=(fJ y i).k1) o_ al aF am])
         have T:=N
         rw[<-e9]at T
         exact⟨rfl,yn (yc [_,_] [] T)⟩
   . skip
     refine fR h 6 ?_
     refine ld rfl rfl yf rfl (mL h (i:=1) rfl f_ (o9 (F.k0 i om)) rfl) (fK h 2 ?_)
     refine jZ (f:=(fun x:Nd=>{ x with first:=((fJ g ((fJ y i).k0)).first) })) 1 h (fun bE q bF=>?_)
     have an:gf (fO g i (fun x=>{ x with first:=((fJ g ((fJ y i).k0)).first) })):=gf.iN v om (fun x a b c d e=>⟨a,b,c,(o9 (v.first ((fJ y i).k0) (o9 (F.k0 i om)))),e⟩)
     obtain⟨t,O,bG,an,q⟩:=iG (m:=m) an q
     refine fQ q 7 ?_
     refine tN (?_)
     refine iE (fR q 13 ?_)
     refine mC (i:=1) rfl rfl rfl ym yf rfl gy d_ rfl (fK q 7 ?_)
     by_cases bH:(((fJ y i).k1:Int):Int)=(0:Int)
     . refine fQ q 12 ?_
       refine tN (?_)
       refine iE (iP q 11 ?_)
       refine i6 vh ?_
       have e9:iH xs i=t:=by rw[uY hy o_];first|(rw[tV (k:=(fJ y i).k0) o_];rw[tU (k:=(fJ y i).k1) o_ l n o O])|(rw[tU (k:=(fJ y i).k0) o_ l n o O];rw[tV (k:=(fJ y i).k1) o_])
       have T:=q
       rw[<-e9]at T
       exact⟨rfl,yn (yc [_,_] [] T)⟩
     . refine fK q 13 ?_
       refine jm (o' := ((fJ y i).k1)*9+0) (i:=((fJ y i).k1:Int)) rfl rfl rfl yh jj (o9 (show ((fJ y i).k1)<(t).length from(o9 (F.k1 i om)))) o_ (gO q 12 fun bI ao=>?_)
       refine ld rfl rfl yf rfl (mL ao (i:=1) rfl f_ (o9 (F.k1 i om)) rfl) (ar (e:=(IntKind.i64.wrap ((fJ t i).size+(fJ t ((fJ y i).k1)).size))) rfl rfl rfl rfl rfl (fK ao 2 ?_))
       refine jZ (f:=(fun x:Nd=>{ x with size:=(IntKind.i64.wrap ((fJ t i).size+(fJ t ((fJ y i).k1)).size)) })) 1 ao (fun bJ ap bK=>?_)
       have aq:gf (fO t i (fun x=>{ x with size:=(IntKind.i64.wrap ((fJ t i).size+(fJ t ((fJ y i).k1)).size)) })):=gf.iN an om (fun x a b c d e=>⟨a,b,c,d,e⟩)
       obtain⟨H,au,bL,aq,ap⟩:=iG (m:=m) aq ap
       refine gO ap 11 fun bM av=>?_
       refine ld rfl rfl yf rfl (mL av (i:=1) rfl f_ (o9 (F.k1 i om)) rfl) (ar (e:=(IntKind.i64.wrap ((fJ H i).total+(fJ H ((fJ y i).k1)).total))) rfl rfl rfl rfl rfl (fK av 2 ?_))
       refine jZ (f:=(fun x:Nd=>{ x with total:=(IntKind.i64.wrap ((fJ H i).total+(fJ H ((fJ y i).k1)).total)) })) 1 av (fun bN aw bO=>?_)
       have I:gf (fO H i (fun x=>{ x with total:=(IntKind.i64.wrap ((fJ H i).total+(fJ H ((fJ y i).k1)).total)) })):=gf.iN aq om (fun x a b c d e=>⟨a,b,c,d,e⟩)
       obtain⟨s,ax,bP,I,aw⟩:=iG (m:=m) I aw
       refine gO aw 8 fun aS P=>?_
       refine ld rfl rfl yf rfl (mL P (i:=1) rfl f_ (o9 (F.k1 i om)) rfl) (fK P 4 ?_)
       refine cl EY (EF fb nb m ed s aS (P.at (i:=0) rfl) (P.at (i:=1) rfl) oa hb I ((fJ s ((fJ y i).k1)).first) ((fJ s i).first) (o9 (I.first ((fJ y i).k1) (o9 (F.k1 i om)))) (o9 (I.first i om))) ?_
       rintro _ bQ ⟨rfl,aT⟩
       have A:=yq P aT
       refine gJ A 2 ?_
       cases ay:(kT s ((fJ s ((fJ y i).k1)).first) ((fJ s i).first):Bool)
       . skip
         refine iP A 8 ?_
         refine tN (?_)
         refine iE (iP A 11 ?_)
         refine i6 vh ?_
         have e9:iH xs i=s:=by rw[uY hy o_];first|(rw[tT (k:=(fJ y i).k0) o_ l n o];rw[tU (k:=(fJ y i).k1) o_ O au ay ax])|(rw[tU (k:=(fJ y i).k0) o_ l n o O];rw[tT (k:=(fJ y i).k1) o_ au ax ay])
         have T:=A
         rw[<-e9]at T
         exact⟨rfl,yn (yc [_,_] [] T)⟩
       . skip
         refine fR A 6 ?_
         refine ld rfl rfl yf rfl (mL A (i:=1) rfl f_ (o9 (F.k1 i om)) rfl) (fK A 2 ?_)
         refine jZ (f:=(fun x:Nd=>{ x with first:=((fJ s ((fJ y i).k1)).first) })) 1 A (fun bR Q bS=>?_)
         have aG:gf (fO s i (fun x=>{ x with first:=((fJ s ((fJ y i).k1)).first) })):=gf.iN I om (fun x a b c d e=>⟨a,b,c,(o9 (I.first ((fJ y i).k1) (o9 (F.k1 i om)))),e⟩)
         obtain⟨aU,aV,bT,aG,Q⟩:=iG (m:=m) aG Q
         refine fQ Q 7 ?_
         refine tN (?_)
         refine iE (iP Q 11 ?_)
         refine i6 vh ?_
         have e9:iH xs i=aU:=by rw[uY hy o_];first|(rw[tU (k:=(fJ y i).k0) o_ l n o O];rw[tU (k:=(fJ y i).k1) o_ au ax ay aV])
         have T:=Q
         rw[<-e9]at T
         exact⟨rfl,yn (yc [_,_] [] T)⟩
end
section
open Go Go.Sx
theorem nh(fb nb m:Nat)(ed:Int)(xs:List Nd)(w:World)(c:(Ag fb nb m ed).holds w)(b:(blk nb 192 (xs.flatMap Nd.cells)).holds w)(hm:xs.length=m)(hb:m<=1000001)(a:gf xs)(i:Nat)(hi:i<m){s:Nat}{o:Bool}(d:jH xs i=(s,o)):CR ya 174 (Zm fb i) w (fun r w' => r = .tuple (Z7 s o)/\gz [] w w'):=by
 have h:=aem fb nb m ed xs w c b hm hb a i hi
 rw[d]at h
 exact h
theorem yM(fb nb m:Nat)(ed:Int)(xs:List Nd)(w:World)(hO:Own (Zk fb nb m ed xs) w)(hm:xs.length=m)(hb:m<=1000001)(F:gf xs)(i:Nat)(hi:i<m) :
 CR ya 177 (Zm fb i) w (fun r w' => r = .tuple #[]/\fZ (Zk fb nb m ed xs) w w' (Zk fb nb m ed (iK xs i))):=by
 have fL:=F.up i o_
 have fM:=F.up _ fL
 refine en Tryz.func177 Tryz.ntmps177 ?_
 have eT:=(yr hO).unpack
 refine fR eT 7 ?_
 refine jm (o' := i*9+0) (i:=(i:Int)) rfl rfl rfl yh jj om o_ (fK eT 12 ?_)
 refine jm (o' := ((fJ xs i).up)*9+0) (i:=((fJ xs i).up:Int)) rfl rfl rfl yh jj (o9 (show ((fJ xs i).up)<(xs).length from(o9 (F.up i om)))) o_ (fK eT 1 ?_)
 refine ld rfl rfl yf rfl (mL eT (i:=1) rfl f_ (o9 (F.up i om)) rfl) ?_
 obtain⟨cN,eE⟩:∃ q,Dp xs i=q:=⟨_,rfl⟩
 refine fK eT 7 ?_
 rcases cN with J|K|L
 . skip
   refine cl mT (nh fb nb m ed xs w (eT.at (i:=0) rfl) (eT.at (i:=1) rfl) oa hb F i o_ J) ?_
   rintro _ a9 ⟨rfl,cO⟩
   have g:=yq eT cO
   obtain⟨cP,eF⟩:∃ q,Dp xs ((fJ xs i).up)=q:=⟨_,rfl⟩
   refine fK g 12 ?_
   rcases cP with bf|bg|bh
   . skip
     refine cl mT (nh fb nb m ed xs a9 (g.at (i:=0) rfl) (g.at (i:=1) rfl) oa hb F ((fJ xs i).up) (o9 (F.up i om)) bf) ?_
     rintro _ eG ⟨rfl,cQ⟩
     have ba:=yq g cQ
     refine fK ba 20 ?_
     refine jm (o' := i*9+0) (i:=(i:Int)) rfl rfl rfl yh jj om o_ (fK ba 1 ?_)
     refine jZ (f:=(fun x:Nd=>{ x with up:=((fJ xs ((fJ xs i).up)).up) })) 1 ba (fun cR k eH=>?_)
     have l:gf (fO xs i (fun x=>{ x with up:=((fJ xs ((fJ xs i).up)).up) })):=gf.iN F om (fun x a b c d e=>⟨a,b,(o9 (F.up ((fJ xs i).up) (o9 (F.up i om)))),d,e⟩)
     obtain⟨M,cS,eI,l,k⟩:=iG (m:=m) l k
     refine fK k 14 ?_
     refine jm (o' := i*9+0) (i:=(i:Int)) rfl rfl rfl yh jj om o_ (fK k 1 ?_)
     refine jM (o:=i*9+0) (o' := i*9+1) (i:=1) rfl rfl rfl ym gy d_ rfl ?_
     have bi:=yc [_,_] _ k
     refine fK k 1 ?_
     refine cl lF (rQ fb nb m ed M cR (ye bi 0 rfl) oa hb l ((fJ xs i).up) ((fJ M i).k1) (o9 (F.up i om)) (o9 (l.k1 i om))) ?_
     rintro _ cT ⟨rfl,T⟩
     have N:=(yi bi T)
     have O:gf (iU M ((fJ xs i).up) 0 ((fJ M i).k1)):=gf.kD l (o9 (F.up i om)) (o9 (l.k1 i om))
     obtain⟨bj,cU,eJ,O,N⟩:=iG (m:=m) O N
     have bl:=yc [_,_] _ N
     refine fK N 9 ?_
     refine cl lF (rR fb nb m ed bj cT (ye bl 0 rfl) oa hb O i ((fJ xs i).up) o_ (o9 (F.up i om))) ?_
     rintro _ cV ⟨rfl,T⟩
     have P:=(yi bl T)
     have Q:gf (iU bj i 1 ((fJ xs i).up)):=gf.kD O o_ (o9 (F.up i om))
     obtain⟨bm,cW,eK,Q,P⟩:=iG (m:=m) Q P
     have bn:=yc [_,_] _ P
     refine fK P 6 ?_
     refine cl lT (lW fb nb m ed bm cV (ye bn 0 rfl) oa hb Q ((fJ xs i).up) (o9 (F.up i om))) ?_
     rintro _ cX ⟨rfl,T⟩
     have R:=(yi bn T)
     have S:gf (iH bm ((fJ xs i).up)):=gf.lI Q (o9 (F.up i om))
     obtain⟨bo,cY,eL,S,R⟩:=iG (m:=m) S R
     have bp:=yc [_,_] _ R
     refine fK R 5 ?_
     refine cl lT (lW fb nb m ed bo cX (ye bp 0 rfl) oa hb S i o_) ?_
     rintro _ eM ⟨rfl,T⟩
     have U:=(yi bp T)
     have bq:gf (iH bo i):=gf.lI S o_
     obtain⟨cZ,c0,eN,bq,U⟩:=iG (m:=m) bq U
     refine fQ U 1 ?_
     refine i6 vi ?_
     have e9:iK xs i=cZ:=by subst c0;subst cY;subst cW;subst cU;subst cS;simp only[iK,J,bf];rfl
     have bk:=U
     rw[<-e9]at bk
     exact⟨rfl,yn (yc [_,_] [] bk)⟩
   . skip
     refine cl mT (nh fb nb m ed xs a9 (g.at (i:=0) rfl) (g.at (i:=1) rfl) oa hb F ((fJ xs i).up) (o9 (F.up i om)) bg) ?_
     rintro _ c1 ⟨rfl,c2⟩
     have br:=yq g c2
     have bs:=yc [_,_] _ br
     refine fK br 18 ?_
     refine cl lF (rQ fb nb m ed xs c1 (ye bs 0 rfl) oa hb F ((fJ xs ((fJ xs i).up)).up) i (o9 (F.up ((fJ xs i).up) (o9 (F.up i om)))) o_) ?_
     rintro _ c3 ⟨rfl,T⟩
     have n:=(yi bs T)
     have p:gf (iU xs ((fJ xs ((fJ xs i).up)).up) 0 i):=gf.kD F (o9 (F.up ((fJ xs i).up) (o9 (F.up i om)))) o_
     obtain⟨V,c4,eO,p,n⟩:=iG (m:=m) p n
     refine fK n 14 ?_
     refine jm (o' := i*9+0) (i:=(i:Int)) rfl rfl rfl yh jj om o_ (fK n 1 ?_)
     refine jM (o:=i*9+0) (o' := i*9+1) (i:=1) rfl rfl rfl ym gy d_ rfl ?_
     have bt:=yc [_,_] _ n
     refine fK n 1 ?_
     refine cl lF (rQ fb nb m ed V c3 (ye bt 0 rfl) oa hb p ((fJ xs i).up) ((fJ V i).k1) (o9 (F.up i om)) (o9 (p.k1 i om))) ?_
     rintro _ c5 ⟨rfl,T⟩
     have W:=(yi bt T)
     have X:gf (iU V ((fJ xs i).up) 0 ((fJ V i).k1)):=gf.kD p (o9 (F.up i om)) (o9 (p.k1 i om))
     obtain⟨bu,c6,eP,X,W⟩:=iG (m:=m) X W
     have bv:=yc [_,_] _ W
     refine fK W 9 ?_
     refine cl lF (rR fb nb m ed bu c5 (ye bv 0 rfl) oa hb X i ((fJ xs i).up) o_ (o9 (F.up i om))) ?_
     rintro _ c7 ⟨rfl,T⟩
     have Y:=(yi bv T)
     have Z:gf (iU bu i 1 ((fJ xs i).up)):=gf.kD X o_ (o9 (F.up i om))
     obtain⟨bw,c8,eQ,Z,Y⟩:=iG (m:=m) Z Y
     have bx:=yc [_,_] _ Y
     refine fK Y 6 ?_
     refine cl lT (lW fb nb m ed bw c7 (ye bx 0 rfl) oa hb Z ((fJ xs i).up) (o9 (F.up i om))) ?_
     rintro _ c9 ⟨rfl,T⟩
     have aa:=(yi bx T)
     have ab:gf (iH bw ((fJ xs i).up)):=gf.lI Z (o9 (F.up i om))
     obtain⟨bz,da,eR,ab,aa⟩:=iG (m:=m) ab aa
     have bA:=yc [_,_] _ aa
     refine fK aa 5 ?_
     refine cl lT (lW fb nb m ed bz c9 (ye bA 0 rfl) oa hb ab i o_) ?_
     rintro _ eS ⟨rfl,T⟩
     have ac:=(yi bA T)
     have bB:gf (iH bz i):=gf.lI ab o_
     obtain⟨db,dc,eU,bB,ac⟩:=iG (m:=m) bB ac
     refine fQ ac 1 ?_
     refine i6 vi ?_
     have e9:iK xs i=db:=by subst dc;subst da;subst c8;subst c6;subst c4;simp only[iK,J,bg];rfl
     have bk:=ac
     rw[<-e9]at bk
     exact⟨rfl,yn (yc [_,_] [] bk)⟩
   . skip
     refine cl mT (nh fb nb m ed xs a9 (g.at (i:=0) rfl) (g.at (i:=1) rfl) oa hb F ((fJ xs i).up) (o9 (F.up i om)) bh) ?_
     rintro _ dd ⟨rfl,de⟩
     have bC:=yq g de
     have bD:=yc [_,_] _ bC
     refine fK bC 18 ?_
     refine cl lF (rR fb nb m ed xs dd (ye bD 0 rfl) oa hb F ((fJ xs ((fJ xs i).up)).up) i (o9 (F.up ((fJ xs i).up) (o9 (F.up i om)))) o_) ?_
     rintro _ df ⟨rfl,T⟩
     have s:=(yi bD T)
     have t:gf (iU xs ((fJ xs ((fJ xs i).up)).up) 1 i):=gf.kD F (o9 (F.up ((fJ xs i).up) (o9 (F.up i om)))) o_
     obtain⟨ad,dg,eV,t,s⟩:=iG (m:=m) t s
     refine fK s 14 ?_
     refine jm (o' := i*9+0) (i:=(i:Int)) rfl rfl rfl yh jj om o_ (fK s 1 ?_)
     refine jM (o:=i*9+0) (o' := i*9+1) (i:=1) rfl rfl rfl ym gy d_ rfl ?_
     have bE:=yc [_,_] _ s
     refine fK s 1 ?_
     refine cl lF (rQ fb nb m ed ad df (ye bE 0 rfl) oa hb t ((fJ xs i).up) ((fJ ad i).k1) (o9 (F.up i om)) (o9 (t.k1 i om))) ?_
     rintro _ dh ⟨rfl,T⟩
     have ae:=(yi bE T)
     have af:gf (iU ad ((fJ xs i).up) 0 ((fJ ad i).k1)):=gf.kD t (o9 (F.up i om)) (o9 (t.k1 i om))
     obtain⟨bF,di,eW,af,ae⟩:=iG (m:=m) af ae
     have bG:=yc [_,_] _ ae
     refine fK ae 9 ?_
     refine cl lF (rR fb nb m ed bF dh (ye bG 0 rfl) oa hb af i ((fJ xs i).up) o_ (o9 (F.up i om))) ?_
     rintro _ dj ⟨rfl,T⟩
     have ag:=(yi bG T)
     have ah:gf (iU bF i 1 ((fJ xs i).up)):=gf.kD af o_ (o9 (F.up i om))
     obtain⟨bH,dk,eX,ah,ag⟩:=iG (m:=m) ah ag
     have bI:=yc [_,_] _ ag
     refine fK ag 6 ?_
     refine cl lT (lW fb nb m ed bH dj (ye bI 0 rfl) oa hb ah ((fJ xs i).up) (o9 (F.up i om))) ?_
     rintro _ dl ⟨rfl,T⟩
     have ai:=(yi bI T)
     have aj:gf (iH bH ((fJ xs i).up)):=gf.lI ah (o9 (F.up i om))
     obtain⟨bJ,dm,eY,aj,ai⟩:=iG (m:=m) aj ai
     have bK:=yc [_,_] _ ai
     refine fK ai 5 ?_
     refine cl lT (lW fb nb m ed bJ dl (ye bK 0 rfl) oa hb aj i o_) ?_
     rintro _ eZ ⟨rfl,T⟩
     have ak:=(yi bK T)
     have bL:gf (iH bJ i):=gf.lI aj o_
     obtain⟨dn,dp,e0,bL,ak⟩:=iG (m:=m) bL ak
     refine fQ ak 1 ?_
     refine i6 vi ?_
     have e9:iK xs i=dn:=by subst dp;subst dm;subst dk;subst di;subst dg;simp only[iK,J,bh];rfl
     have bk:=ak
     rw[<-e9]at bk
     exact⟨rfl,yn (yc [_,_] [] bk)⟩
 . skip
   refine cl mT (nh fb nb m ed xs w (eT.at (i:=0) rfl) (eT.at (i:=1) rfl) oa hb F i o_ K) ?_
   rintro _ bb ⟨rfl,dq⟩
   have h:=yq eT dq
   obtain⟨dr,e1⟩:∃ q,Dp xs ((fJ xs i).up)=q:=⟨_,rfl⟩
   refine fK h 12 ?_
   rcases dr with bM|bN|bO
   . skip
     refine cl mT (nh fb nb m ed xs bb (h.at (i:=0) rfl) (h.at (i:=1) rfl) oa hb F ((fJ xs i).up) (o9 (F.up i om)) bM) ?_
     rintro _ e2 ⟨rfl,ds⟩
     have bc:=yq h ds
     refine fK bc 20 ?_
     refine jm (o' := i*9+0) (i:=(i:Int)) rfl rfl rfl yh jj om o_ (fK bc 1 ?_)
     refine jZ (f:=(fun x:Nd=>{ x with up:=((fJ xs ((fJ xs i).up)).up) })) 1 bc (fun dt u e3=>?_)
     have v:gf (fO xs i (fun x=>{ x with up:=((fJ xs ((fJ xs i).up)).up) })):=gf.iN F om (fun x a b c d e=>⟨a,b,(o9 (F.up ((fJ xs i).up) (o9 (F.up i om)))),d,e⟩)
     obtain⟨al,du,e4,v,u⟩:=iG (m:=m) v u
     refine fK u 14 ?_
     refine jm (o' := i*9+0) (i:=(i:Int)) rfl rfl rfl yh jj om o_ (fK u 1 ?_)
     refine jM (o:=i*9+0) (o' := i*9+1) (i:=1) rfl rfl rfl ym gy d_ rfl ?_
     have bP:=yc [_,_] _ u
     refine fK u 1 ?_
     refine cl lF (rQ fb nb m ed al dt (ye bP 0 rfl) oa hb v ((fJ xs i).up) ((fJ al i).k1) (o9 (F.up i om)) (o9 (v.k1 i om))) ?_
     rintro _ dv ⟨rfl,T⟩
     have am:=(yi bP T)
     have an:gf (iU al ((fJ xs i).up) 0 ((fJ al i).k1)):=gf.kD v (o9 (F.up i om)) (o9 (v.k1 i om))
     obtain⟨bQ,dw,e5,an,am⟩:=iG (m:=m) an am
     have bR:=yc [_,_] _ am
     refine fK am 9 ?_
     refine cl lF (rR fb nb m ed bQ dv (ye bR 0 rfl) oa hb an i ((fJ xs i).up) o_ (o9 (F.up i om))) ?_
     rintro _ dx ⟨rfl,T⟩
     have ao:=(yi bR T)
     have ap:gf (iU bQ i 1 ((fJ xs i).up)):=gf.kD an o_ (o9 (F.up i om))
     obtain⟨bS,dy,e6,ap,ao⟩:=iG (m:=m) ap ao
     have bT:=yc [_,_] _ ao
     refine fK ao 6 ?_
     refine cl lT (lW fb nb m ed bS dx (ye bT 0 rfl) oa hb ap ((fJ xs i).up) (o9 (F.up i om))) ?_
     rintro _ dz ⟨rfl,T⟩
     have aq:=(yi bT T)
     have ar:gf (iH bS ((fJ xs i).up)):=gf.lI ap (o9 (F.up i om))
     obtain⟨bU,dA,e7,ar,aq⟩:=iG (m:=m) ar aq
     have bV:=yc [_,_] _ aq
     refine fK aq 5 ?_
     refine cl lT (lW fb nb m ed bU dz (ye bV 0 rfl) oa hb ar i o_) ?_
     rintro _ e8 ⟨rfl,T⟩
     have au:=(yi bV T)
     have bW:gf (iH bU i):=gf.lI ar o_
     obtain⟨dB,dC,fa,bW,au⟩:=iG (m:=m) bW au
     refine fQ au 1 ?_
     refine i6 vi ?_
     have e9:iK xs i=dB:=by subst dC;subst dA;subst dy;subst dw;subst du;simp only[iK,K,bM];rfl
     have bk:=au
     rw[<-e9]at bk
     exact⟨rfl,yn (yc [_,_] [] bk)⟩
   . skip
     refine cl mT (nh fb nb m ed xs bb (h.at (i:=0) rfl) (h.at (i:=1) rfl) oa hb F ((fJ xs i).up) (o9 (F.up i om)) bN) ?_
     rintro _ dD ⟨rfl,dE⟩
     have bX:=yq h dE
     have bY:=yc [_,_] _ bX
     refine fK bX 18 ?_
     refine cl lF (rQ fb nb m ed xs dD (ye bY 0 rfl) oa hb F ((fJ xs ((fJ xs i).up)).up) i (o9 (F.up ((fJ xs i).up) (o9 (F.up i om)))) o_) ?_
     rintro _ dF ⟨rfl,T⟩
     have y:=(yi bY T)
     have z:gf (iU xs ((fJ xs ((fJ xs i).up)).up) 0 i):=gf.kD F (o9 (F.up ((fJ xs i).up) (o9 (F.up i om)))) o_
     obtain⟨av,dG,fc,z,y⟩:=iG (m:=m) z y
     refine fK y 14 ?_
     refine jm (o' := i*9+0) (i:=(i:Int)) rfl rfl rfl yh jj om o_ (fK y 1 ?_)
     refine jM (o:=i*9+0) (o' := i*9+1) (i:=1) rfl rfl rfl ym gy d_ rfl ?_
     have bZ:=yc [_,_] _ y
     refine fK y 1 ?_
     refine cl lF (rQ fb nb m ed av dF (ye bZ 0 rfl) oa hb z ((fJ xs i).up) ((fJ av i).k1) (o9 (F.up i om)) (o9 (z.k1 i om))) ?_
     rintro _ dH ⟨rfl,T⟩
     have aw:=(yi bZ T)
     have ax:gf (iU av ((fJ xs i).up) 0 ((fJ av i).k1)):=gf.kD z (o9 (F.up i om)) (o9 (z.k1 i om))
     obtain⟨b0,dI,fd,ax,aw⟩:=iG (m:=m) ax aw
     have b1:=yc [_,_] _ aw
     refine fK aw 9 ?_
     refine cl lF (rR fb nb m ed b0 dH (ye b1 0 rfl) oa hb ax i ((fJ xs i).up) o_ (o9 (F.up i om))) ?_
     rintro _ dJ ⟨rfl,T⟩
     have ay:=(yi b1 T)
     have az:gf (iU b0 i 1 ((fJ xs i).up)):=gf.kD ax o_ (o9 (F.up i om))
     obtain⟨b2,dK,fe,az,ay⟩:=iG (m:=m) az ay
     have b3:=yc [_,_] _ ay
     refine fK ay 6 ?_
     refine cl lT (lW fb nb m ed b2 dJ (ye b3 0 rfl) oa hb az ((fJ xs i).up) (o9 (F.up i om))) ?_
     rintro _ dL ⟨rfl,T⟩
     have aA:=(yi b3 T)
     have aB:gf (iH b2 ((fJ xs i).up)):=gf.lI az (o9 (F.up i om))
     obtain⟨b4,dM,ff,aB,aA⟩:=iG (m:=m) aB aA
     have b5:=yc [_,_] _ aA
     refine fK aA 5 ?_
     refine cl lT (lW fb nb m ed b4 dL (ye b5 0 rfl) oa hb aB i o_) ?_
     rintro _ fg ⟨rfl,T⟩
     have aC:=(yi b5 T)
     have b6:gf (iH b4 i):=gf.lI aB o_
     obtain⟨dN,dO,fh,b6,aC⟩:=iG (m:=m) b6 aC
     refine fQ aC 1 ?_
     refine i6 vi ?_
     have e9:iK xs i=dN:=by subst dO;subst dM;subst dK;subst dI;subst dG;simp only[iK,K,bN];rfl
     have bk:=aC
     rw[<-e9]at bk
     exact⟨rfl,yn (yc [_,_] [] bk)⟩
   . skip
     refine cl mT (nh fb nb m ed xs bb (h.at (i:=0) rfl) (h.at (i:=1) rfl) oa hb F ((fJ xs i).up) (o9 (F.up i om)) bO) ?_
     rintro _ dP ⟨rfl,dQ⟩
     have b7:=yq h dQ
     have b8:=yc [_,_] _ b7
     refine fK b7 18 ?_
     refine cl lF (rR fb nb m ed xs dP (ye b8 0 rfl) oa hb F ((fJ xs ((fJ xs i).up)).up) i (o9 (F.up ((fJ xs i).up) (o9 (F.up i om)))) o_) ?_
     rintro _ dR ⟨rfl,T⟩
     have A:=(yi b8 T)
     have B:gf (iU xs ((fJ xs ((fJ xs i).up)).up) 1 i):=gf.kD F (o9 (F.up ((fJ xs i).up) (o9 (F.up i om)))) o_
     obtain⟨aD,dS,fi,B,A⟩:=iG (m:=m) B A
     refine fK A 14 ?_
     refine jm (o' := i*9+0) (i:=(i:Int)) rfl rfl rfl yh jj om o_ (fK A 1 ?_)
     refine jM (o:=i*9+0) (o' := i*9+1) (i:=1) rfl rfl rfl ym gy d_ rfl ?_
     have b9:=yc [_,_] _ A
     refine fK A 1 ?_
     refine cl lF (rQ fb nb m ed aD dR (ye b9 0 rfl) oa hb B ((fJ xs i).up) ((fJ aD i).k1) (o9 (F.up i om)) (o9 (B.k1 i om))) ?_
     rintro _ dT ⟨rfl,T⟩
     have aE:=(yi b9 T)
     have aF:gf (iU aD ((fJ xs i).up) 0 ((fJ aD i).k1)):=gf.kD B (o9 (F.up i om)) (o9 (B.k1 i om))
     obtain⟨ca,dU,fj,aF,aE⟩:=iG (m:=m) aF aE
     have cb:=yc [_,_] _ aE
     refine fK aE 9 ?_
     refine cl lF (rR fb nb m ed ca dT (ye cb 0 rfl) oa hb aF i ((fJ xs i).up) o_ (o9 (F.up i om))) ?_
     rintro _ dV ⟨rfl,T⟩
     have aG:=(yi cb T)
     have aH:gf (iU ca i 1 ((fJ xs i).up)):=gf.kD aF o_ (o9 (F.up i om))
     obtain⟨cc,dW,fk,aH,aG⟩:=iG (m:=m) aH aG
     have cd:=yc [_,_] _ aG
     refine fK aG 6 ?_
     refine cl lT (lW fb nb m ed cc dV (ye cd 0 rfl) oa hb aH ((fJ xs i).up) (o9 (F.up i om))) ?_
     rintro _ dX ⟨rfl,T⟩
     have aI:=(yi cd T)
     have aJ:gf (iH cc ((fJ xs i).up)):=gf.lI aH (o9 (F.up i om))
     obtain⟨ce,dY,fl,aJ,aI⟩:=iG (m:=m) aJ aI
     have cf:=yc [_,_] _ aI
     refine fK aI 5 ?_
     refine cl lT (lW fb nb m ed ce dX (ye cf 0 rfl) oa hb aJ i o_) ?_
     rintro _ fm ⟨rfl,T⟩
     have aK:=(yi cf T)
     have cg:gf (iH ce i):=gf.lI aJ o_
     obtain⟨dZ,d0,fn,cg,aK⟩:=iG (m:=m) cg aK
     refine fQ aK 1 ?_
     refine i6 vi ?_
     have e9:iK xs i=dZ:=by subst d0;subst dY;subst dW;subst dU;subst dS;simp only[iK,K,bO];rfl
     have bk:=aK
     rw[<-e9]at bk
     exact⟨rfl,yn (yc [_,_] [] bk)⟩
 . skip
   refine cl mT (nh fb nb m ed xs w (eT.at (i:=0) rfl) (eT.at (i:=1) rfl) oa hb F i o_ L) ?_
   rintro _ bd ⟨rfl,d1⟩
   have j:=yq eT d1
   obtain⟨d2,fo⟩:∃ q,Dp xs ((fJ xs i).up)=q:=⟨_,rfl⟩
   refine fK j 12 ?_
   rcases d2 with ch|ci|cj
   . skip
     refine cl mT (nh fb nb m ed xs bd (j.at (i:=0) rfl) (j.at (i:=1) rfl) oa hb F ((fJ xs i).up) (o9 (F.up i om)) ch) ?_
     rintro _ fp ⟨rfl,d3⟩
     have be:=yq j d3
     refine fK be 20 ?_
     refine jm (o' := i*9+0) (i:=(i:Int)) rfl rfl rfl yh jj om o_ (fK be 1 ?_)
     refine jZ (f:=(fun x:Nd=>{ x with up:=((fJ xs ((fJ xs i).up)).up) })) 1 be (fun d4 C fq=>?_)
     have D:gf (fO xs i (fun x=>{ x with up:=((fJ xs ((fJ xs i).up)).up) })):=gf.iN F om (fun x a b c d e=>⟨a,b,(o9 (F.up ((fJ xs i).up) (o9 (F.up i om)))),d,e⟩)
     obtain⟨aL,d5,fr,D,C⟩:=iG (m:=m) D C
     refine fK C 14 ?_
     refine jm (o' := i*9+0) (i:=(i:Int)) rfl rfl rfl yh jj om o_ (fK C 1 ?_)
     refine jM (o:=i*9+0) (o' := i*9+0) (i:=0) rfl rfl rfl ym gy d_ rfl ?_
     have ck:=yc [_,_] _ C
     refine fK C 1 ?_
     refine cl lF (rR fb nb m ed aL d4 (ye ck 0 rfl) oa hb D ((fJ xs i).up) ((fJ aL i).k0) (o9 (F.up i om)) (o9 (D.k0 i om))) ?_
     rintro _ d6 ⟨rfl,T⟩
     have aM:=(yi ck T)
     have aN:gf (iU aL ((fJ xs i).up) 1 ((fJ aL i).k0)):=gf.kD D (o9 (F.up i om)) (o9 (D.k0 i om))
     obtain⟨cm,d7,fs,aN,aM⟩:=iG (m:=m) aN aM
     have cn:=yc [_,_] _ aM
     refine fK aM 9 ?_
     refine cl lF (rQ fb nb m ed cm d6 (ye cn 0 rfl) oa hb aN i ((fJ xs i).up) o_ (o9 (F.up i om))) ?_
     rintro _ d8 ⟨rfl,T⟩
     have aO:=(yi cn T)
     have aP:gf (iU cm i 0 ((fJ xs i).up)):=gf.kD aN o_ (o9 (F.up i om))
     obtain⟨co,d9,ft,aP,aO⟩:=iG (m:=m) aP aO
     have cp:=yc [_,_] _ aO
     refine fK aO 6 ?_
     refine cl lT (lW fb nb m ed co d8 (ye cp 0 rfl) oa hb aP ((fJ xs i).up) (o9 (F.up i om))) ?_
     rintro _ ea ⟨rfl,T⟩
     have aQ:=(yi cp T)
     have aR:gf (iH co ((fJ xs i).up)):=gf.lI aP (o9 (F.up i om))
     obtain⟨cq,eb,fu,aR,aQ⟩:=iG (m:=m) aR aQ
     have cr:=yc [_,_] _ aQ
     refine fK aQ 5 ?_
     refine cl lT (lW fb nb m ed cq ea (ye cr 0 rfl) oa hb aR i o_) ?_
     rintro _ fv ⟨rfl,T⟩
     have aS:=(yi cr T)
     have cs:gf (iH cq i):=gf.lI aR o_
     obtain⟨ec,ee,fw,cs,aS⟩:=iG (m:=m) cs aS
     refine fQ aS 1 ?_
     refine i6 vi ?_
     have e9:iK xs i=ec:=by subst ee;subst eb;subst d9;subst d7;subst d5;simp only[iK,L,ch];rfl
     have bk:=aS
     rw[<-e9]at bk
     exact⟨rfl,yn (yc [_,_] [] bk)⟩
   . skip
     refine cl mT (nh fb nb m ed xs bd (j.at (i:=0) rfl) (j.at (i:=1) rfl) oa hb F ((fJ xs i).up) (o9 (F.up i om)) ci) ?_
     rintro _ ef ⟨rfl,eg⟩
     have ct:=yq j eg
     have cu:=yc [_,_] _ ct
     refine fK ct 18 ?_
     refine cl lF (rQ fb nb m ed xs ef (ye cu 0 rfl) oa hb F ((fJ xs ((fJ xs i).up)).up) i (o9 (F.up ((fJ xs i).up) (o9 (F.up i om)))) o_) ?_
     rintro _ eh ⟨rfl,T⟩
     have E:=(yi cu T)
     have G:gf (iU xs ((fJ xs ((fJ xs i).up)).up) 0 i):=gf.kD F (o9 (F.up ((fJ xs i).up) (o9 (F.up i om)))) o_
     obtain⟨aT,ei,fx,G,E⟩:=iG (m:=m) G E
     refine fK E 14 ?_
     refine jm (o' := i*9+0) (i:=(i:Int)) rfl rfl rfl yh jj om o_ (fK E 1 ?_)
     refine jM (o:=i*9+0) (o' := i*9+0) (i:=0) rfl rfl rfl ym gy d_ rfl ?_
     have cv:=yc [_,_] _ E
     refine fK E 1 ?_
     refine cl lF (rR fb nb m ed aT eh (ye cv 0 rfl) oa hb G ((fJ xs i).up) ((fJ aT i).k0) (o9 (F.up i om)) (o9 (G.k0 i om))) ?_
     rintro _ ej ⟨rfl,T⟩
     have aU:=(yi cv T)
     have aV:gf (iU aT ((fJ xs i).up) 1 ((fJ aT i).k0)):=gf.kD G (o9 (F.up i om)) (o9 (G.k0 i om))
     obtain⟨cw,ek,fy,aV,aU⟩:=iG (m:=m) aV aU
     have cx:=yc [_,_] _ aU
     refine fK aU 9 ?_
     refine cl lF (rQ fb nb m ed cw ej (ye cx 0 rfl) oa hb aV i ((fJ xs i).up) o_ (o9 (F.up i om))) ?_
     rintro _ el ⟨rfl,T⟩
     have aW:=(yi cx T)
     have aX:gf (iU cw i 0 ((fJ xs i).up)):=gf.kD aV o_ (o9 (F.up i om))
     obtain⟨cy,em,fz,aX,aW⟩:=iG (m:=m) aX aW
     have cz:=yc [_,_] _ aW
     refine fK aW 6 ?_
     refine cl lT (lW fb nb m ed cy el (ye cz 0 rfl) oa hb aX ((fJ xs i).up) (o9 (F.up i om))) ?_
     rintro _ eo ⟨rfl,T⟩
     have aY:=(yi cz T)
     have aZ:gf (iH cy ((fJ xs i).up)):=gf.lI aX (o9 (F.up i om))
     obtain⟨cA,ep,fA,aZ,aY⟩:=iG (m:=m) aZ aY
     have cB:=yc [_,_] _ aY
     refine fK aY 5 ?_
     refine cl lT (lW fb nb m ed cA eo (ye cB 0 rfl) oa hb aZ i o_) ?_
     rintro _ fB ⟨rfl,T⟩
     have a0:=(yi cB T)
     have cC:gf (iH cA i):=gf.lI aZ o_
     obtain⟨eq,er,fC,cC,a0⟩:=iG (m:=m) cC a0
     refine fQ a0 1 ?_
     refine i6 vi ?_
     have e9:iK xs i=eq:=by subst er;subst ep;subst em;subst ek;subst ei;simp only[iK,L,ci];rfl
     have bk:=a0
     rw[<-e9]at bk
     exact⟨rfl,yn (yc [_,_] [] bk)⟩
   . skip
     refine cl mT (nh fb nb m ed xs bd (j.at (i:=0) rfl) (j.at (i:=1) rfl) oa hb F ((fJ xs i).up) (o9 (F.up i om)) cj) ?_
     rintro _ es ⟨rfl,et⟩
     have cD:=yq j et
     have cE:=yc [_,_] _ cD
     refine fK cD 18 ?_
     refine cl lF (rR fb nb m ed xs es (ye cE 0 rfl) oa hb F ((fJ xs ((fJ xs i).up)).up) i (o9 (F.up ((fJ xs i).up) (o9 (F.up i om)))) o_) ?_
     rintro _ eu ⟨rfl,T⟩
     have H:=(yi cE T)
     have I:gf (iU xs ((fJ xs ((fJ xs i).up)).up) 1 i):=gf.kD F (o9 (F.up ((fJ xs i).up) (o9 (F.up i om)))) o_
     obtain⟨a1,ev,fD,I,H⟩:=iG (m:=m) I H
     refine fK H 14 ?_
     refine jm (o' := i*9+0) (i:=(i:Int)) rfl rfl rfl yh jj om o_ (fK H 1 ?_)
     refine jM (o:=i*9+0) (o' := i*9+0) (i:=0) rfl rfl rfl ym gy d_ rfl ?_
     have cF:=yc [_,_] _ H
     refine fK H 1 ?_
     refine cl lF (rR fb nb m ed a1 eu (ye cF 0 rfl) oa hb I ((fJ xs i).up) ((fJ a1 i).k0) (o9 (F.up i om)) (o9 (I.k0 i om))) ?_
     rintro _ ew ⟨rfl,T⟩
     have a2:=(yi cF T)
     have a3:gf (iU a1 ((fJ xs i).up) 1 ((fJ a1 i).k0)):=gf.kD I (o9 (F.up i om)) (o9 (I.k0 i om))
     obtain⟨cG,ex,fE,a3,a2⟩:=iG (m:=m) a3 a2
     have cH:=yc [_,_] _ a2
     refine fK a2 9 ?_
     refine cl lF (rQ fb nb m ed cG ew (ye cH 0 rfl) oa hb a3 i ((fJ xs i).up) o_ (o9 (F.up i om))) ?_
     rintro _ ey ⟨rfl,T⟩
     have a4:=(yi cH T)
     have a5:gf (iU cG i 0 ((fJ xs i).up)):=gf.kD a3 o_ (o9 (F.up i om))
     obtain⟨cI,ez,fF,a5,a4⟩:=iG (m:=m) a5 a4
     have cJ:=yc [_,_] _ a4
     refine fK a4 6 ?_
     refine cl lT (lW fb nb m ed cI ey (ye cJ 0 rfl) oa hb a5 ((fJ xs i).up) (o9 (F.up i om))) ?_
     rintro _ eA ⟨rfl,T⟩
     have a6:=(yi cJ T)
     have a7:gf (iH cI ((fJ xs i).up)):=gf.lI a5 (o9 (F.up i om))
     obtain⟨cK,eB,fG,a7,a6⟩:=iG (m:=m) a7 a6
     have cL:=yc [_,_] _ a6
     refine fK a6 5 ?_
     refine cl lT (lW fb nb m ed cK eA (ye cL 0 rfl) oa hb a7 i o_) ?_
     rintro _ fH ⟨rfl,T⟩
     have a8:=(yi cL T)
     have cM:gf (iH cK i):=gf.lI a7 o_
     obtain⟨eC,eD,fI,cM,a8⟩:=iG (m:=m) cM a8
     refine fQ a8 1 ?_
     refine i6 vi ?_
     have e9:iK xs i=eC:=by subst eD;subst eB;subst ez;subst ex;subst ev;simp only[iK,L,cj];rfl
     have bk:=a8
     rw[<-e9]at bk
     exact⟨rfl,yn (yc [_,_] [] bk)⟩
end
section
open Go Go.Sx
theorem U8(v:Value)(w:World)(h1:v.oneCell' = true) :
 CR ya 175 #[v] w (fun r w' => ∃ g,w.heap.size<=g/\r = .func (.func 201) #[] (Zh g)/\(blk g 65 [v]).holds w' /\ gz [] w w'):=by
 refine en Tryz.func175 Tryz.ntmps175 ?_
 have f:=yt w
 refine fR f 2 ?_
 refine iz f (fun b d c e a=>?_) (hcs:=(cells_one h1))
 refine fK a 5 ?_
 refine nF (vf:=[]) (vc:=(Zi b)) rfl rfl rfl (fQ a 4 ?_)
 refine gp (v:=(.func (.func 201) #[] (Zh b))) Tryz.results175 rfl ?_
 exact⟨_,k7 (f.size zd) c,rfl,a.at (i:=0) rfl,a.gC s_⟩
theorem U7(s:Nat->fS)(l u:Nat)(v:Value)(xs:List Int)(ok:Nat->Prop)(w:World)(E:∀ (k:Nat) (x:Int) (bs:List (World×List Nat)) (L:List fS) (w:World),k<xs.length->xs[xs.length-1-k]? = some x->St bs (s k :: L) w->YR ya l (Zp ((xs.length:Int)-1-(k:Int)) x) w (fun v w' => v = .bool true/\St bs (s (k+1) :: L) w'))(C:Own (s 0) w)(A:(blk u 65 [v]).holds w)(D:u∉(s 0).gK)(hv:Ints .i64 ok w v xs)(y:∀ b,ok b->b∉(s 0).gK)(G:xs.length<=1000000000000) :
 CR ya 201 #[(.func (.yield l) #[] #[]),(Zb u)] w (fun r w' => r = .tuple #[]/\fZ (s 0) w w' (s xs.length)):=by
 have hv:=hv.old d_
 have y:∀ b,(ok b/\b<w.heap.size)->b∉(s 0).gK:=fun b hb=>y b hb.1
 refine en Tryz.func201 Tryz.ntmps201 ?_
 have z:=yr C
 refine fR z 2 ?_
 refine ld rfl rfl yd rfl (Ch A (o:=0) rfl) (kU (v:=v) rfl rfl yd hv (gJ z 5 ?_))
 refine lp (α:=Nat) (fun k=>[(0,(.func (.yield l) #[] #[])),(1,(Zb u)),(3,(Za ((xs.length:Int)-1-(k:Int))))]) (fun k w1=>St [(w,(s 0).gK)] [s k] w1/\k<=xs.length) (fun k=>xs.length-k) 0 ⟨rfl,rfl,gw rO,trivial⟩ (⟨z,o_⟩) ?_
 rintro k f g ⟨t,F⟩
 refine fR t 4 ?_
 by_cases h:((xs.length:Int)-1-(k:Int):Int)≥(0:Int)
 . obtain⟨x,B⟩:=pO (show xs.length-1-k<xs.length by omega)
   refine fK t 12 ?_
   refine ld rfl rfl yd rfl (St.Il t (X:=(s 0).gK) s_ (Ch A (o:=0) rfl) D) (fK t 1 ?_)
   refine CI (i:=(xs.length:Int)-1-(k:Int)) (el:=x) rfl rfl rfl yd gy (St.ints t (X:=(s 0).gK) s_ hv y) o_ (by rw[show ((xs.length:Int)-1-(k:Int)).toNat=xs.length-1-k by omega];exact B) ?_
   intro j m c d n
   have p:=d.i64
   refine ld rfl rfl yf rfl c (yl (vl:=(Zp ((xs.length:Int)-1-(k:Int)) x)) rfl rfl rfl (E k x _ _ _ o_ B t) ?_)
   rintro _ q ⟨rfl,a⟩
   refine fK a 9 ?_
   refine ar (e:=(xs.length:Int)-1-((k+1:Nat):Int)) rfl rfl rfl rfl iZ (fQ a 2 ?_)
   refine tN (?_)
   exact again (k+1) ⟨rfl,rfl,gw rO,trivial⟩ (⟨a,o_⟩) (by show (xs.length-(k+1):Nat)<xs.length-k;omega)
 . refine fQ t 8 ?_
   refine i6 Tryz.results201 ?_
   obtain rfl:k=xs.length:=by omega
   exact⟨rfl,yo (R:=s 0) t s_⟩
end
section
open Go Go.Sx
theorem S4(fb nb m:Nat)(ed:Int)(xs:List Nd)(w:World)(hO:Own (Zk fb nb m ed xs) w)(hm:xs.length=m)(hb:m<=1000001)(hI:gf xs)(i q:Nat)(T:Tr)(hR:gR xs T q)(hT:i∈T.mem)(hn:T.mem.Nodup)(bI:T.mem.length<=1000000)(hq:Out xs q T.mem) :
 CR ya 137 (Zm fb i) w (fun r w' => r = .tuple #[]/\∃ ys a' b', jJ xs ys T [] (.nd a' i b') q/\(fJ ys i).flip=false/\gf ys/\fZ (Zk fb nb m ed xs) w w' (Zk fb nb m ed ys)):=by
 have b9:i<m:=by have h7:=hR.o5 i hT;omega
 obtain⟨c,a,b,rfl⟩:=FE hT
 have bH:=At.start hR hn
 have bK:Out xs q (lC c (Tr.nd a i b).mem):=by rw[<-pS];exact hq
 have bE:=acr hR
 have bY:=acq (c:=c) (a:=a) (b:=b) (i:=i)
 have bA:=hI.lD bE
 have bR:=FO (m:=m) (fun j hj=>by have:=bE j hj;omega) hb
 refine E5 (vs:=(tA fb i)) Tryz.func137 rfl Tryz.ntmps137 rfl ?_
 have bO:=(yr hO).unpack
 refine fR bO 2 ?_
 refine iz bO (fun e aj a7 a8 I=>?_)
 have ak:St _ [ig .i64 Zg 3 ([]),blk e 126 (Zi fb),blk fb 195 (vQ fb nb m ed),blk nb 192 (xs.flatMap Nd.cells)] aj:=rq I 3 1
 have al:=ak
 have am:=al
 refine gJ I 19 ?_
 refine lp (α:=Nat×Nat×Value) (fun(k,j,pv)=>[(1,(Za i)),(2,(Zb e)),(4,pv),(5,(Za j))]) (fun(k,j,pv) w1=>St [(w,(Zk fb nb m ed xs).gK)] [ig .i64 pv 3 (gA ((jo c i).take k)),blk e 126 (Zi fb),blk fb 195 (vQ fb nb m ed),blk nb 192 (xs.flatMap Nd.cells)] w1/\(jo c i)[k]? = some j) (fun(k,j,pv)=>c.length+1-k) (0,i,Zg) ⟨rfl,rfl,rfl,gw rO,trivial⟩ (⟨am,rfl⟩) ?_
 rintro⟨k,j,pv⟩ a9 ba hC
 have bU:j<m:=by have h7:=bE j (ze hC.2);omega
 refine fR hC.1 5 ?_
 refine kg (vs:=(Ze j)) (cs:=(Ze j)) rfl rfl yd gy rfl (by simp[Value.cells]) rfl rfl rfl hC.1 (fun an bb bc bd J=>vS (k:=.i64) (ys:=gA ((jo c i).take k)) (zs:=[(j:Int)]) (LL:=fun f=>[ig .i64 (Z6 an) 3 ([(j:Int)]),ig .i64 f 3 ((gA ((jo c i).take k))++([(j:Int)])),blk e 126 (Zi fb),blk fb 195 (vQ fb nb m ed),blk nb 192 (xs.flatMap Nd.cells)]) 1 rfl rfl rfl yd gy rfl J rfl (lX J (i:=0) rfl) (by simp only[gA,zu,z7,zh,zm];omega) (by simp only[gA,zu,z7,zh,zm];omega) f_ ?_)
 intro f t K be
 have ao:=yg [1,2,3,4] K
 have g:=yg [3,4,1,2] K
 obtain⟨ap,bf⟩:∃ q,Dp xs j=q:=⟨_,rfl⟩
 refine fK ao 8 ?_
 rcases ap with M|N|P
 . skip
   have b8:=VC bH bK hC.2 M
   have bQ:gA ((jo c i).take k)++[(j:Int)]=gA (jo c i):=by rw[J4 hC.2,xd (by rw[bY.1];omega)]
   refine cl mT (nh fb nb m ed xs t (g.at (i:=0) rfl) (g.at (i:=1) rfl) oa hb hI j o_ M) ?_
   rintro _ aq ⟨rfl,ar⟩
   have u:=yq g ar
   refine fK u 24 ?_
   refine cl Xj (U8 f aq (yu u (i:=2) rfl)) ?_
   rintro _ au ⟨kb,bW,rfl,bV,bZ⟩
   have Q:=St.Nj u bZ bW bV
   have av:=yg [4,1,2,3,0] Q
   have aw:St [(w,(Zk fb nb m ed xs).gK)] (MF e fb nb m ed (lD xs (jo c i) 0) f (gA (jo c i)) kb) au:=by rw[Sb];have h9:=av;rw[bQ]at h9;exact h9
   refine gJ Q 3 ?_
   refine rf (α:=Nat) (ps:=[38,39]) (fi:=[]) (ca:=(Zi kb)) (fun z=>(MF e fb nb m ed (lD xs (jo c i) z) f (gA (jo c i)) kb)) (fun z=>z=(jo c i).length) aw rfl Xt ?_ ?_
   . intro fn dd l wl rc bL b6
     have ax:=yg [0,2,3,4,1,5,6] b6
     have bC:=yc (zY (jr l rc) e fb nb m ed (lD xs (jo c i) 0)) [kq dd (some []),ig .i64 f 3 (gA (jo c i)),blk kb 65 [f]] ax
     have bM:rc.state = .ready:=by rw[bL]
     have b1:rc.pending=none:=by rw[bL]
     have b3:∀ (k:Nat) (x:Int) (bs:List (World×List Nat)) (L:List fS) (w:World),k<(gA (jo c i)).length->(gA (jo c i))[(gA (jo c i)).length-1-k]? = some x->St bs ((fun(z:Nat)=>gq (zY (jr l rc) e fb nb m ed (lD xs (jo c i) z))) k :: L) w->YR ya l (Zp (((gA (jo c i)).length:Int)-1-(k:Int)) x) w (fun v w' => v = .bool true/\St bs ((fun(z:Nat)=>gq (zY (jr l rc) e fb nb m ed (lD xs (jo c i) z))) (k+1) :: L) w'):=by
      intro k x bs LT wr bX hx bD
      have bD:=bD.unpack
      obtain⟨j,hj,rfl⟩:=abM bX hx
      have bU:j<m:=by have:=bE j (by simpa using ze hj);omega
      have cb:=(bA k).2
      refine Di (vl:=(Zp (((gA (jo c i)).length:Int)-1-(k:Int)) j)) 0 bL bD rfl rfl rfl (iP bD 3 ?_)
      refine tN (?_)
      refine EG 0 bD rfl bM rfl ?_
      intro ay R
      have az:=mN R (List.Perm.cons _ (List.Perm.swap _ _ _))
      have aA:=mN az (List.Perm.swap _ _ _)
      have aB:=mN aA (List.Perm.cons _ (List.Perm.cons _ (List.Perm.swap _ _ _)))
      have aC:=mN aB (List.Perm.cons _ (List.Perm.swap _ _ _))
      have S:=yc [_,_] _ aC
      refine fR R 4 ?_
      refine cl Xk (Ku fb nb m ed (lD xs (jo c i) k) ay (ye S 0 rfl) oa hb (bA k).1 j o_) ?_
      rintro _ bg ⟨rfl,ht⟩
      have U:=(yi S ht)
      have bh:gf (jX (lD xs (jo c i) k) j):=(gf.push (bA k).1 o_).1
      refine fQ U 2 ?_
      refine ES 2 U rfl bM b1 rfl ?_
      intro bi aD
      have aE:=mN aD (List.Perm.cons _ (List.Perm.swap _ _ _))
      have aF:=mN aE (List.Perm.swap _ _ _)
      have aG:=mN aF (List.Perm.cons _ (List.Perm.cons _ (List.Perm.swap _ _ _)))
      have aH:=mN aG (List.Perm.cons _ (List.Perm.swap _ _ _))
      have bN:=aH
      rw[<-Sa hj]at bN
      exact⟨_,rfl,rfl,yc [_,_,_,_] _ bN⟩
     refine CR.mono (U7 (fun(z:Nat)=>gq (zY (jr l rc) e fb nb m ed (lD xs (jo c i) z))) l kb f (gA (jo c i)) (fun b=>b∉((fun(z:Nat)=>gq (zY (jr l rc) e fb nb m ed (lD xs (jo c i) z))) 0).gK) wl b3 (ye bC 0 rfl) (bC.at (i:=3) rfl) (bC.Ro (by simp[iQ,blk,kq])) (St.adQ bC (i:=2) (j:=0) rfl bR rfl d_) (fun _ h=>h) (by simp only[gA,zu];omega)) ?_
     rintro _ w9 ⟨-,b7⟩
     have b5:=(yi bC b7)
     have aI:=yg [0,4,1,2,3,5,6] b5
     exact⟨_,by simp[gA],aI⟩
   . rintro z dd bj hC aJ
     have V:=yg [0,1,2,3] aJ
     obtain⟨O0,a0,b0,bP,bT⟩:=ac3 hR hn hC
     refine Km tt none V 3 ?_
     refine lp (α:=List Nd×Cx×Tr×Tr) (fun(ys,O,a', b')=>[(1,(Za i)),(2,(Zb e))]) (fun(ys,O,a', b') w1=>St [(w,(Zk fb nb m ed xs).gK)] (zY (kq dd (some [])) e fb nb m ed ys) w1/\jJ xs ys (j5 c (.nd a i b)) O (.nd a' i b') q/\(fJ ys i).flip=false/\gf ys/\ys.length=m) (fun(ys,O,a', b')=>O.length) ((lD xs (jo c i) z),O0,a0,b0) ⟨rfl,rfl,trivial⟩ (⟨V,bP,bT,(bA z).1,by have:=(bA z).2;omega⟩) ?_
     rintro⟨ys,O,a', b'⟩ bl y ⟨bz,hM,bF,F,cc⟩
     refine fR bz 3 ?_
     rcases hM.sides hn hq with ⟨hO,hS⟩|⟨d,p,s2,hO,hS,hU,bG⟩|⟨d,p,s2,d', g2,s3,c2,hO,hS,hU,bG⟩
     . skip
       subst hO
       have A:=yg [2,3,0,1] bz
       refine fK bz 2 ?_
       refine cl mT (nh fb nb m ed ys y (A.at (i:=0) rfl) (A.at (i:=1) rfl) oa hb F i o_ hS) ?_
       rintro _ bm ⟨rfl,aK⟩
       have W:=yq A aK
       refine fQ W 21 ?_
       refine CQ 2 W rfl rfl ?_
       intro w8 b4
       exact⟨_,results_none Tryz.results137 _ _ _,_,rfl,rfl,ys,a', b', hM,bF,F,yn (yc [_,_] _ b4)⟩
     . skip
       subst hO
       subst hU
       have B:=yg [2,3,0,1] bz
       refine fK bz 2 ?_
       refine cl mT (nh fb nb m ed ys y (B.at (i:=0) rfl) (B.at (i:=1) rfl) oa hb F i o_ hS) ?_
       rintro _ aL ⟨rfl,aM⟩
       have n:=yq B aM
       refine fK n 24 ?_
       refine jm (o' := i*9+0) (i:=(i:Int)) rfl rfl rfl yh jj (o9 (show i<(ys).length from om)) o_ (fK n 10 ?_)
       refine cl mT (nh fb nb m ed ys aL (n.at (i:=0) rfl) (n.at (i:=1) rfl) oa hb F ((fJ ys i).up) (o9 (F.up i om)) bG) ?_
       rintro _ aN ⟨rfl,aO⟩
       have X:=yq n aO
       have Y:=yc [_,_] _ X
       refine fK X 18 ?_
       refine cl Ct (yM fb nb m ed ys aN (ye Y 0 rfl) oa hb F i o_) ?_
       rintro _ bn ⟨rfl,ht⟩
       have Z:=(yi Y ht)
       have aP:gf (iK ys i):=(gf.rotate F o_).1
       have bo:(iK ys i).length=m:=(Dj F o_).trans o_
       refine fQ Z 2 ?_
       refine tN (?_)
       have aQ:=yg [2,3,0,1] Z
       obtain⟨a2,b2,bk,bB⟩:=hM.zig hn o_ bI hq bF
       exact again (iK ys i,[],a2,b2) ⟨rfl,rfl,trivial⟩ (⟨aQ,bk,bB,aP,by have:=bk.kl.len;omega⟩) (by simp only[zh,zm];omega)
     . skip
       subst hO
       subst hU
       have C:=yg [2,3,0,1] bz
       refine fK bz 2 ?_
       refine cl mT (nh fb nb m ed ys y (C.at (i:=0) rfl) (C.at (i:=1) rfl) oa hb F i o_ hS) ?_
       rintro _ aR ⟨rfl,aS⟩
       have o:=yq C aS
       refine fK o 24 ?_
       refine jm (o' := i*9+0) (i:=(i:Int)) rfl rfl rfl yh jj (o9 (show i<(ys).length from om)) o_ (fK o 10 ?_)
       refine cl mT (nh fb nb m ed ys aR (o.at (i:=0) rfl) (o.at (i:=1) rfl) oa hb F ((fJ ys i).up) (o9 (F.up i om)) bG) ?_
       rintro _ aa ⟨rfl,aT⟩
       have s:=yq o aT
       refine fK s 17 ?_
       by_cases aU:((sd d:Int):Int)=((sd d' : Int):Int)
       . have ab:=yc [_,_] _ s
         refine fK s 7 ?_
         refine cl Ct (yM fb nb m ed ys aa (ye ab 0 rfl) oa hb F ((fJ ys i).up) (o9 (F.up i om))) ?_
         rintro _ aV ⟨rfl,ht⟩
         have ac:=(yi ab ht)
         have D:gf (iK ys ((fJ ys i).up)):=(gf.rotate F (o9 (F.up i om))).1
         have bp:(iK ys ((fJ ys i).up)).length=m:=(Dj F (o9 (F.up i om))).trans o_
         have ad:=yc [_,_] _ ac
         refine fK ac 5 ?_
         refine cl Ct (yM fb nb m ed (iK ys ((fJ ys i).up)) aV (ye ad 0 rfl) oa hb D i o_) ?_
         rintro _ bq ⟨rfl,ht⟩
         have ae:=(yi ad ht)
         have aW:gf (iK (iK ys ((fJ ys i).up)) i):=(gf.rotate D o_).1
         have br:(iK (iK ys ((fJ ys i).up)) i).length=m:=(Dj D o_).trans o_
         refine fQ ae 2 ?_
         refine tN (?_)
         have aX:=yg [2,3,0,1] ae
         have bS:=ad7 (Int.ofNat.inj aU)
         subst bS
         obtain⟨a2,b2,bk,bB⟩:=hM.ags hn o_ bI hq bF
         exact again (iK (iK ys ((fJ ys i).up)) i,c2,a2,b2) ⟨rfl,rfl,trivial⟩ (⟨aX,bk,bB,aW,by have:=bk.kl.len;omega⟩) (by simp only[zh,zm];omega)
       . have af:=yc [_,_] _ s
         refine fK s 7 ?_
         refine cl Ct (yM fb nb m ed ys aa (ye af 0 rfl) oa hb F i o_) ?_
         rintro _ aY ⟨rfl,ht⟩
         have ag:=(yi af ht)
         have E:gf (iK ys i):=(gf.rotate F o_).1
         have bt:(iK ys i).length=m:=(Dj F o_).trans o_
         have ah:=yc [_,_] _ ag
         refine fK ag 5 ?_
         refine cl Ct (yM fb nb m ed (iK ys i) aY (ye ah 0 rfl) oa hb E i o_) ?_
         rintro _ bu ⟨rfl,ht⟩
         have ai:=(yi ah ht)
         have aZ:gf (iK (iK ys i) i):=(gf.rotate E o_).1
         have bv:(iK (iK ys i) i).length=m:=(Dj E o_).trans o_
         refine fQ ai 2 ?_
         refine tN (?_)
         have a1:=yg [2,3,0,1] ai
         obtain⟨a2,b2,bk,bB⟩:=hM.agr hn o_ bI hq bF
         exact again (iK (iK ys i) i,c2,a2,b2) ⟨rfl,rfl,trivial⟩ (⟨a1,bk,bB,aZ,by have:=bk.kl.len;omega⟩) (by simp only[zh,zm];omega)
 . skip
   have bJ:=NY bH bK hC.2 N
   refine cl mT (nh fb nb m ed xs t (g.at (i:=0) rfl) (g.at (i:=1) rfl) oa hb hI j o_ N) ?_
   rintro _ bw ⟨rfl,a3⟩
   have G:=yq g a3
   refine fK G 22 ?_
   refine jm (o' := j*9+0) (i:=(j:Int)) rfl rfl rfl yh jj om o_ (fQ G 5 ?_)
   refine tN (?_)
   have a4:=yg [2,3,0,1] G
   exact again ((k+1),(fJ xs j).up,f) ⟨rfl,rfl,rfl,gw rO,trivial⟩ (⟨by rw[<-J4 hC.2];exact a4,bJ.2⟩) (by show (c.length+1-(k+1):Nat)<c.length+1-k;omega)
 . skip
   have bJ:=NY bH bK hC.2 P
   refine cl mT (nh fb nb m ed xs t (g.at (i:=0) rfl) (g.at (i:=1) rfl) oa hb hI j o_ P) ?_
   rintro _ bx ⟨rfl,a5⟩
   have H:=yq g a5
   refine fK H 22 ?_
   refine jm (o' := j*9+0) (i:=(j:Int)) rfl rfl rfl yh jj om o_ (fQ H 5 ?_)
   refine tN (?_)
   have a6:=yg [2,3,0,1] H
   exact again ((k+1),(fJ xs j).up,f) ⟨rfl,rfl,rfl,gw rO,trivial⟩ (⟨by rw[<-J4 hC.2];exact a6,bJ.2⟩) (by show (c.length+1-(k+1):Nat)<c.length+1-k;omega)
end
end Go.Proofs.YthpnckhjmbbalaaGreatDoor
