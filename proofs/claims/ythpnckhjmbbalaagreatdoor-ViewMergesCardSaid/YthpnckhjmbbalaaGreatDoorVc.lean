/- What the functions that the statements reach do: walks through the code of the program and of the references, one theorem a function; under what is said of its arguments. -/
import Derived.Test.YthpnckhjmbbalaaGreatDoorFb
import Derived.Test.YthpnckhjmbbalaaGreatDoorVa
import Derived.Test.YthpnckhjmbbalaaGreatDoorFd
import Derived.Test.YthpnckhjmbbalaaGreatDoorVb
import Derived.Ground.Names2Prog
import Derived.Shelf.Slices.Delete
import Derived.Test.YthpnckhjmbbalaaGreatDoorFa
set_option linter.unusedVariables false
set_option linter.unusedSimpArgs false
set_option maxRecDepth 100000
set_option maxHeartbeats 4000000
namespace Go.Proofs.YthpnckhjmbbalaaGreatDoor
section
open Go Go.Sx
theorem afF(fN fL ub:Nat)(s:fU)(w:World)(a:Own (fU.R fN fL ub s) w)(x:Lv)(b:s.gN fN fL x.u x.v=0) :
 CR ya 75 (xK ub x) w (fun r w' => r = .int .i64 0/\fZ (fU.R fN fL ub s) w w' (fU.R fN fL ub s)):=by
 have h:=LA fN fL ub s w a x
 rw[b]at h
 exact h
theorem Gs(tb ab:Nat)(t:TW)(w:World)(e:Own (TW.R tb ab t) w)(id:Int)(m:t.mem id\/t.A.used<t.A.n)(l:gZ .u64 id) :
 CR ya 120 (Z4 tb id) w (fun r w' => ∃ (z:Nat) (b:Bool) (t2:TW),r = .tuple (Me z b)/\TW.zY t t2 id/\TW.Kp t t2/\fZ (TW.R tb ab t) w w' (TW.R tb ab t2)):=by
 by_cases hm:t.mem id
 . obtain⟨i,hi,d⟩:=hm
   exact CR.mono (afw tb ab t w e id i hi d) fun r w' ⟨a,c⟩=>⟨i,false,t,a,⟨fun x=>⟨.inl,fun h=>h.elim (fun h=>h) (fun h=>h▸⟨i,hi,d⟩)⟩,rfl,by rw[TW.v7 ⟨i,hi,d⟩];rfl⟩,TW.Kp.refl _,c⟩
 . exact CR.mono (afv tb ab t w e id hm l (m.resolve_left hm)) fun r w' ⟨i,t2,a,⟨c,f,g,k⟩,j⟩=>⟨i,true,t2,a,⟨c,f,by rw[TW.tH hm];exact g⟩,k,j⟩
theorem TP(fN fL ub:Nat)(s:fU)(w:World)(hO:Own (fU.R fN fL ub s) w)(x:Lv)(T:x.ok)(hc:s.gN fN fL x.u x.v=0)(cy:s.last<=9000000000000000000) :
 CR ya 80 #[(Zb ub),(Eh x),(Za x.exp)] w (fun r w' => ∃ (i:Nat) (s2:fU),r = .tuple #[(HV i (s.last+1) x),.int .i64 0]/\((∀ y,s2.has y↔s.has y\/y=⟨(i:Int),s.last+1,x.u,x.v,x.wt,x.t,x.exp⟩)/\s2.last=s.last+1/\TW.Kp s.t s2.t)/\fZ (fU.R fN fL ub s) w w' (fU.R fN fL ub s2)):=by
 have cB:s.t.A.used<=s.t.A.n:=hO.fact.tok.ul
 have cr:=hO.fact.n
 have ct:=hO.fact.tn
 have cq:=hO.fact.en
 have cu:=hO.fact.vn
 have cm:s.A.used<=s.A.begun:=by have h7:=hO.fact.kW.used;omega
 have ck:=hO.fact.kW.le
 have cn:s.aw.A.used=s.A.used:=rfl
 have co:s.aw.A.n=s.A.n:=rfl
 have cp:s.aw.A.begun=s.A.begun:=rfl
 have cz:(s.live++[(⟨0,0,0,0,0,0,0⟩:Lv)]).length=s.live.length+1:=by simp
 have bc:=fU.EA hc
 have cx:=hO.fact.sV
 have cA:=hO.fact.ll
 have F:∀ id,(fT s.im id).2.length<=65536:=fun id=>hO.fact.Jj id
 refine en Tryz.func80 Tryz.ntmps80 ?_
 have ce:=Own.of hO.un
 have hU:s.ok fN fL:=hO.fact
 refine fR ce 2 ?_
 refine iF ce (fun j bd be bf aI=>?_)
 refine iR aI (fun l aJ bg bh aq=>?_)
 have aK:=yg [2,3,4,5,6,7,0,1] aq
 have ar:=yp (p:=s.ok fN fL) (yc [_,_,_,_,_,_] _ aK) hU
 refine fK aq 8 ?_
 refine cl IY (afF fN fL ub s aJ (ye ar 0 rfl) x hc) ?_
 rintro _ aL ⟨rfl,ht⟩
 have aM:=yk 0 ar ht
 have ad:=(jP aM).unpack
 refine fK ad 18 ?_
 refine cl Ol (T5 s.jb s.aw aL (ye ad 4 rfl) o_) ?_
 rintro _ bi ⟨b,h,rfl,ae,ht⟩
 have au:=yk 4 ad ht
 have cd:=(yy au (i:=4) rfl:h.A.ok)
 have cv:b<=s.live.length:=by rcases ae.oV with h9|h9<;>omega
 have cw:b<=65536:=by omega
 refine wX au 30 fun bj aN=>?_
 refine kO mixed [([0,1,2,3,4,5,6,7,8],[4,5])] [9] aN (fun bl av=>jR ?_)
 refine fK av 7 ?_
 refine ji (pvs:=[(0,(Za ((b:Nat):Int))),(1,(Zo (s.last+1))),(2,(Eh x)),(3,(Za x.exp))]) (v:=.agg #[(Za ((b:Nat):Int)),(Zo (s.last+1)),(Zo x.u),(Zo x.v),(Za x.wt),(Za x.t),(Za x.exp)]) rfl rfl (jA [(0,(Ze ((b:Nat):Int))),(1,(Zt (s.last+1))),(2,(Z0 x)),(3,(Ze x.exp))] nS Kt rfl ⟨rfl,rfl,rfl,rfl,rfl,rfl,rfl,rfl,trivial⟩ rfl) (iR av (fun q bm bn bo af=>?_))
 refine fQ af 1 ?_
 refine vi (lN rfl pX (lN rfl (qY (tM (cs:=(Z0 x)) rfl DB rfl vg rfl (lZ af (i:=8) (o:=0) (vs:=(Z0 x)) rfl rfl)) rfl rfl) (trivial))) (kU ?_)
 refine wX af 5 fun bp H=>?_
 refine ru 3 (iD (fR H 7 ?_))
 refine jm (m:=s.live.length) 2 rfl rfl sF H rfl (fK H 1 ?_)
 by_cases bq:((s.live.length:Int):Int)<=(((b:Nat):Int):Int)
 . refine fK H 13 ?_
   refine ji (pvs:=[]) (v:=.agg HA) rfl rfl (jA [] nS Kt rfl trivial rfl) (kj (vs:=[(.agg HA)]) (cs:=nE) rfl rfl sF nS rfl (by simp[Value.cells]) rfl rfl rfl H (fun aO br bs bt ax=>mW (cf:=Lv.cells) (ys:=s.live) (zs:=[(⟨0,0,0,0,0,0,0⟩:Lv)]) (LL:=fun B=>[row (Z6 aO) 107 7 1 (nE),blk q 107 (qK ((b:Nat):Int) (s.last+1) x),blk ub 143 (B8 fN fL (s.last+1) s (some s.mb)),fM Lv.cells B 107 7 (s.live++[(⟨0,0,0,0,0,0,0⟩:Lv)]),gY s.mb .u64 p_ s.im,jF 3 s.im,(AW.R s.jb h),(xM s),blk l 107 nE,blk j 61 (Z0 x)]) 3 rfl rfl rfl sF nS rfl d_ ax rfl (l7 ax (i:=0) rfl) (fun x hx=>zt.1 (show List.all _ _=true from rfl) x hx) (by simp only[zw,zh,zn,maxLen];omega) (by simp only[zw,zh,zn,maxLen];omega) f_ ?_))
   intro B bu aP bv
   have P:=yg [1,2,3,4,5,6,7,8,9] aP
   refine fK P 2 ?_
   refine j8 1 P (fun bw K=>?_) (hvs:=(cells_one (yu P (i:=2) rfl))) (h1:=(ic (yu P (i:=2) rfl) lB))
   refine fQ K 2 ?_
   refine tN (?_)
   refine iD (fR K 7 ?_)
   refine jm (m:=(s.live++[(⟨0,0,0,0,0,0,0⟩:Lv)]).length) 2 rfl rfl sF K rfl (fK K 1 ?_)
   refine cmp rfl rfl rfl (NN (by simp only[zw,zh,zn];omega)) (gO K 17 fun bx aQ=>?_)
   refine iQ (f:=(fun _=>(⟨((b:Nat):Int),s.last+1,x.u,x.v,x.wt,x.t,x.exp⟩:Lv))) 2 aQ (fun aR C=>?_)
   refine fK C 6 ?_
   refine ld rfl rfl yi rfl (k8 C 8 rfl rfl) (fK C 1 ?_)
   refine ld rfl rfl yi rfl (k8 C 8 rfl rfl) (ji (pvs:=[(0,(Zo x.u)),(1,(Zo x.v))]) (v:=.agg (vN x.u x.v)) rfl rfl (uG [(0,(Zt x.u)),(1,(Zt x.v))] ue y8 jx rfl ⟨rfl,rfl,rfl,rfl,trivial⟩ rfl s_) (gH C 4 ?_))
   refine ru 3 (iD (fR C 13 ?_))
   refine mJ (i:=0) rfl rfl rfl y8 yi rfl jx d_ rfl (fK C 10 ?_)
   refine cl EJ (Gs s.tb s.ab s.t aR (ye C 6 rfl) x.u (TW.Sw o_) T.u) ?_
   rintro _ bz ⟨bA,bB,L,rfl,Q,cg,ht⟩
   have ag:=yk 6 C ht
   have bk:=(yy ag (i:=6) rfl:L.ok)
   refine gH ag 2 ?_
   have aS:=yg [4,0,1,2,3,5,6,7,8] ag
   have aT:=zL x.u aS
   refine kO mixed [([0,1,2,3,4,5,6,7,8,9,10,11,12],[3,8,10]),([13],[3])] [14] aT (fun bC S=>jR ?_)
   refine fK S 10 ?_
   refine qT (a:=x.u) (mm:=s.im) (enc:=p_) (k:=.u64) 5 rfl rfl rfl yv yi kg rfl S rfl (fK S 1 ?_)
   refine kj (vs:=(Ze ((b:Nat):Int))) (cs:=(Ze ((b:Nat):Int))) rfl rfl yd gy rfl (by simp[Value.cells]) rfl rfl rfl S (fun aU bD bE bF U=>fQ U 1 ?_)
   refine vi (lN rfl pX (lN rfl pX (lN rfl (qY (yF (a:=x.u) (mm:=s.im) (enc:=p_) (k:=.u64) 6 rfl rfl yv yi kg rfl U rfl) rfl rfl) (trivial)))) (jR ?_)
   refine vU (k:=.i64) (ys:=gB (fT s.im x.u).2) (zs:=[((b:Nat):Int)]) (LL:=fun d=>[ir .i64 (Z6 aU) 3 ([((b:Nat):Int)]),ir .i64 d 3 ((gB (fT s.im x.u).2)++([((b:Nat):Int)])),jF 3 (iJ s.im x.u),blk q 107 (qK ((b:Nat):Int) (s.last+1) x),blk ub 143 (Em fN fL (s.last+1) s B (some s.mb)),fM Lv.cells B 107 7 (fO (s.live++[(⟨0,0,0,0,0,0,0⟩:Lv)]) b (fun _=>(⟨((b:Nat):Int),s.last+1,x.u,x.v,x.wt,x.t,x.exp⟩:Lv))),gY s.mb .u64 p_ s.im,(AW.R s.jb h),(Aj s L),blk l 107 nE,blk j 61 (Z0 x)]) 1 rfl rfl rfl yd gy rfl U rfl (l7 U (i:=0) rfl) (by simp only[zw,zh,zn,gB,zq,maxLen];have h7:=F x.u;have h8:=F x.v;first|omega|(rw[tP bc.1];omega)) (by simp only[zw,zh,zn,gB,zq,maxLen];have h7:=F x.u;have h8:=F x.v;first|omega|(rw[tP bc.1];omega)) f_ ?_
   intro d bG aV bH
   have ay:=yg [1,2,3,4,5,6,7,8,9,10] aV
   refine fQ ay 1 ?_
   refine kJ (kU ?_)
   refine qX (a:=x.u) (c:=(d,(fT s.im x.u).2++[b])) (mm:=s.im) (enc:=p_) (k:=.u64) (L' := (M0 d ((gB (fT s.im x.u).2)++([((b:Nat):Int)])) (iJ s.im x.u) q ((b:Nat):Int) (s.last+1) x ub fN fL s B (some s.mb) (fO (s.live++[(⟨0,0,0,0,0,0,0⟩:Lv)]) b (fun _=>(⟨((b:Nat):Int),s.last+1,x.u,x.v,x.wt,x.t,x.exp⟩:Lv))) (gx s.im x.u (d,(fT s.im x.u).2++[b])) h L l j)) 5 rfl rfl rfl rfl yv yi ay rfl rfl (fun az aA=>fQ aA 1 ?_)
   have M:St _ (MV (gx s.im x.u (d,(fT s.im x.u).2++[b])) q ((b:Nat):Int) (s.last+1) x ub fN fL s B (some s.mb) (fO (s.live++[(⟨0,0,0,0,0,0,0⟩:Lv)]) b (fun _=>(⟨((b:Nat):Int),s.last+1,x.u,x.v,x.wt,x.t,x.exp⟩:Lv))) h L l j) az:=zM (by have h9:=aA;rw[<-CU]at h9;exact h9)
   refine uZ tt none M 6 ?_
   refine tN (?_)
   refine iD (fR M 13 ?_)
   refine mJ (i:=1) rfl rfl rfl y8 yi rfl jx d_ rfl (fK M 10 ?_)
   refine cl EJ (Gs s.tb s.ab L az (ye M 6 rfl) x.v (Q.room o_) T.v) ?_
   rintro _ bI ⟨bJ,bK,I,rfl,ah,ch,ht⟩
   have ai:=yk 6 M ht
   have bk:=(yy ai (i:=6) rfl:I.ok)
   refine gH ai 2 ?_
   have aW:=zL x.v ai
   refine kO mixed [([0,1,2,3,4,5,6,7,8,9,10,11,12],[3,8,10]),([13],[3])] [14] aW (fun bL V=>jR ?_)
   refine fK V 10 ?_
   refine qT (a:=x.v) (mm:=(gx s.im x.u (d,(fT s.im x.u).2++[b]))) (enc:=p_) (k:=.u64) 5 rfl rfl rfl yv yi kg rfl V rfl (fK V 1 ?_)
   refine kj (vs:=(Ze ((b:Nat):Int))) (cs:=(Ze ((b:Nat):Int))) rfl rfl yd gy rfl (by simp[Value.cells]) rfl rfl rfl V (fun aX bM bN bO W=>fQ W 1 ?_)
   refine vi (lN rfl pX (lN rfl pX (lN rfl (qY (yF (a:=x.v) (mm:=(gx s.im x.u (d,(fT s.im x.u).2++[b]))) (enc:=p_) (k:=.u64) 6 rfl rfl yv yi kg rfl W rfl) rfl rfl) (trivial)))) (jR ?_)
   refine vU (k:=.i64) (ys:=gB (fT (gx s.im x.u (d,(fT s.im x.u).2++[b])) x.v).2) (zs:=[((b:Nat):Int)]) (LL:=fun D=>[ir .i64 (Z6 aX) 3 ([((b:Nat):Int)]),ir .i64 D 3 ((gB (fT (gx s.im x.u (d,(fT s.im x.u).2++[b])) x.v).2)++([((b:Nat):Int)])),jF 3 (iJ (gx s.im x.u (d,(fT s.im x.u).2++[b])) x.v),blk q 107 (qK ((b:Nat):Int) (s.last+1) x),blk ub 143 (Em fN fL (s.last+1) s B (some s.mb)),fM Lv.cells B 107 7 (fO (s.live++[(⟨0,0,0,0,0,0,0⟩:Lv)]) b (fun _=>(⟨((b:Nat):Int),s.last+1,x.u,x.v,x.wt,x.t,x.exp⟩:Lv))),gY s.mb .u64 p_ (gx s.im x.u (d,(fT s.im x.u).2++[b])),(AW.R s.jb h),(Aj s I),blk l 107 nE,blk j 61 (Z0 x)]) 1 rfl rfl rfl yd gy rfl W rfl (l7 W (i:=0) rfl) (by simp only[zw,zh,zn,gB,zq,maxLen];have h7:=F x.u;have h8:=F x.v;first|omega|(rw[tP bc.1];omega)) (by simp only[zw,zh,zn,gB,zq,maxLen];have h7:=F x.u;have h8:=F x.v;first|omega|(rw[tP bc.1];omega)) f_ ?_
   intro D bP aY bQ
   have aB:=yg [1,2,3,4,5,6,7,8,9,10] aY
   refine fQ aB 1 ?_
   refine kJ (kU ?_)
   refine qX (a:=x.v) (c:=(D,(fT (gx s.im x.u (d,(fT s.im x.u).2++[b])) x.v).2++[b])) (mm:=(gx s.im x.u (d,(fT s.im x.u).2++[b]))) (enc:=p_) (k:=.u64) (L' := (M0 D ((gB (fT (gx s.im x.u (d,(fT s.im x.u).2++[b])) x.v).2)++([((b:Nat):Int)])) (iJ (gx s.im x.u (d,(fT s.im x.u).2++[b])) x.v) q ((b:Nat):Int) (s.last+1) x ub fN fL s B (some s.mb) (fO (s.live++[(⟨0,0,0,0,0,0,0⟩:Lv)]) b (fun _=>(⟨((b:Nat):Int),s.last+1,x.u,x.v,x.wt,x.t,x.exp⟩:Lv))) (gx (gx s.im x.u (d,(fT s.im x.u).2++[b])) x.v (D,(fT (gx s.im x.u (d,(fT s.im x.u).2++[b])) x.v).2++[b])) h I l j)) 5 rfl rfl rfl rfl yv yi aB rfl rfl (fun aZ aC=>fQ aC 1 ?_)
   have aj:St _ (MV (gx (gx s.im x.u (d,(fT s.im x.u).2++[b])) x.v (D,(fT (gx s.im x.u (d,(fT s.im x.u).2++[b])) x.v).2++[b])) q ((b:Nat):Int) (s.last+1) x ub fN fL s B (some s.mb) (fO (s.live++[(⟨0,0,0,0,0,0,0⟩:Lv)]) b (fun _=>(⟨((b:Nat):Int),s.last+1,x.u,x.v,x.wt,x.t,x.exp⟩:Lv))) h I l j) aZ:=zM (by have h9:=aC;rw[<-CU]at h9;exact h9)
   refine uZ tt none aj 6 ?_
   refine tN (?_)
   refine iD (fR aj 15 ?_)
   refine j8 7 aj (fun bR ak=>?_)
   refine fQ ak 4 ?_
   refine og (v:=(HV ((b:Nat):Int) (s.last+1) x)) (v' := Zc) Tryz.results80 (oq (cs:=(qK ((b:Nat):Int) (s.last+1) x)) rfl xg rfl nS rfl (lZ ak (i:=7) (o:=0) (vs:=(qK ((b:Nat):Int) (s.last+1) x)) rfl rfl)) (pg rfl) ?_
   have a0:=yg [2,3,4,0,5,6,1,7,8] ak
   have cc:=hU.ins (e:=(⟨(b:Int),s.last+1,x.u,x.v,x.wt,x.t,x.exp⟩:Lv)) ae cd bk rfl rfl ⟨kH (by show _/\_;dsimp only;omega),oZ (by show _/\_;dsimp only;omega),T.u,T.v,T.wt,T.t,T.exp⟩ bc.1 (fun z=>by rw[ah.mem,Q.mem]) (by rw[ah.n,Q.n]) (lv2:=B) (ls:=fO (s.live++[(⟨0,0,0,0,0,0,0⟩:Lv)]) b (fun _=>(⟨((b:Nat):Int),s.last+1,x.u,x.v,x.wt,x.t,x.exp⟩:Lv))) (by unfold yP;rw[if_pos o_]<;>rfl) (im2:=(gx (gx s.im x.u (d,(fT s.im x.u).2++[b])) x.v (D,(fT (gx s.im x.u (d,(fT s.im x.u).2++[b])) x.v).2++[b]))) (by rw[tP bc.1];rfl)
   exact⟨b,(⟨s.jb,s.tb,s.ab,s.mb,B,s.last+1,h,I,fO (s.live++[(⟨0,0,0,0,0,0,0⟩:Lv)]) b (fun _=>(⟨((b:Nat):Int),s.last+1,x.u,x.v,x.wt,x.t,x.exp⟩:Lv)),(gx (gx s.im x.u (d,(fT s.im x.u).2++[b])) x.v (D,(fT (gx s.im x.u (d,(fT s.im x.u).2++[b])) x.v).2++[b]))⟩:fU),rfl,⟨cc.2,rfl,Q.yB ah cg ch⟩,yj (yp (p:=fU.ok fN fL (⟨s.jb,s.tb,s.ab,s.mb,B,s.last+1,h,I,fO (s.live++[(⟨0,0,0,0,0,0,0⟩:Lv)]) b (fun _=>(⟨((b:Nat):Int),s.last+1,x.u,x.v,x.wt,x.t,x.exp⟩:Lv)),(gx (gx s.im x.u (d,(fT s.im x.u).2++[b])) x.v (D,(fT (gx s.im x.u (d,(fT s.im x.u).2++[b])) x.v).2++[b]))⟩:fU)) (yc [_,_,_,_,_,_] _ a0) cc.1) ze⟩
 . refine gO H 18 fun bS a1=>?_
   refine iQ (f:=(fun _=>(⟨((b:Nat):Int),s.last+1,x.u,x.v,x.wt,x.t,x.exp⟩:Lv))) 2 a1 (fun a2 E=>?_)
   refine fK E 6 ?_
   refine ld rfl rfl yi rfl (k8 E 8 rfl rfl) (fK E 1 ?_)
   refine ld rfl rfl yi rfl (k8 E 8 rfl rfl) (ji (pvs:=[(0,(Zo x.u)),(1,(Zo x.v))]) (v:=.agg (vN x.u x.v)) rfl rfl (uG [(0,(Zt x.u)),(1,(Zt x.v))] ue y8 jx rfl ⟨rfl,rfl,rfl,rfl,trivial⟩ rfl s_) (gH E 4 ?_))
   refine ru 3 (iD (fR E 13 ?_))
   refine mJ (i:=0) rfl rfl rfl y8 yi rfl jx d_ rfl (fK E 10 ?_)
   refine cl EJ (Gs s.tb s.ab s.t a2 (ye E 6 rfl) x.u (TW.Sw o_) T.u) ?_
   rintro _ bT ⟨bU,bV,N,rfl,X,ci,ht⟩
   have al:=yk 6 E ht
   have bk:=(yy al (i:=6) rfl:N.ok)
   refine gH al 2 ?_
   have a3:=yg [4,0,1,2,3,5,6,7,8] al
   have a4:=zL x.u a3
   refine kO mixed [([0,1,2,3,4,5,6,7,8,9,10,11,12],[3,8,10]),([13],[3])] [14] a4 (fun bW Y=>jR ?_)
   refine fK Y 10 ?_
   refine qT (a:=x.u) (mm:=s.im) (enc:=p_) (k:=.u64) 5 rfl rfl rfl yv yi kg rfl Y rfl (fK Y 1 ?_)
   refine kj (vs:=(Ze ((b:Nat):Int))) (cs:=(Ze ((b:Nat):Int))) rfl rfl yd gy rfl (by simp[Value.cells]) rfl rfl rfl Y (fun a5 bX bY bZ Z=>fQ Z 1 ?_)
   refine vi (lN rfl pX (lN rfl pX (lN rfl (qY (yF (a:=x.u) (mm:=s.im) (enc:=p_) (k:=.u64) 6 rfl rfl yv yi kg rfl Z rfl) rfl rfl) (trivial)))) (jR ?_)
   refine vU (k:=.i64) (ys:=gB (fT s.im x.u).2) (zs:=[((b:Nat):Int)]) (LL:=fun g=>[ir .i64 (Z6 a5) 3 ([((b:Nat):Int)]),ir .i64 g 3 ((gB (fT s.im x.u).2)++([((b:Nat):Int)])),jF 3 (iJ s.im x.u),blk q 107 (qK ((b:Nat):Int) (s.last+1) x),blk ub 143 (B8 fN fL (s.last+1) s (some s.mb)),fM Lv.cells s.lv 107 7 (fO s.live b (fun _=>(⟨((b:Nat):Int),s.last+1,x.u,x.v,x.wt,x.t,x.exp⟩:Lv))),gY s.mb .u64 p_ s.im,(AW.R s.jb h),(Aj s N),blk l 107 nE,blk j 61 (Z0 x)]) 1 rfl rfl rfl yd gy rfl Z rfl (l7 Z (i:=0) rfl) (by simp only[zw,zh,zn,gB,zq,maxLen];have h7:=F x.u;have h8:=F x.v;first|omega|(rw[tP bc.1];omega)) (by simp only[zw,zh,zn,gB,zq,maxLen];have h7:=F x.u;have h8:=F x.v;first|omega|(rw[tP bc.1];omega)) f_ ?_
   intro g b0 a6 b1
   have aD:=yg [1,2,3,4,5,6,7,8,9,10] a6
   refine fQ aD 1 ?_
   refine kJ (kU ?_)
   refine qX (a:=x.u) (c:=(g,(fT s.im x.u).2++[b])) (mm:=s.im) (enc:=p_) (k:=.u64) (L' := (MZ g ((gB (fT s.im x.u).2)++([((b:Nat):Int)])) (iJ s.im x.u) q ((b:Nat):Int) (s.last+1) x ub fN fL s (some s.mb) (fO s.live b (fun _=>(⟨((b:Nat):Int),s.last+1,x.u,x.v,x.wt,x.t,x.exp⟩:Lv))) (gx s.im x.u (g,(fT s.im x.u).2++[b])) h N l j)) 5 rfl rfl rfl rfl yv yi aD rfl rfl (fun aE aF=>fQ aF 1 ?_)
   have O:St _ (Mx (gx s.im x.u (g,(fT s.im x.u).2++[b])) q ((b:Nat):Int) (s.last+1) x ub fN fL s (some s.mb) (fO s.live b (fun _=>(⟨((b:Nat):Int),s.last+1,x.u,x.v,x.wt,x.t,x.exp⟩:Lv))) h N l j) aE:=zM (by have h9:=aF;rw[<-CU]at h9;exact h9)
   refine uZ tt none O 6 ?_
   refine tN (?_)
   refine iD (fR O 13 ?_)
   refine mJ (i:=1) rfl rfl rfl y8 yi rfl jx d_ rfl (fK O 10 ?_)
   refine cl EJ (Gs s.tb s.ab N aE (ye O 6 rfl) x.v (X.room o_) T.v) ?_
   rintro _ b2 ⟨b3,b4,J,rfl,am,cj,ht⟩
   have an:=yk 6 O ht
   have bk:=(yy an (i:=6) rfl:J.ok)
   refine gH an 2 ?_
   have a7:=zL x.v an
   refine kO mixed [([0,1,2,3,4,5,6,7,8,9,10,11,12],[3,8,10]),([13],[3])] [14] a7 (fun b5 aa=>jR ?_)
   refine fK aa 10 ?_
   refine qT (a:=x.v) (mm:=(gx s.im x.u (g,(fT s.im x.u).2++[b]))) (enc:=p_) (k:=.u64) 5 rfl rfl rfl yv yi kg rfl aa rfl (fK aa 1 ?_)
   refine kj (vs:=(Ze ((b:Nat):Int))) (cs:=(Ze ((b:Nat):Int))) rfl rfl yd gy rfl (by simp[Value.cells]) rfl rfl rfl aa (fun a8 b6 b7 b8 ac=>fQ ac 1 ?_)
   refine vi (lN rfl pX (lN rfl pX (lN rfl (qY (yF (a:=x.v) (mm:=(gx s.im x.u (g,(fT s.im x.u).2++[b]))) (enc:=p_) (k:=.u64) 6 rfl rfl yv yi kg rfl ac rfl) rfl rfl) (trivial)))) (jR ?_)
   refine vU (k:=.i64) (ys:=gB (fT (gx s.im x.u (g,(fT s.im x.u).2++[b])) x.v).2) (zs:=[((b:Nat):Int)]) (LL:=fun G=>[ir .i64 (Z6 a8) 3 ([((b:Nat):Int)]),ir .i64 G 3 ((gB (fT (gx s.im x.u (g,(fT s.im x.u).2++[b])) x.v).2)++([((b:Nat):Int)])),jF 3 (iJ (gx s.im x.u (g,(fT s.im x.u).2++[b])) x.v),blk q 107 (qK ((b:Nat):Int) (s.last+1) x),blk ub 143 (B8 fN fL (s.last+1) s (some s.mb)),fM Lv.cells s.lv 107 7 (fO s.live b (fun _=>(⟨((b:Nat):Int),s.last+1,x.u,x.v,x.wt,x.t,x.exp⟩:Lv))),gY s.mb .u64 p_ (gx s.im x.u (g,(fT s.im x.u).2++[b])),(AW.R s.jb h),(Aj s J),blk l 107 nE,blk j 61 (Z0 x)]) 1 rfl rfl rfl yd gy rfl ac rfl (l7 ac (i:=0) rfl) (by simp only[zw,zh,zn,gB,zq,maxLen];have h7:=F x.u;have h8:=F x.v;first|omega|(rw[tP bc.1];omega)) (by simp only[zw,zh,zn,gB,zq,maxLen];have h7:=F x.u;have h8:=F x.v;first|omega|(rw[tP bc.1];omega)) f_ ?_
   intro G b9 a9 ca
   have aG:=yg [1,2,3,4,5,6,7,8,9,10] a9
   refine fQ aG 1 ?_
   refine kJ (kU ?_)
   refine qX (a:=x.v) (c:=(G,(fT (gx s.im x.u (g,(fT s.im x.u).2++[b])) x.v).2++[b])) (mm:=(gx s.im x.u (g,(fT s.im x.u).2++[b]))) (enc:=p_) (k:=.u64) (L' := (MZ G ((gB (fT (gx s.im x.u (g,(fT s.im x.u).2++[b])) x.v).2)++([((b:Nat):Int)])) (iJ (gx s.im x.u (g,(fT s.im x.u).2++[b])) x.v) q ((b:Nat):Int) (s.last+1) x ub fN fL s (some s.mb) (fO s.live b (fun _=>(⟨((b:Nat):Int),s.last+1,x.u,x.v,x.wt,x.t,x.exp⟩:Lv))) (gx (gx s.im x.u (g,(fT s.im x.u).2++[b])) x.v (G,(fT (gx s.im x.u (g,(fT s.im x.u).2++[b])) x.v).2++[b])) h J l j)) 5 rfl rfl rfl rfl yv yi aG rfl rfl (fun ba aH=>fQ aH 1 ?_)
   have ao:St _ (Mx (gx (gx s.im x.u (g,(fT s.im x.u).2++[b])) x.v (G,(fT (gx s.im x.u (g,(fT s.im x.u).2++[b])) x.v).2++[b])) q ((b:Nat):Int) (s.last+1) x ub fN fL s (some s.mb) (fO s.live b (fun _=>(⟨((b:Nat):Int),s.last+1,x.u,x.v,x.wt,x.t,x.exp⟩:Lv))) h J l j) ba:=zM (by have h9:=aH;rw[<-CU]at h9;exact h9)
   refine uZ tt none ao 6 ?_
   refine tN (?_)
   refine iD (fR ao 15 ?_)
   refine j8 7 ao (fun cb ap=>?_)
   refine fQ ap 4 ?_
   refine og (v:=(HV ((b:Nat):Int) (s.last+1) x)) (v' := Zc) Tryz.results80 (oq (cs:=(qK ((b:Nat):Int) (s.last+1) x)) rfl xg rfl nS rfl (lZ ap (i:=7) (o:=0) (vs:=(qK ((b:Nat):Int) (s.last+1) x)) rfl rfl)) (pg rfl) ?_
   have bb:=yg [2,3,4,0,5,6,1,7,8] ap
   have cc:=hU.ins (e:=(⟨(b:Int),s.last+1,x.u,x.v,x.wt,x.t,x.exp⟩:Lv)) ae cd bk rfl rfl ⟨kH (by show _/\_;dsimp only;omega),oZ (by show _/\_;dsimp only;omega),T.u,T.v,T.wt,T.t,T.exp⟩ bc.1 (fun z=>by rw[am.mem,X.mem]) (by rw[am.n,X.n]) (lv2:=s.lv) (ls:=fO s.live b (fun _=>(⟨((b:Nat):Int),s.last+1,x.u,x.v,x.wt,x.t,x.exp⟩:Lv))) (by unfold yP;rw[if_neg o_]<;>rfl) (im2:=(gx (gx s.im x.u (g,(fT s.im x.u).2++[b])) x.v (G,(fT (gx s.im x.u (g,(fT s.im x.u).2++[b])) x.v).2++[b]))) (by rw[tP bc.1];rfl)
   exact⟨b,(⟨s.jb,s.tb,s.ab,s.mb,s.lv,s.last+1,h,J,fO s.live b (fun _=>(⟨((b:Nat):Int),s.last+1,x.u,x.v,x.wt,x.t,x.exp⟩:Lv)),(gx (gx s.im x.u (g,(fT s.im x.u).2++[b])) x.v (G,(fT (gx s.im x.u (g,(fT s.im x.u).2++[b])) x.v).2++[b]))⟩:fU),rfl,⟨cc.2,rfl,X.yB am ci cj⟩,yj (yp (p:=fU.ok fN fL (⟨s.jb,s.tb,s.ab,s.mb,s.lv,s.last+1,h,J,fO s.live b (fun _=>(⟨((b:Nat):Int),s.last+1,x.u,x.v,x.wt,x.t,x.exp⟩:Lv)),(gx (gx s.im x.u (g,(fT s.im x.u).2++[b])) x.v (G,(fT (gx s.im x.u (g,(fT s.im x.u).2++[b])) x.v).2++[b]))⟩:fU)) (yc [_,_,_,_,_,_] _ bb) cc.1) ze⟩
end
section
open Go Go.Sx
end
end Go.Proofs.YthpnckhjmbbalaaGreatDoor
namespace Go.Proofs
open Go.Shelf Go.Lib Go.Sort Go.RowKit in
def Tryz.aaE:Go.Shelf.Ren:=⟨fun|23=>72|n=>n,fun|22=>65|3=>3|4=>4|0=>0|n=>n,fun|n=>n⟩
open Go.Shelf Go.Lib Go.Sort Go.RowKit in
theorem Tryz.aaD:Go.Proofs.Lays2.n23 Proofs.Tryz.prog Tryz.aaE where
 mixed:=by kernel_rfl
 f23:=Proofs.Tryz.func72.trans (congrArg some<|by kernel_rfl)
 t0:=Proofs.Tryz.underlying0
 a0:=Proofs.Tryz.isAgg0
 z0:=Proofs.Tryz.sizeOf0
 v0:=Proofs.Tryz.zeroValue0
 t3:=Proofs.Tryz.underlying3
 a3:=Proofs.Tryz.isAgg3
 z3:=Proofs.Tryz.sizeOf3
 v3:=Proofs.Tryz.zeroValue3
 t4:=Proofs.Tryz.underlying4
 a4:=Proofs.Tryz.isAgg4
 z4:=Proofs.Tryz.sizeOf4
 v4:=Proofs.Tryz.zeroValue4
 t22:=Proofs.Tryz.underlying65
 a22:=Proofs.Tryz.isAgg65
 z22:=Proofs.Tryz.sizeOf65
 v22:=Proofs.Tryz.zeroValue65
 i3:=by kernel_rfl
end Go.Proofs
namespace Go.Proofs.YthpnckhjmbbalaaGreatDoor
section
open Go Go.Sx
theorem IB(v:Value)(xs:List Int)(w:World)(i:Nat)(f:Own (ir .i64 v 3 xs) w)(hi:i<xs.length) :
 CR ya 72 #[v,.int .i64 (i:Int),.int .i64 ((i+1:Nat):Int)] w (fun r w' => fZ (ir .i64 v 3 xs) w w' (ir .i64 r 3 (xs.eraseIdx i))) :=
 Wo f hi fun b a c d e=>Any.slices_Delete_int Tryz.aaD b 0 a i (i+1) xs w c d e o_ o_
theorem Jk(v:Value)(xs:List Int)(x:Int)(k:Nat)(w:World)(hv:Ints .i64 (fun _=>True) w v xs)(A:xs.length<=1000000)(hk:xs[k]? = some x)(t:∀ (j:Nat) (y:Int),j<k->xs[j]? = some y->y≠x) :
 CR ya 71 #[v,(Za x)] w (fun r w' => r = .int .i64 (k:Int)/\gA [] w w'):=by
 have z:=(zk.1 hk).1
 refine en Tryz.func71 Tryz.ntmps71 ?_
 have o:=yt w
 refine fR o 9 ?_
 refine k6 (v:=v) rfl rfl yd hv (gH o 4 ?_)
 refine lp (α:=Nat) (fun q=>[(0,v),(1,(Za x)),(7,(Za xs.length)),(8,(Za q))]) (fun q w1=>St [(w,[])] [] w1/\q<=k) (fun q=>k-q) 0 ⟨rfl,rfl,rfl,gr rO,trivial⟩ (⟨o,o_⟩) ?_
 rintro q d e ⟨m,B⟩
 obtain⟨y,n⟩:=pS (show q<xs.length by omega)
 refine fR m 2 ?_
 refine cmp rfl rfl rfl (qo o_) (fK m 19 ?_)
 refine CB (i:=(q:Int)) (el:=y) rfl rfl rfl yd gy (St.Fb m s_ hv) o_ (by rw[show ((q:Nat):Int).toNat=q by omega];exact n) ?_
 intro f g b c h
 have l:=c.i64
 refine ld rfl rfl yf rfl b ?_
 by_cases a:(x:Int)=(y:Int)
 . have u:q=k:=(xB q k).elim (fun p=>absurd (show y=x from by have s:=a;omega) (t q y p n)) (fun p=>by omega)
   refine fQ m 16 ?_
   refine gp (v:=(Za q)) Tryz.results71 rfl ?_
   obtain rfl:q=k:=by omega
   exact⟨rfl,m.gD s_⟩
 . have u:q≠k:=by rintro rfl;rw[hk]at n;cases n;exact(by have s:=a;omega:False)
   refine fQ m 11 ?_
   refine tN (?_)
   exact again (q+1) ⟨rfl,rfl,rfl,gr rO,trivial⟩ (⟨m,o_⟩) (by show (k-(q+1):Nat)<k-q;omega)
theorem TU(fN fL ub:Nat)(s:fU)(w:World)(hO:Own (fU.R fN fL ub s) w)(i:Nat)(hi:s.A.gW i) :
 CR ya 40 (Zm ub i) w (fun r w' => ∃ (s2:fU),r = .tuple #[(Ab (fJ s.live i)),.int .i64 0]/\((∀ y,s2.has y↔s.has y/\y.slot≠(i:Int))/\s2.last=s.last/\TW.Kp s.t s2.t)/\fZ (fU.R fN fL ub s) w w' (fU.R fN fL ub s2)):=by
 have cb:s.t.A.used<=s.t.A.n:=hO.fact.tok.ul
 have b6:=hO.fact.n
 have b7:=hO.fact.tn
 have b5:=hO.fact.en
 have b8:=hO.fact.vn
 have b4:s.A.used<=s.A.begun:=by have T:=hO.fact.kW.used;omega
 have b3:=hO.fact.kW.le
 have ca:=hO.fact.ll
 have b9:=hi.1
 have bY:=hO.fact.ne i hi
 refine en Tryz.func40 Tryz.ntmps40 ?_
 have b2:=Own.of hO.un
 have F:s.ok fN fL:=hO.fact
 refine fR b2 2 ?_
 refine iR b2 (fun C aT bE bF an=>?_)
 have aU:=yg [1,2,3,4,5,6,0] an
 have ao:=yp (p:=s.ok fN fL) (yc [_,_,_,_,_,_] _ aU) F
 refine fK an 7 ?_
 refine cl wg (xd fN fL ub s aT (ye ao 0 rfl)) ?_
 rintro _ aV ⟨rfl,ht⟩
 have aW:=yk 0 ao ht
 have Y:=(jP aW).unpack
 refine fK Y 14 ?_
 refine cl O6 (T8 s.jb s.aw aV (ye Y 4 rfl) i hi) ?_
 rintro _ bG ⟨g,rfl,S,ht⟩
 have Z:=yk 4 Y ht
 have bX:=(yy Z (i:=4) rfl:g.A.ok)
 refine fK Z 21 ?_
 refine iR Z (fun D bH bI bJ aX=>?_)
 refine gO aX 10 fun bK ap=>?_
 refine ji (pvs:=[]) (v:=.agg HA) rfl rfl (jA [] nS Kt rfl trivial rfl) (fK ap 1 ?_)
 refine iQ (f:=(fun _=>(⟨0,0,0,0,0,0,0⟩:Lv))) 2 ap (fun aY K=>?_)
 refine fK K 11 ?_
 refine ji (pvs:=[(0,(Zo ((fJ s.live i).u))),(1,(Zo ((fJ s.live i).v)))]) (v:=.agg (vN ((fJ s.live i).u) ((fJ s.live i).v))) rfl rfl (uG [(0,(Zt ((fJ s.live i).u))),(1,(Zt ((fJ s.live i).v)))] ue y8 jx rfl ⟨rfl,rfl,rfl,rfl,trivial⟩ rfl s_) (gH K 4 ?_)
 refine ru 3 (iD (fR K 13 ?_))
 refine mJ (i:=0) rfl rfl rfl y8 yi rfl jx d_ rfl ?_
 have aZ:=yg [4,0,1,2,3,5,6,7] K
 have L:=zL ((fJ s.live i).u) aZ
 refine fK K 10 ?_
 refine qT (a:=(fJ s.live i).u) (mm:=s.im) (enc:=p_) (k:=.u64) 5 rfl rfl rfl yv yi kg rfl L rfl (vW (v:=((pO s i).1)) rfl rfl (fK L 5 ?_))
 refine mv (v:=((pO s i).1)) rfl rfl ?_
 have a0:=((F.inc (fJ s.live i).u i).2 ⟨hi,.inl rfl⟩)
 obtain⟨b,aq,au,a1⟩:=Jf a0 (F.nd _)
 have a2:b<(gB (pO s i).2).length:=(zk.1 au).1
 have av:(gB (pO s i).2).length<=1000000:=by rw[gB,zq];exact lq (F.Jj _) d_
 refine fK L 1 ?_
 refine cl IV (Jk ((pO s i).1) (gB (pO s i).2) (i:Int) b aY (xl L (i:=0) rfl (J6 (by rw[gB,zq]at av;exact fun j hj=>Ji F (fun _ h=>h) hj))).any av au a1) ?_
 rintro _ a3 ⟨rfl,a4⟩
 have M:=yq L a4
 refine fK M 6 ?_
 refine cmp rfl rfl rfl (nY o_) (fK M 4 ?_)
 refine mv (v:=((pO s i).1)) rfl rfl (fK M 2 ?_)
 refine ar (e:=((b+1:Nat):Int)) rfl rfl rfl rfl i7 (cl IW (IB ((pO s i).1) (gB (pO s i).2) a3 b (ye M 0 rfl) a2) ?_)
 rintro d bL ht
 have bZ:=yk 0 M ht
 rw[J5]at bZ
 have E:=bZ
 refine fK E 7 ?_
 refine jm (m:=(gB ((pO s i).2.eraseIdx b)).length) 0 rfl rfl yd E rfl ?_
 by_cases ax:((((gB ((pO s i).2.eraseIdx b)).length:Nat):Int):Int)>(0:Int)
 . have a5:(pO s i).2.eraseIdx b≠[]:=by intro e9;have T:=@ax;rw[e9]at T;simp[gB]at T
   refine fK E 12 ?_
   refine qX (a:=(fJ s.live i).u) (c:=(d,(pO s i).2.eraseIdx b)) (mm:=s.im) (enc:=p_) (k:=.u64) (L' := (M1 d (gB ((fT s.im ((fJ s.live i).u)).2.eraseIdx b)) (iJ s.im ((fJ s.live i).u)) D (fJ s.live i) ub fN fL s (some s.mb) (fO s.live i (fun _=>(⟨0,0,0,0,0,0,0⟩:Lv))) (gx s.im ((fJ s.live i).u) (d,(fT s.im ((fJ s.live i).u)).2.eraseIdx b)) g C)) 5 rfl rfl rfl rfl yv yi E rfl rfl ?_
   intro a6 ay
   have aa:=zM ay
   have x:mD s.im s.t (uD s i d b) s.t (fJ s.live i).u i:=mD.keep (F.nd _) aq a5
   refine fQ ay 10 ?_
   refine tN (?_)
   refine iD (fR aa 13 ?_)
   refine mJ (i:=1) rfl rfl rfl y8 yi rfl jx d_ rfl ?_
   have N:=zL ((fJ s.live i).v) aa
   refine fK aa 10 ?_
   refine qT (a:=(fJ s.live i).v) (mm:=(uD s i d b)) (enc:=p_) (k:=.u64) 5 rfl rfl rfl yv yi kg rfl N rfl (vW (v:=((pN s i d b).1)) rfl rfl (fK N 5 ?_))
   refine mv (v:=((pN s i d b).1)) rfl rfl ?_
   have a7:=((x.get (fJ s.live i).v i).2 ⟨(F.inc (fJ s.live i).v i).2 ⟨hi,.inr rfl⟩,fun e=>absurd e.symm bY⟩)
   obtain⟨l,az,aA,a8⟩:=Jf a7 (x.nd F.nd _)
   have a9:l<(gB (pN s i d b).2).length:=(zk.1 aA).1
   have aB:(gB (pN s i d b).2).length<=1000000:=by rw[gB,zq];exact lq (inc_le F x _) d_
   refine fK N 1 ?_
   refine cl IV (Jk ((pN s i d b).1) (gB (pN s i d b).2) (i:Int) l a6 (xl N (i:=0) rfl (J6 (by rw[gB,zq]at aB;exact fun j hj=>Ji F (fun _ h=>((x.get _ _).1 h).1) hj))).any aB aA a8) ?_
   rintro _ ba ⟨rfl,bb⟩
   have O:=yq N bb
   refine fK O 6 ?_
   refine cmp rfl rfl rfl (nY o_) (fK O 4 ?_)
   refine mv (v:=((pN s i d b).1)) rfl rfl (fK O 2 ?_)
   refine ar (e:=((l+1:Nat):Int)) rfl rfl rfl rfl i7 (cl IW (IB ((pN s i d b).1) (gB (pN s i d b).2) ba l (ye O 0 rfl) a9) ?_)
   rintro G bM ht
   have b0:=yk 0 O ht
   rw[J5]at b0
   have H:=b0
   refine fK H 7 ?_
   refine jm (m:=(gB ((pN s i d b).2.eraseIdx l)).length) 0 rfl rfl yd H rfl ?_
   by_cases aC:((((gB ((pN s i d b).2.eraseIdx l)).length:Nat):Int):Int)>(0:Int)
   . have bc:(pN s i d b).2.eraseIdx l≠[]:=by intro e9;have T:=@aC;rw[e9]at T;simp[gB]at T
     refine fK H 12 ?_
     refine qX (a:=(fJ s.live i).v) (c:=(G,(pN s i d b).2.eraseIdx l)) (mm:=(uD s i d b)) (enc:=p_) (k:=.u64) (L' := (M1 G (gB ((fT (gx s.im ((fJ s.live i).u) (d,(fT s.im ((fJ s.live i).u)).2.eraseIdx b)) ((fJ s.live i).v)).2.eraseIdx l)) (iJ (gx s.im ((fJ s.live i).u) (d,(fT s.im ((fJ s.live i).u)).2.eraseIdx b)) ((fJ s.live i).v)) D (fJ s.live i) ub fN fL s (some s.mb) (fO s.live i (fun _=>(⟨0,0,0,0,0,0,0⟩:Lv))) (gx (gx s.im ((fJ s.live i).u) (d,(fT s.im ((fJ s.live i).u)).2.eraseIdx b)) ((fJ s.live i).v) (G,(fT (gx s.im ((fJ s.live i).u) (d,(fT s.im ((fJ s.live i).u)).2.eraseIdx b)) ((fJ s.live i).v)).2.eraseIdx l)) g C)) 5 rfl rfl rfl rfl yv yi H rfl rfl ?_
     intro bN aD
     have aE:=zM aD
     have aF:mD (uD s i d b) s.t (HT s i d b G l) s.t (fJ s.live i).v i:=mD.keep (x.nd F.nd _) az bc
     refine fQ aD 10 ?_
     refine tN (?_)
     refine iD (fR aE 15 ?_)
     refine j8 7 aE (fun bO ac=>?_)
     refine fQ ac 4 ?_
     refine og (v:=(Ab (fJ s.live i))) (v' := Zc) GK (oq (cs:=(Z9 (fJ s.live i))) rfl xg rfl nS rfl (lZ ac (i:=7) (o:=0) (vs:=(Z9 (fJ s.live i))) rfl rfl)) (pg rfl) ?_
     have aG:=yg [2,3,4,0,5,6,1,7] ac
     have bW:=(yy aG (i:=5) rfl:s.t.ok)
     have bk:=F.rem hi S bX bW x aF (lv2:=s.lv) (ls:=fO s.live i (fun _=>(⟨0,0,0,0,0,0,0⟩:Lv))) rfl
     exact⟨(⟨s.jb,s.tb,s.ab,s.mb,s.lv,s.last,g,s.t,fO s.live i (fun _=>(⟨0,0,0,0,0,0,0⟩:Lv)),(HT s i d b G l)⟩:fU),rfl,⟨bk.2,rfl,aF.yB (TW.Kp.refl _) (TW.Kp.refl _)⟩,yj (yp (p:=fU.ok fN fL (⟨s.jb,s.tb,s.ab,s.mb,s.lv,s.last,g,s.t,fO s.live i (fun _=>(⟨0,0,0,0,0,0,0⟩:Lv)),(HT s i d b G l)⟩:fU)) (yc [_,_,_,_,_,_] _ aG) bk.1) ze⟩
   . have bd:(pN s i d b).2.eraseIdx l=[]:=by have T:=@aC;simp only[gB,zq]at T;exact um o_
     have be:=yg [1,2,3,4,5,6,7,8] H
     refine fK H 13 ?_
     refine Cj (a:=(fJ s.live i).v) (mm:=(uD s i d b)) (enc:=p_) (k:=.u64) (L' := (MW (iJ (gx s.im ((fJ s.live i).u) (d,(fT s.im ((fJ s.live i).u)).2.eraseIdx b)) ((fJ s.live i).v)) D (fJ s.live i) ub fN fL s (some s.mb) (fO s.live i (fun _=>(⟨0,0,0,0,0,0,0⟩:Lv))) g C)) 4 rfl rfl rfl yv yi be rfl rfl ?_
     intro bf ad
     obtain⟨bg,bh,bi⟩:=((x.mem (fJ s.live i).v).2 ⟨(F.mem (fJ s.live i).v).2 ⟨i,hi,.inr rfl⟩,fun e=>absurd e.symm bY⟩)
     refine fK ad 8 ?_
     refine cl IX (Ld s.tb s.ab s.t bf (ye ad 6 rfl) (fJ s.live i).v bg bh bi) ?_
     rintro _ bP ⟨U,rfl,ae,ht⟩
     have af:=yk 6 ad ht
     have aH:mD (uD s i d b) s.t (HS s i d b) U (fJ s.live i).v i:=mD.drop (x.keys F.keys) (x.nd F.nd _) az bd ae.1 ae.2.1
     refine fQ af 7 ?_
     refine tN (?_)
     refine iD (fR af 15 ?_)
     refine j8 7 af (fun bQ ag=>?_)
     refine fQ ag 4 ?_
     refine og (v:=(Ab (fJ s.live i))) (v' := Zc) GK (oq (cs:=(Z9 (fJ s.live i))) rfl xg rfl nS rfl (lZ ag (i:=7) (o:=0) (vs:=(Z9 (fJ s.live i))) rfl rfl)) (pg rfl) ?_
     have aI:=yg [2,3,4,0,5,6,1,7] ag
     have bW:=(yy aI (i:=5) rfl:U.ok)
     have bk:=F.rem hi S bX bW x aH (lv2:=s.lv) (ls:=fO s.live i (fun _=>(⟨0,0,0,0,0,0,0⟩:Lv))) rfl
     exact⟨(⟨s.jb,s.tb,s.ab,s.mb,s.lv,s.last,g,U,fO s.live i (fun _=>(⟨0,0,0,0,0,0,0⟩:Lv)),(HS s i d b)⟩:fU),rfl,⟨bk.2,rfl,aH.yB (TW.Kp.refl _) ae.2.2.2.2⟩,yj (yp (p:=fU.ok fN fL (⟨s.jb,s.tb,s.ab,s.mb,s.lv,s.last,g,U,fO s.live i (fun _=>(⟨0,0,0,0,0,0,0⟩:Lv)),(HS s i d b)⟩:fU)) (yc [_,_,_,_,_,_] _ aI) bk.1) ze⟩
 . have bj:(pO s i).2.eraseIdx b=[]:=by have T:=@ax;simp only[gB,zq]at T;exact um o_
   have bl:=yg [1,2,3,4,5,6,7,8] E
   refine fK E 13 ?_
   refine Cj (a:=(fJ s.live i).u) (mm:=s.im) (enc:=p_) (k:=.u64) (L' := (MW (iJ s.im ((fJ s.live i).u)) D (fJ s.live i) ub fN fL s (some s.mb) (fO s.live i (fun _=>(⟨0,0,0,0,0,0,0⟩:Lv))) g C)) 4 rfl rfl rfl yv yi bl rfl rfl ?_
   intro bm ah
   obtain⟨bn,bo,bp⟩:=((F.mem (fJ s.live i).u).2 ⟨i,hi,.inl rfl⟩)
   refine fK ah 8 ?_
   refine cl IX (Ld s.tb s.ab s.t bm (ye ah 6 rfl) (fJ s.live i).u bn bo bp) ?_
   rintro _ bq ⟨z,rfl,V,ht⟩
   have W:=yk 6 ah ht
   have B:mD s.im s.t (uE s i) z (fJ s.live i).u i:=mD.drop F.keys (F.nd _) aq bj V.1 V.2.1
   refine fQ W 7 ?_
   refine tN (?_)
   refine iD (fR W 13 ?_)
   refine mJ (i:=1) rfl rfl rfl y8 yi rfl jx d_ rfl ?_
   have P:=zL ((fJ s.live i).v) W
   refine fK W 10 ?_
   refine qT (a:=(fJ s.live i).v) (mm:=(uE s i)) (enc:=p_) (k:=.u64) 5 rfl rfl rfl yv yi kg rfl P rfl (vW (v:=((oT s i).1)) rfl rfl (fK P 5 ?_))
   refine mv (v:=((oT s i).1)) rfl rfl ?_
   have br:=((B.get (fJ s.live i).v i).2 ⟨(F.inc (fJ s.live i).v i).2 ⟨hi,.inr rfl⟩,fun e=>absurd e.symm bY⟩)
   obtain⟨q,aJ,aK,bs⟩:=Jf br (B.nd F.nd _)
   have bt:q<(gB (oT s i).2).length:=(zk.1 aK).1
   have aL:(gB (oT s i).2).length<=1000000:=by rw[gB,zq];exact lq (inc_le F B _) d_
   refine fK P 1 ?_
   refine cl IV (Jk ((oT s i).1) (gB (oT s i).2) (i:Int) q bq (xl P (i:=0) rfl (J6 (by rw[gB,zq]at aL;exact fun j hj=>Ji F (fun _ h=>((B.get _ _).1 h).1) hj))).any aL aK bs) ?_
   rintro _ bu ⟨rfl,bv⟩
   have Q:=yq P bv
   refine fK Q 6 ?_
   refine cmp rfl rfl rfl (nY o_) (fK Q 4 ?_)
   refine mv (v:=((oT s i).1)) rfl rfl (fK Q 2 ?_)
   refine ar (e:=((q+1:Nat):Int)) rfl rfl rfl rfl i7 (cl IW (IB ((oT s i).1) (gB (oT s i).2) bu q (ye Q 0 rfl) bt) ?_)
   rintro I bR ht
   have b1:=yk 0 Q ht
   rw[J5]at b1
   have J:=b1
   refine fK J 7 ?_
   refine jm (m:=(gB ((oT s i).2.eraseIdx q)).length) 0 rfl rfl yd J rfl ?_
   by_cases aM:((((gB ((oT s i).2.eraseIdx q)).length:Nat):Int):Int)>(0:Int)
   . have bw:(oT s i).2.eraseIdx q≠[]:=by intro e9;have T:=@aM;rw[e9]at T;simp[gB]at T
     refine fK J 12 ?_
     refine qX (a:=(fJ s.live i).v) (c:=(I,(oT s i).2.eraseIdx q)) (mm:=(uE s i)) (enc:=p_) (k:=.u64) (L' := [ir .i64 I 3 (gB ((oT s i).2.eraseIdx q)),jF 3 (Aq s i),blk D 107 (Z9 (fJ s.live i)),blk ub 143 (pQ fN fL s (some s.mb)),fM Lv.cells s.lv 107 7 (fO s.live i (fun _=>(⟨0,0,0,0,0,0,0⟩:Lv))),gY s.mb .u64 p_ (D4 s i I q),(AW.R s.jb g),(Aj s z),blk C 107 nE]) 5 rfl rfl rfl rfl yv yi J rfl rfl ?_
     intro bS aN
     have aO:=zM aN
     have aP:mD (uE s i) z (D4 s i I q) z (fJ s.live i).v i:=mD.keep (B.nd F.nd _) aJ bw
     refine fQ aN 10 ?_
     refine tN (?_)
     refine iD (fR aO 15 ?_)
     refine j8 7 aO (fun bT ai=>?_)
     refine fQ ai 4 ?_
     refine og (v:=(Ab (fJ s.live i))) (v' := Zc) GK (oq (cs:=(Z9 (fJ s.live i))) rfl xg rfl nS rfl (lZ ai (i:=7) (o:=0) (vs:=(Z9 (fJ s.live i))) rfl rfl)) (pg rfl) ?_
     have aQ:=yg [2,3,4,0,5,6,1,7] ai
     have bW:=(yy aQ (i:=5) rfl:z.ok)
     have bk:=F.rem hi S bX bW B aP (lv2:=s.lv) (ls:=fO s.live i (fun _=>(⟨0,0,0,0,0,0,0⟩:Lv))) rfl
     exact⟨(⟨s.jb,s.tb,s.ab,s.mb,s.lv,s.last,g,z,fO s.live i (fun _=>(⟨0,0,0,0,0,0,0⟩:Lv)),(D4 s i I q)⟩:fU),rfl,⟨bk.2,rfl,aP.yB V.2.2.2.2 (TW.Kp.refl _)⟩,yj (yp (p:=fU.ok fN fL (⟨s.jb,s.tb,s.ab,s.mb,s.lv,s.last,g,z,fO s.live i (fun _=>(⟨0,0,0,0,0,0,0⟩:Lv)),(D4 s i I q)⟩:fU)) (yc [_,_,_,_,_,_] _ aQ) bk.1) ze⟩
   . have bx:(oT s i).2.eraseIdx q=[]:=by have T:=@aM;simp only[gB,zq]at T;exact um o_
     have bz:=yg [1,2,3,4,5,6,7,8] J
     refine fK J 13 ?_
     refine Cj (a:=(fJ s.live i).v) (mm:=(uE s i)) (enc:=p_) (k:=.u64) (L' := [jF 3 (Aq s i),blk D 107 (Z9 (fJ s.live i)),blk ub 143 (pQ fN fL s (some s.mb)),fM Lv.cells s.lv 107 7 (fO s.live i (fun _=>(⟨0,0,0,0,0,0,0⟩:Lv))),gY s.mb .u64 p_ (Aq s i),(AW.R s.jb g),(Aj s z),blk C 107 nE]) 4 rfl rfl rfl yv yi bz rfl rfl ?_
     intro bA aj
     obtain⟨bB,bC,bD⟩:=((B.mem (fJ s.live i).v).2 ⟨(F.mem (fJ s.live i).v).2 ⟨i,hi,.inr rfl⟩,fun e=>absurd e.symm bY⟩)
     refine fK aj 8 ?_
     refine cl IX (Ld s.tb s.ab z bA (ye aj 6 rfl) (fJ s.live i).v bB bC bD) ?_
     rintro _ bU ⟨X,rfl,ak,ht⟩
     have al:=yk 6 aj ht
     have aR:mD (uE s i) z (Aq s i) X (fJ s.live i).v i:=mD.drop (B.keys F.keys) (B.nd F.nd _) aJ bx ak.1 ak.2.1
     refine fQ al 7 ?_
     refine tN (?_)
     refine iD (fR al 15 ?_)
     refine j8 7 al (fun bV am=>?_)
     refine fQ am 4 ?_
     refine og (v:=(Ab (fJ s.live i))) (v' := Zc) GK (oq (cs:=(Z9 (fJ s.live i))) rfl xg rfl nS rfl (lZ am (i:=7) (o:=0) (vs:=(Z9 (fJ s.live i))) rfl rfl)) (pg rfl) ?_
     have aS:=yg [2,3,4,0,5,6,1,7] am
     have bW:=(yy aS (i:=5) rfl:X.ok)
     have bk:=F.rem hi S bX bW B aR (lv2:=s.lv) (ls:=fO s.live i (fun _=>(⟨0,0,0,0,0,0,0⟩:Lv))) rfl
     exact⟨(⟨s.jb,s.tb,s.ab,s.mb,s.lv,s.last,g,X,fO s.live i (fun _=>(⟨0,0,0,0,0,0,0⟩:Lv)),(Aq s i)⟩:fU),rfl,⟨bk.2,rfl,aR.yB V.2.2.2.2 ak.2.2.2.2⟩,yj (yp (p:=fU.ok fN fL (⟨s.jb,s.tb,s.ab,s.mb,s.lv,s.last,g,X,fO s.live i (fun _=>(⟨0,0,0,0,0,0,0⟩:Lv)),(Aq s i)⟩:fU)) (yc [_,_,_,_,_,_] _ aS) bk.1) ze⟩
end
section
open Go Go.Sx
theorem afJ(fN fL:Nat)(w:World)(hv:fN<=4096)(I:fL<=16384) :
 CR ya 62 #[(Za fN),(Za fL),sP] w (fun r w' => ∃ (ub:Nat) (s:fU),r = .tuple (Z2 ub)/\((∀ y,¬ s.has y)/\s.last=0)/\fZ (gq []) w w' (fU.R fN fL ub s)):=by
 refine en Tryz.func62 Tryz.ntmps62 ?_
 have F:=yt w
 refine fR F 10 ?_
 refine cmp rfl rfl rfl (lC o_) (fK F 2 ?_)
 refine cmp rfl rfl rfl (pR o_) (fK F 3 ?_)
 refine cmp rfl rfl rfl (lC o_) (fK F 3 ?_)
 refine cmp rfl rfl rfl (pR o_) (fK F 13 ?_)
 refine cl Pd (Ug fL w o_) ?_
 rintro _ o ⟨a,f,rfl,q,G⟩
 have h:=(ki F G)
 refine fK h 20 ?_
 refine cl WG (afr fN o o_) ?_
 rintro _ z ⟨b,d,e,rfl,j,G⟩
 have k:=(ki h G)
 refine fK k 24 ?_
 refine mkV p_ .u64 rfl rfl k (fun c A B C t=>ji (pvs:=[(0,(Za fN)),(1,(Za fL)),(2,sP),(3,(Zb a)),(4,(Zb b)),(6,(.map (some c)))]) (v:=.agg #[(Za fN),(Za fL),sP,(Zb a),(Zb b),Zg,(.map (some c))]) rfl rfl (jA [(0,(Ze fN)),(1,(Ze fL)),(2,BZ),(3,(Zi a)),(4,(Zi b)),(6,[(.map (some c))])] To acU rfl ⟨rfl,rfl,rfl,rfl,rfl,rfl,rfl,rfl,rfl,rfl,rfl,rfl,trivial⟩ rfl) (iF t (fun g l D E m=>?_)))
 refine fQ m 5 ?_
 refine iH (v:=(Zb g)) (v' := Zc) Tryz.results62 rfl rfl ?_
 have u:St _ [fM Lv.cells Zg 107 7 ([]),blk g 143 (M5 fN fL a b (some c)),gY c .u64 p_ ([]),(TW.R b d e),(AW.R a f)] l:=rA m 107 7
 have x:St _ [jF 3 [],fM Lv.cells Zg 107 7 ([]),blk g 143 (M5 fN fL a b (some c)),gY c .u64 p_ ([]),(TW.R b d e),(AW.R a f)] l:=St.I1 u
 have n:=yg [2,1,3,0,5,4] x
 have J:=(yy n (i:=5) rfl:e.ok)
 have H:=fU.tQ q J j.1 j.2.1 I hv a b d c
 exact⟨g,(⟨a,b,d,c,.slice none 0 0,0,f,e,[],[]⟩:fU),rfl,⟨H.2,rfl⟩,vq (yp (p:=fU.ok fN fL (⟨a,b,d,c,.slice none 0 0,0,f,e,[],[]⟩:fU)) (yc [_,_,_,_,_,_] _ n) H.1) s_⟩
end
section
open Go Go.Sx
theorem aez(fb nb m:Nat)(ed:Int)(xs:List Nd)(w:World)(g:(Ao fb nb m ed).holds w)(f:(blk nb 192 (xs.flatMap Nd.cells)).holds w)(hm:xs.length=m)(hb:m<=1000001)(e:gf xs)(i:Nat)(hi:i<m) :
 CR ya 174 (Zm fb i) w (fun r w' => r = .tuple (Z7 ((jH xs i).1:Int) ((jH xs i).2))/\gA [] w w'):=by
 have h:=e.up i o_
 refine en Tryz.func174 Tryz.ntmps174 ?_
 have d:=yt w
 refine fR d 23 ?_
 by_cases a:(((fJ xs i).up:Int):Int)=(0:Int)
 . refine fQ d 12 ?_
   refine iH (v:=Zc) (v' := Zn) GF rfl rfl ?_
   exact⟨by simp only[jH];(repeat' split)<;>(first|rfl|omega),d.gD s_⟩
 . refine fK d 14 ?_
   refine jk (o' := ((fJ xs i).up)*9+0) (i:=((fJ xs i).up:Int)) rfl rfl rfl yh jj o_ o_ (gH d 6 ?_)
   refine ru 3 (iD (fR d 14 ?_))
   refine mJ (i:=0) rfl rfl rfl yn yf rfl gy d_ rfl (fK d 8 ?_)
   by_cases b:(((fJ xs ((fJ xs i).up)).k0:Int):Int)=((i:Int):Int)
   . refine fQ d 17 ?_
     refine iH (v:=Zc) (v' := Zf) GF rfl rfl ?_
     exact⟨by simp only[jH];(repeat' split)<;>(first|rfl|omega),d.gD s_⟩
   . refine fQ d 11 ?_
     refine tN (?_)
     refine iD (fR d 14 ?_)
     refine mJ (i:=1) rfl rfl rfl yn yf rfl gy d_ rfl (fK d 8 ?_)
     by_cases c:(((fJ xs ((fJ xs i).up)).k1:Int):Int)=((i:Int):Int)
     . refine fQ d 17 ?_
       refine iH (v:=qH) (v' := Zf) GF rfl rfl ?_
       exact⟨by simp only[jH];(repeat' split)<;>(first|rfl|omega),d.gD s_⟩
     . refine fQ d 11 ?_
       refine tN (?_)
       refine iD (iS d 19 ?_)
       refine iH (v:=Zc) (v' := Zn) GF rfl rfl ?_
       exact⟨by simp only[jH];(repeat' split)<;>(first|rfl|omega),d.gD s_⟩
theorem Ev(fb nb m:Nat)(ed:Int)(xs:List Nd)(w:World)(k:(Ao fb nb m ed).holds w)(h:(blk nb 192 (xs.flatMap Nd.cells)).holds w)(hm:xs.length=m)(hb:m<=1000001)(g:gf xs)(i j:Nat)(hi:i<m)(l:j<m) :
 CR ya 178 (Zr fb i j) w (fun r w' => r = .bool (kX xs i j)/\gA [] w w'):=by
 refine en Tryz.func178 Tryz.ntmps178 ?_
 have f:=yt w
 refine q7 f 31 fun b a=>?_
 by_cases c:((fJ xs i).key:Int)<((fJ xs j).key:Int)
 . refine fQ a 15 ?_
   refine gp (v:=Zf) GG rfl ?_
   exact⟨EY ((decide_eq_true o_).symm),a.gD s_⟩
 . refine fK a 4 ?_
   by_cases d:((fJ xs i).key:Int)=((fJ xs j).key:Int)
   . refine fK a 4 ?_
     by_cases e:((i:Int):Int)<((j:Int):Int)
     . refine fQ a 7 ?_
       refine gp (v:=Zf) GG rfl ?_
       exact⟨EY ((decide_eq_true o_).symm),a.gD s_⟩
     . refine fQ a 7 ?_
       refine gp (v:=Zn) GG rfl ?_
       exact⟨EY ((decide_eq_false o_).symm),a.gD s_⟩
   . refine fQ a 11 ?_
     refine gp (v:=Zn) GG rfl ?_
     exact⟨EY ((decide_eq_false o_).symm),a.gD s_⟩
theorem rV(fb nb m:Nat)(ed:Int)(xs:List Nd)(w:World)(p:Own (Zk fb nb m ed xs) w)(hm:xs.length=m)(hb:m<=1000001)(q:gf xs)(i k:Nat)(hi:i<m)(hk:k<m) :
 CR ya 202 #[(Zb fb),(Za i),Zc,(Za k)] w (fun r w' => r = .tuple #[]/\fZ (Zk fb nb m ed xs) w w' (Zk fb nb m ed (iW xs i 0 k))):=by
 refine en Tryz.func202 Tryz.ntmps202 ?_
 have n:=(yr p).unpack
 refine fR n 11 ?_
 refine jL (o:=i*9+0) (o' := i*9+0) (i:=0) rfl rfl rfl yn gy d_ rfl (j3 (f:=(fun x:Nd=>{ x with k0:=k })) 1 n (fun c a d=>?_))
 refine fK a 5 ?_
 by_cases e:((k:Int):Int)=(0:Int)
 . refine fQ a 5 ?_
   refine iZ GJ ?_
   have l:iW xs i 0 k=fO xs i (fun x=>{ x with k0:=k }):=by simp only[iW,reduceIte,DK];(repeat' split)<;>(first|rfl|omega)
   have j:=a
   rw[<-l]at j
   exact⟨rfl,yo (yc [_,_] [] j)⟩
 . refine fK a 13 ?_
   refine j3 (f:=(fun x:Nd=>{ x with up:=i })) 1 a (fun g b h=>?_)
   refine fQ b 1 ?_
   refine iZ GJ ?_
   have l:iW xs i 0 k=fO (fO xs i (fun x=>{ x with k0:=k })) k (fun x=>{ x with up:=i }):=by simp only[iW,reduceIte,DK];(repeat' split)<;>(first|rfl|omega)
   have j:=b
   rw[<-l]at j
   exact⟨rfl,yo (yc [_,_] [] j)⟩
theorem rW(fb nb m:Nat)(ed:Int)(xs:List Nd)(w:World)(p:Own (Zk fb nb m ed xs) w)(hm:xs.length=m)(hb:m<=1000001)(q:gf xs)(i k:Nat)(hi:i<m)(hk:k<m) :
 CR ya 202 #[(Zb fb),(Za i),qH,(Za k)] w (fun r w' => r = .tuple #[]/\fZ (Zk fb nb m ed xs) w w' (Zk fb nb m ed (iW xs i 1 k))):=by
 refine en Tryz.func202 Tryz.ntmps202 ?_
 have n:=(yr p).unpack
 refine fR n 11 ?_
 refine jL (o:=i*9+0) (o' := i*9+1) (i:=1) rfl rfl rfl yn gy d_ rfl (j3 (f:=(fun x:Nd=>{ x with k1:=k })) 1 n (fun c a d=>?_))
 refine fK a 5 ?_
 by_cases e:((k:Int):Int)=(0:Int)
 . refine fQ a 5 ?_
   refine iZ GJ ?_
   have l:iW xs i 1 k=fO xs i (fun x=>{ x with k1:=k }):=by simp only[iW,reduceIte,DK];(repeat' split)<;>(first|rfl|omega)
   have j:=a
   rw[<-l]at j
   exact⟨rfl,yo (yc [_,_] [] j)⟩
 . refine fK a 13 ?_
   refine j3 (f:=(fun x:Nd=>{ x with up:=i })) 1 a (fun g b h=>?_)
   refine fQ b 1 ?_
   refine iZ GJ ?_
   have l:iW xs i 1 k=fO (fO xs i (fun x=>{ x with k1:=k })) k (fun x=>{ x with up:=i }):=by simp only[iW,reduceIte,DK];(repeat' split)<;>(first|rfl|omega)
   have j:=b
   rw[<-l]at j
   exact⟨rfl,yo (yc [_,_] [] j)⟩
theorem Kw(fb nb m:Nat)(ed:Int)(xs:List Nd)(w:World)(hO:Own (Zk fb nb m ed xs) w)(hm:xs.length=m)(hb:m<=1000001)(hI:gf xs)(i:Nat)(hi:i<m) :
 CR ya 176 (Zm fb i) w (fun r w' => r = .tuple #[]/\fZ (Zk fb nb m ed xs) w w' (Zk fb nb m ed (jZ xs i))):=by
 refine en Tryz.func176 Tryz.ntmps176 ?_
 have aq:=(yr hO).unpack
 refine fR aq 7 ?_
 refine jk (o' := i*9+0) (i:=(i:Int)) rfl rfl rfl yh jj om o_ (gH aq 13 ?_)
 cases P:((fJ xs i).flip:Bool)
 . skip
   refine iS aq 3 ?_
   refine Bb DC ?_
   have T:jZ xs i=xs:=by simp only[jZ];(repeat' split)<;>(first|rfl|omega|simp_all)
   have F:=aq
   rw[<-T]at F
   exact⟨rfl,yo (yc [_,_] [] F)⟩
 . skip
   refine fR aq 8 ?_
   refine j3 (f:=(fun x:Nd=>{ x with flip:=false })) 1 aq (fun Q C R=>?_)
   have n:gf (fO xs i (fun x=>{ x with flip:=false })):=gf.iN hI om (fun x a b c d e=>⟨a,b,c,d,e⟩)
   obtain⟨p,y,S,n,C⟩:=iE (m:=m) n C
   refine gO C 9 fun U D=>?_
   refine jL (o:=i*9+0) (o' := i*9+1) (i:=1) rfl rfl rfl yn gy d_ rfl (fK D 4 ?_)
   refine jL (o:=i*9+0) (o' := i*9+0) (i:=0) rfl rfl rfl yn gy d_ rfl (fK D 3 ?_)
   refine jL (o:=i*9+0) (o' := i*9+0) (i:=0) rfl rfl rfl yn gy d_ rfl (j3 (f:=(fun x:Nd=>{ x with k0:=((fJ p i).k1) })) 1 D (fun V z W=>?_))
   have E:gf (fO p i (fun x=>{ x with k0:=((fJ p i).k1) })):=gf.iN n om (fun x a b c d e=>⟨(o9 (n.k1 i om)),b,c,d,e⟩)
   obtain⟨K,A,X,E,z⟩:=iE (m:=m) E z
   refine fK z 2 ?_
   refine jL (o:=i*9+0) (o' := i*9+1) (i:=1) rfl rfl rfl yn gy d_ rfl (j3 (f:=(fun x:Nd=>{ x with k1:=((fJ p i).k0) })) 1 z (fun Y j Z=>?_))
   have h:gf (fO K i (fun x=>{ x with k1:=((fJ p i).k0) })):=gf.iN E om (fun x a b c d e=>⟨a,(o9 (n.k0 i om)),c,d,e⟩)
   obtain⟨g,B,aa,h,j⟩:=iE (m:=m) h j
   refine gH j 12 ?_
   refine ru 3 (iD (fR j 13 ?_))
   refine mJ (i:=0) rfl rfl rfl yn yf rfl gy d_ rfl (fK j 6 ?_)
   by_cases ab:(((fJ g i).k0:Int):Int)=(0:Int)
   . refine fQ j 11 ?_
     refine tN (?_)
     refine iD (fR j 13 ?_)
     refine mJ (i:=1) rfl rfl rfl yn yf rfl gy d_ rfl (fK j 6 ?_)
     by_cases ac:(((fJ g i).k1:Int):Int)=(0:Int)
     . refine fQ j 11 ?_
       refine tN (?_)
       refine iD (iS j 11 ?_)
       refine iZ DC ?_
       have T:jZ xs i=g:=by subst B;subst A;subst y;simp only[jZ];(repeat' split)<;>(first|rfl|omega|simp_all)
       have F:=j
       rw[<-T]at F
       exact⟨rfl,yo (yc [_,_] [] F)⟩
     . refine gO j 15 fun ad q=>?_
       refine jk (o' := ((fJ g i).k1)*9+0) (i:=((fJ g i).k1:Int)) rfl rfl rfl yh jj (o9 (show ((fJ g i).k1)<(g).length from(o9 (h.k1 i om)))) o_ (fK q 1 ?_)
       refine ld rfl rfl nr rfl (mR q (i:=1) rfl f_ (o9 (h.k1 i om)) rfl) (fK q 1 ?_)
       refine jk (o' := ((fJ g i).k1)*9+0) (i:=((fJ g i).k1:Int)) rfl rfl rfl yh jj (o9 (show ((fJ g i).k1)<(g).length from(o9 (h.k1 i om)))) o_ (fK q 1 ?_)
       refine j3 (f:=(fun x:Nd=>{ x with flip := !((fJ g ((fJ g i).k1)).flip) })) 1 q (fun ae s af=>?_) (hk:=(o9 (h.k1 i om)))
       have H:gf (fO g ((fJ g i).k1) (fun x=>{ x with flip := !((fJ g ((fJ g i).k1)).flip) })):=gf.iN h (o9 (h.k1 i om)) (fun x a b c d e=>⟨a,b,c,d,e⟩)
       obtain⟨L,M,ag,H,s⟩:=iE (m:=m) H s
       refine fQ s 7 ?_
       refine tN (?_)
       refine iD (iS s 11 ?_)
       refine iZ DC ?_
       have T:jZ xs i=L:=by subst M;subst B;subst A;subst y;simp only[jZ];(repeat' split)<;>(first|rfl|omega|simp_all)
       have F:=s
       rw[<-T]at F
       exact⟨rfl,yo (yc [_,_] [] F)⟩
   . refine gO j 15 fun ah t=>?_
     refine jk (o' := ((fJ g i).k0)*9+0) (i:=((fJ g i).k0:Int)) rfl rfl rfl yh jj (o9 (show ((fJ g i).k0)<(g).length from(o9 (h.k0 i om)))) o_ (fK t 1 ?_)
     refine ld rfl rfl nr rfl (mR t (i:=1) rfl f_ (o9 (h.k0 i om)) rfl) (fK t 1 ?_)
     refine jk (o' := ((fJ g i).k0)*9+0) (i:=((fJ g i).k0:Int)) rfl rfl rfl yh jj (o9 (show ((fJ g i).k0)<(g).length from(o9 (h.k0 i om)))) o_ (fK t 1 ?_)
     refine j3 (f:=(fun x:Nd=>{ x with flip := !((fJ g ((fJ g i).k0)).flip) })) 1 t (fun ai k aj=>?_) (hk:=(o9 (h.k0 i om)))
     have G:gf (fO g ((fJ g i).k0) (fun x=>{ x with flip := !((fJ g ((fJ g i).k0)).flip) })):=gf.iN h (o9 (h.k0 i om)) (fun x a b c d e=>⟨a,b,c,d,e⟩)
     obtain⟨l,I,ak,G,k⟩:=iE (m:=m) G k
     refine fQ k 7 ?_
     refine tN (?_)
     refine iD (fR k 13 ?_)
     refine mJ (i:=1) rfl rfl rfl yn yf rfl gy d_ rfl (fK k 6 ?_)
     by_cases al:(((fJ g i).k1:Int):Int)=(0:Int)
     . refine fQ k 11 ?_
       refine tN (?_)
       refine iD (iS k 11 ?_)
       refine iZ DC ?_
       have T:jZ xs i=l:=by subst I;subst B;subst A;subst y;simp only[jZ];(repeat' split)<;>(first|rfl|omega|simp_all)
       have F:=k
       rw[<-T]at F
       exact⟨rfl,yo (yc [_,_] [] F)⟩
     . refine gO k 15 fun am u=>?_
       refine jk (o' := ((fJ g i).k1)*9+0) (i:=((fJ g i).k1:Int)) rfl rfl rfl yh jj (o9 (show ((fJ g i).k1)<(l).length from(o9 (h.k1 i om)))) o_ (fK u 1 ?_)
       refine ld rfl rfl nr rfl (mR u (i:=1) rfl f_ (o9 (h.k1 i om)) rfl) (fK u 1 ?_)
       refine jk (o' := ((fJ g i).k1)*9+0) (i:=((fJ g i).k1:Int)) rfl rfl rfl yh jj (o9 (show ((fJ g i).k1)<(l).length from(o9 (h.k1 i om)))) o_ (fK u 1 ?_)
       refine j3 (f:=(fun x:Nd=>{ x with flip := !((fJ l ((fJ g i).k1)).flip) })) 1 u (fun an v ao=>?_) (hk:=(o9 (h.k1 i om)))
       have J:gf (fO l ((fJ g i).k1) (fun x=>{ x with flip := !((fJ l ((fJ g i).k1)).flip) })):=gf.iN G (o9 (h.k1 i om)) (fun x a b c d e=>⟨a,b,c,d,e⟩)
       obtain⟨N,O,ap,J,v⟩:=iE (m:=m) J v
       refine fQ v 7 ?_
       refine tN (?_)
       refine iD (iS v 11 ?_)
       refine iZ DC ?_
       have T:jZ xs i=N:=by subst O;subst I;subst B;subst A;subst y;simp only[jZ];(repeat' split)<;>(first|rfl|omega|simp_all)
       have F:=v
       rw[<-T]at F
       exact⟨rfl,yo (yc [_,_] [] F)⟩
end
section
open Go Go.Sx
theorem lY(fb nb m:Nat)(ed:Int)(xs:List Nd)(w:World)(hO:Own (Zk fb nb m ed xs) w)(hm:xs.length=m)(hb:m<=1000001)(hI:gf xs)(i:Nat)(hi:i<m) :
 CR ya 138 (Zm fb i) w (fun r w' => r = .tuple #[]/\fZ (Zk fb nb m ed xs) w w' (Zk fb nb m ed (iG xs i))):=by
 refine en Tryz.func138 Tryz.ntmps138 ?_
 have bU:=(yr hO).unpack
 refine fR bU 7 ?_
 refine jk (o' := i*9+0) (i:=(i:Int)) rfl rfl rfl yh jj om o_ (fK bU 13 ?_)
 refine ar (e:=(IntKind.i64.wrap (1+(fJ xs i).iL))) rfl rfl rfl rfl rfl (fK bU 2 ?_)
 refine j3 (f:=(fun x:Nd=>{ x with size:=1 })) 1 bU (fun aW az aX=>?_)
 have aH:gf (fO xs i (fun x=>{ x with size:=1 })):=gf.iN hI om (fun x a b c d e=>⟨a,b,c,d,e⟩)
 refine fK az 2 ?_
 refine j3 (f:=(fun x:Nd=>{ x with first:=i })) 1 az (fun aY aA aZ=>?_)
 have aI:gf (fO (fO xs i (fun x=>{ x with size:=1 })) i (fun x=>{ x with first:=i })):=gf.iN aH om (fun x a b c d e=>⟨a,b,c,om,e⟩)
 refine fK aA 2 ?_
 refine j3 (f:=(fun x:Nd=>{ x with total:=(IntKind.i64.wrap (1+(fJ xs i).iL)) })) 1 aA (fun a0 aB a1=>?_)
 have aJ:gf (fO (fO (fO xs i (fun x=>{ x with size:=1 })) i (fun x=>{ x with first:=i })) i (fun x=>{ x with total:=(IntKind.i64.wrap (1+(fJ xs i).iL)) })):=gf.iN aI om (fun x a b c d e=>⟨a,b,c,d,e⟩)
 obtain⟨y,hy⟩:∃ y,y=fO xs i (fun x=>{ x with size:=1,first:=i,total:=IntKind.i64.wrap (1+x.iL) }):=⟨_,rfl⟩
 have bk:=aB
 have F:=aJ
 refine fK aB 4 ?_
 rw[adB o_,<-hy]at bk F
 have bV:y.length=m:=by rw[hy,gC,hm]
 refine gH bk 8 ?_
 refine ru 3 (iD (fR bk 13 ?_))
 refine mJ (i:=0) rfl rfl rfl yn yf rfl gy d_ rfl (fK bk 7 ?_)
 by_cases a2:(((fJ y i).k0:Int):Int)=(0:Int)
 . refine fQ bk 12 ?_
   refine tN (?_)
   refine iD (fR bk 13 ?_)
   refine mJ (i:=1) rfl rfl rfl yn yf rfl gy d_ rfl (fK bk 7 ?_)
   by_cases a3:(((fJ y i).k1:Int):Int)=(0:Int)
   . refine fQ bk 12 ?_
     refine tN (?_)
     refine iD (iS bk 11 ?_)
     refine iZ vp ?_
     have e9:iG xs i=y:=by rw[u7 hy o_];first|(rw[tW (k:=(fJ y i).k0) o_];rw[tW (k:=(fJ y i).k1) o_])
     have T:=bk
     rw[<-e9]at T
     exact⟨rfl,yo (yc [_,_] [] T)⟩
   . refine fK bk 13 ?_
     refine jk (o' := ((fJ y i).k1)*9+0) (i:=((fJ y i).k1:Int)) rfl rfl rfl yh jj (o9 (show ((fJ y i).k1)<(y).length from(o9 (F.k1 i om)))) o_ (gO bk 12 fun a4 V=>?_)
     refine ld rfl rfl yf rfl (mR V (i:=1) rfl f_ (o9 (F.k1 i om)) rfl) (ar (e:=(IntKind.i64.wrap ((fJ y i).size+(fJ y ((fJ y i).k1)).size))) rfl rfl rfl rfl rfl (fK V 2 ?_))
     refine j3 (f:=(fun x:Nd=>{ x with size:=(IntKind.i64.wrap ((fJ y i).size+(fJ y ((fJ y i).k1)).size)) })) 1 V (fun a5 W a6=>?_)
     have X:gf (fO y i (fun x=>{ x with size:=(IntKind.i64.wrap ((fJ y i).size+(fJ y ((fJ y i).k1)).size)) })):=gf.iN F om (fun x a b c d e=>⟨a,b,c,d,e⟩)
     obtain⟨B,R,a7,X,W⟩:=iE (m:=m) X W
     refine gO W 11 fun a8 Y=>?_
     refine ld rfl rfl yf rfl (mR Y (i:=1) rfl f_ (o9 (F.k1 i om)) rfl) (ar (e:=(IntKind.i64.wrap ((fJ B i).total+(fJ B ((fJ y i).k1)).total))) rfl rfl rfl rfl rfl (fK Y 2 ?_))
     refine j3 (f:=(fun x:Nd=>{ x with total:=(IntKind.i64.wrap ((fJ B i).total+(fJ B ((fJ y i).k1)).total)) })) 1 Y (fun a9 Z ba=>?_)
     have C:gf (fO B i (fun x=>{ x with total:=(IntKind.i64.wrap ((fJ B i).total+(fJ B ((fJ y i).k1)).total)) })):=gf.iN X om (fun x a b c d e=>⟨a,b,c,d,e⟩)
     obtain⟨j,S,bb,C,Z⟩:=iE (m:=m) C Z
     refine gO Z 8 fun aK J=>?_
     refine ld rfl rfl yf rfl (mR J (i:=1) rfl f_ (o9 (F.k1 i om)) rfl) (fK J 4 ?_)
     refine cl EO (Ev fb nb m ed j aK (J.at (i:=0) rfl) (J.at (i:=1) rfl) oa hb C ((fJ j ((fJ y i).k1)).first) ((fJ j i).first) (o9 (C.first ((fJ y i).k1) (o9 (F.k1 i om)))) (o9 (C.first i om))) ?_
     rintro _ bc ⟨rfl,aL⟩
     have u:=yq J aL
     refine gH u 2 ?_
     cases U:(kX j ((fJ j ((fJ y i).k1)).first) ((fJ j i).first):Bool)
     . skip
       refine iS u 8 ?_
       refine tN (?_)
       refine iD (iS u 11 ?_)
       refine iZ vp ?_
       have e9:iG xs i=j:=by rw[u7 hy o_];first|(rw[tW (k:=(fJ y i).k0) o_];rw[tU (k:=(fJ y i).k1) o_ R S U])|(rw[tU (k:=(fJ y i).k0) o_ R S U];rw[tW (k:=(fJ y i).k1) o_])
       have T:=u
       rw[<-e9]at T
       exact⟨rfl,yo (yc [_,_] [] T)⟩
     . skip
       refine fR u 6 ?_
       refine ld rfl rfl yf rfl (mR u (i:=1) rfl f_ (o9 (F.k1 i om)) rfl) (fK u 2 ?_)
       refine j3 (f:=(fun x:Nd=>{ x with first:=((fJ j ((fJ y i).k1)).first) })) 1 u (fun bd K be=>?_)
       have aC:gf (fO j i (fun x=>{ x with first:=((fJ j ((fJ y i).k1)).first) })):=gf.iN C om (fun x a b c d e=>⟨a,b,c,(o9 (C.first ((fJ y i).k1) (o9 (F.k1 i om)))),e⟩)
       obtain⟨aM,aD,bf,aC,K⟩:=iE (m:=m) aC K
       refine fQ K 7 ?_
       refine tN (?_)
       refine iD (iS K 11 ?_)
       refine iZ vp ?_
       have e9:iG xs i=aM:=by rw[u7 hy o_];first|(rw[tW (k:=(fJ y i).k0) o_];rw[tV (k:=(fJ y i).k1) o_ R S U aD])|(rw[tV (k:=(fJ y i).k0) o_ R S U aD];rw[tW (k:=(fJ y i).k1) o_])
       have T:=K
       rw[<-e9]at T
       exact⟨rfl,yo (yc [_,_] [] T)⟩
 . refine fK bk 13 ?_
   refine jk (o' := ((fJ y i).k0)*9+0) (i:=((fJ y i).k0:Int)) rfl rfl rfl yh jj (o9 (show ((fJ y i).k0)<(y).length from(o9 (F.k0 i om)))) o_ (gO bk 12 fun bg aa=>?_)
   refine ld rfl rfl yf rfl (mR aa (i:=1) rfl f_ (o9 (F.k0 i om)) rfl) (ar (e:=(IntKind.i64.wrap ((fJ y i).size+(fJ y ((fJ y i).k0)).size))) rfl rfl rfl rfl rfl (fK aa 2 ?_))
   refine j3 (f:=(fun x:Nd=>{ x with size:=(IntKind.i64.wrap ((fJ y i).size+(fJ y ((fJ y i).k0)).size)) })) 1 aa (fun bh ab bi=>?_)
   have ac:gf (fO y i (fun x=>{ x with size:=(IntKind.i64.wrap ((fJ y i).size+(fJ y ((fJ y i).k0)).size)) })):=gf.iN F om (fun x a b c d e=>⟨a,b,c,d,e⟩)
   obtain⟨D,l,bj,ac,ab⟩:=iE (m:=m) ac ab
   refine gO ab 11 fun bl ad=>?_
   refine ld rfl rfl yf rfl (mR ad (i:=1) rfl f_ (o9 (F.k0 i om)) rfl) (ar (e:=(IntKind.i64.wrap ((fJ D i).total+(fJ D ((fJ y i).k0)).total))) rfl rfl rfl rfl rfl (fK ad 2 ?_))
   refine j3 (f:=(fun x:Nd=>{ x with total:=(IntKind.i64.wrap ((fJ D i).total+(fJ D ((fJ y i).k0)).total)) })) 1 ad (fun bm ae bn=>?_)
   have v:gf (fO D i (fun x=>{ x with total:=(IntKind.i64.wrap ((fJ D i).total+(fJ D ((fJ y i).k0)).total)) })):=gf.iN ac om (fun x a b c d e=>⟨a,b,c,d,e⟩)
   obtain⟨g,n,bo,v,ae⟩:=iE (m:=m) v ae
   refine gO ae 8 fun aN L=>?_
   refine ld rfl rfl yf rfl (mR L (i:=1) rfl f_ (o9 (F.k0 i om)) rfl) (fK L 4 ?_)
   refine cl EO (Ev fb nb m ed g aN (L.at (i:=0) rfl) (L.at (i:=1) rfl) oa hb v ((fJ g ((fJ y i).k0)).first) ((fJ g i).first) (o9 (v.first ((fJ y i).k0) (o9 (F.k0 i om)))) (o9 (v.first i om))) ?_
   rintro _ bp ⟨rfl,aO⟩
   have h:=yq L aO
   refine gH h 2 ?_
   cases o:(kX g ((fJ g ((fJ y i).k0)).first) ((fJ g i).first):Bool)
   . skip
     refine iS h 8 ?_
     refine tN (?_)
     refine iD (fR h 13 ?_)
     refine mJ (i:=1) rfl rfl rfl yn yf rfl gy d_ rfl (fK h 7 ?_)
     by_cases bq:(((fJ y i).k1:Int):Int)=(0:Int)
     . refine fQ h 12 ?_
       refine tN (?_)
       refine iD (iS h 11 ?_)
       refine iZ vp ?_
       have e9:iG xs i=g:=by rw[u7 hy o_];first|(rw[tW (k:=(fJ y i).k0) o_];rw[tU (k:=(fJ y i).k1) o_ l n o])|(rw[tU (k:=(fJ y i).k0) o_ l n o];rw[tW (k:=(fJ y i).k1) o_])
       have T:=h
       rw[<-e9]at T
       exact⟨rfl,yo (yc [_,_] [] T)⟩
     . refine fK h 13 ?_
       refine jk (o' := ((fJ y i).k1)*9+0) (i:=((fJ y i).k1:Int)) rfl rfl rfl yh jj (o9 (show ((fJ y i).k1)<(g).length from(o9 (F.k1 i om)))) o_ (gO h 12 fun br af=>?_)
       refine ld rfl rfl yf rfl (mR af (i:=1) rfl f_ (o9 (F.k1 i om)) rfl) (ar (e:=(IntKind.i64.wrap ((fJ g i).size+(fJ g ((fJ y i).k1)).size))) rfl rfl rfl rfl rfl (fK af 2 ?_))
       refine j3 (f:=(fun x:Nd=>{ x with size:=(IntKind.i64.wrap ((fJ g i).size+(fJ g ((fJ y i).k1)).size)) })) 1 af (fun bs ag bt=>?_)
       have ah:gf (fO g i (fun x=>{ x with size:=(IntKind.i64.wrap ((fJ g i).size+(fJ g ((fJ y i).k1)).size)) })):=gf.iN v om (fun x a b c d e=>⟨a,b,c,d,e⟩)
       obtain⟨E,ai,bu,ah,ag⟩:=iE (m:=m) ah ag
       refine gO ag 11 fun bv aj=>?_
       refine ld rfl rfl yf rfl (mR aj (i:=1) rfl f_ (o9 (F.k1 i om)) rfl) (ar (e:=(IntKind.i64.wrap ((fJ E i).total+(fJ E ((fJ y i).k1)).total))) rfl rfl rfl rfl rfl (fK aj 2 ?_))
       refine j3 (f:=(fun x:Nd=>{ x with total:=(IntKind.i64.wrap ((fJ E i).total+(fJ E ((fJ y i).k1)).total)) })) 1 aj (fun bw ak bx=>?_)
       have G:gf (fO E i (fun x=>{ x with total:=(IntKind.i64.wrap ((fJ E i).total+(fJ E ((fJ y i).k1)).total)) })):=gf.iN ah om (fun x a b c d e=>⟨a,b,c,d,e⟩)
       obtain⟨p,al,bz,G,ak⟩:=iE (m:=m) G ak
       refine gO ak 8 fun aP M=>?_
       refine ld rfl rfl yf rfl (mR M (i:=1) rfl f_ (o9 (F.k1 i om)) rfl) (fK M 4 ?_)
       refine cl EO (Ev fb nb m ed p aP (M.at (i:=0) rfl) (M.at (i:=1) rfl) oa hb G ((fJ p ((fJ y i).k1)).first) ((fJ p i).first) (o9 (G.first ((fJ y i).k1) (o9 (F.k1 i om)))) (o9 (G.first i om))) ?_
       rintro _ bA ⟨rfl,aQ⟩
       have z:=yq M aQ
       refine gH z 2 ?_
       cases am:(kX p ((fJ p ((fJ y i).k1)).first) ((fJ p i).first):Bool)
       . skip
         refine iS z 8 ?_
         refine tN (?_)
         refine iD (iS z 11 ?_)
         refine iZ vp ?_
         have e9:iG xs i=p:=by rw[u7 hy o_];first|(rw[tU (k:=(fJ y i).k0) o_ l n o];rw[tU (k:=(fJ y i).k1) o_ ai al am])
         have T:=z
         rw[<-e9]at T
         exact⟨rfl,yo (yc [_,_] [] T)⟩
       . skip
         refine fR z 6 ?_
         refine ld rfl rfl yf rfl (mR z (i:=1) rfl f_ (o9 (F.k1 i om)) rfl) (fK z 2 ?_)
         refine j3 (f:=(fun x:Nd=>{ x with first:=((fJ p ((fJ y i).k1)).first) })) 1 z (fun bB N bC=>?_)
         have aE:gf (fO p i (fun x=>{ x with first:=((fJ p ((fJ y i).k1)).first) })):=gf.iN G om (fun x a b c d e=>⟨a,b,c,(o9 (G.first ((fJ y i).k1) (o9 (F.k1 i om)))),e⟩)
         obtain⟨aR,aF,bD,aE,N⟩:=iE (m:=m) aE N
         refine fQ N 7 ?_
         refine tN (?_)
         refine iD (iS N 11 ?_)
         refine iZ vp ?_
         have e9:iG xs i=aR:=by rw[u7 hy o_];first|(rw[tU (k:=(fJ y i).k0) o_ l n o];rw[tV (k:=(fJ y i).k1) o_ ai al am aF])|(rw[tV (k:=(fJ y i).k0) o_ l n o ai];rw[tU (k:=(fJ y i).k1) o_ al aF am])
         have T:=N
         rw[<-e9]at T
         exact⟨rfl,yo (yc [_,_] [] T)⟩
   . skip
     refine fR h 6 ?_
     refine ld rfl rfl yf rfl (mR h (i:=1) rfl f_ (o9 (F.k0 i om)) rfl) (fK h 2 ?_)
     refine j3 (f:=(fun x:Nd=>{ x with first:=((fJ g ((fJ y i).k0)).first) })) 1 h (fun bE q bF=>?_)
     have an:gf (fO g i (fun x=>{ x with first:=((fJ g ((fJ y i).k0)).first) })):=gf.iN v om (fun x a b c d e=>⟨a,b,c,(o9 (v.first ((fJ y i).k0) (o9 (F.k0 i om)))),e⟩)
     obtain⟨t,O,bG,an,q⟩:=iE (m:=m) an q
     refine fQ q 7 ?_
     refine tN (?_)
     refine iD (fR q 13 ?_)
     refine mJ (i:=1) rfl rfl rfl yn yf rfl gy d_ rfl (fK q 7 ?_)
     by_cases bH:(((fJ y i).k1:Int):Int)=(0:Int)
     . refine fQ q 12 ?_
       refine tN (?_)
       refine iD (iS q 11 ?_)
       refine iZ vp ?_
       have e9:iG xs i=t:=by rw[u7 hy o_];first|(rw[tW (k:=(fJ y i).k0) o_];rw[tV (k:=(fJ y i).k1) o_ l n o O])|(rw[tV (k:=(fJ y i).k0) o_ l n o O];rw[tW (k:=(fJ y i).k1) o_])
       have T:=q
       rw[<-e9]at T
       exact⟨rfl,yo (yc [_,_] [] T)⟩
     . refine fK q 13 ?_
       refine jk (o' := ((fJ y i).k1)*9+0) (i:=((fJ y i).k1:Int)) rfl rfl rfl yh jj (o9 (show ((fJ y i).k1)<(t).length from(o9 (F.k1 i om)))) o_ (gO q 12 fun bI ao=>?_)
       refine ld rfl rfl yf rfl (mR ao (i:=1) rfl f_ (o9 (F.k1 i om)) rfl) (ar (e:=(IntKind.i64.wrap ((fJ t i).size+(fJ t ((fJ y i).k1)).size))) rfl rfl rfl rfl rfl (fK ao 2 ?_))
       refine j3 (f:=(fun x:Nd=>{ x with size:=(IntKind.i64.wrap ((fJ t i).size+(fJ t ((fJ y i).k1)).size)) })) 1 ao (fun bJ ap bK=>?_)
       have aq:gf (fO t i (fun x=>{ x with size:=(IntKind.i64.wrap ((fJ t i).size+(fJ t ((fJ y i).k1)).size)) })):=gf.iN an om (fun x a b c d e=>⟨a,b,c,d,e⟩)
       obtain⟨H,au,bL,aq,ap⟩:=iE (m:=m) aq ap
       refine gO ap 11 fun bM av=>?_
       refine ld rfl rfl yf rfl (mR av (i:=1) rfl f_ (o9 (F.k1 i om)) rfl) (ar (e:=(IntKind.i64.wrap ((fJ H i).total+(fJ H ((fJ y i).k1)).total))) rfl rfl rfl rfl rfl (fK av 2 ?_))
       refine j3 (f:=(fun x:Nd=>{ x with total:=(IntKind.i64.wrap ((fJ H i).total+(fJ H ((fJ y i).k1)).total)) })) 1 av (fun bN aw bO=>?_)
       have I:gf (fO H i (fun x=>{ x with total:=(IntKind.i64.wrap ((fJ H i).total+(fJ H ((fJ y i).k1)).total)) })):=gf.iN aq om (fun x a b c d e=>⟨a,b,c,d,e⟩)
       obtain⟨s,ax,bP,I,aw⟩:=iE (m:=m) I aw
       refine gO aw 8 fun aS P=>?_
       refine ld rfl rfl yf rfl (mR P (i:=1) rfl f_ (o9 (F.k1 i om)) rfl) (fK P 4 ?_)
       refine cl EO (Ev fb nb m ed s aS (P.at (i:=0) rfl) (P.at (i:=1) rfl) oa hb I ((fJ s ((fJ y i).k1)).first) ((fJ s i).first) (o9 (I.first ((fJ y i).k1) (o9 (F.k1 i om)))) (o9 (I.first i om))) ?_
       rintro _ bQ ⟨rfl,aT⟩
       have A:=yq P aT
       refine gH A 2 ?_
       cases ay:(kX s ((fJ s ((fJ y i).k1)).first) ((fJ s i).first):Bool)
       . skip
         refine iS A 8 ?_
         refine tN (?_)
         refine iD (iS A 11 ?_)
         refine iZ vp ?_
         have e9:iG xs i=s:=by rw[u7 hy o_];first|(rw[tU (k:=(fJ y i).k0) o_ l n o];rw[tV (k:=(fJ y i).k1) o_ O au ay ax])|(rw[tV (k:=(fJ y i).k0) o_ l n o O];rw[tU (k:=(fJ y i).k1) o_ au ax ay])
         have T:=A
         rw[<-e9]at T
         exact⟨rfl,yo (yc [_,_] [] T)⟩
       . skip
         refine fR A 6 ?_
         refine ld rfl rfl yf rfl (mR A (i:=1) rfl f_ (o9 (F.k1 i om)) rfl) (fK A 2 ?_)
         refine j3 (f:=(fun x:Nd=>{ x with first:=((fJ s ((fJ y i).k1)).first) })) 1 A (fun bR Q bS=>?_)
         have aG:gf (fO s i (fun x=>{ x with first:=((fJ s ((fJ y i).k1)).first) })):=gf.iN I om (fun x a b c d e=>⟨a,b,c,(o9 (I.first ((fJ y i).k1) (o9 (F.k1 i om)))),e⟩)
         obtain⟨aU,aV,bT,aG,Q⟩:=iE (m:=m) aG Q
         refine fQ Q 7 ?_
         refine tN (?_)
         refine iD (iS Q 11 ?_)
         refine iZ vp ?_
         have e9:iG xs i=aU:=by rw[u7 hy o_];first|(rw[tV (k:=(fJ y i).k0) o_ l n o O];rw[tV (k:=(fJ y i).k1) o_ au ax ay aV])
         have T:=Q
         rw[<-e9]at T
         exact⟨rfl,yo (yc [_,_] [] T)⟩
end
section
open Go Go.Sx
theorem nj(fb nb m:Nat)(ed:Int)(xs:List Nd)(w:World)(c:(Ao fb nb m ed).holds w)(b:(blk nb 192 (xs.flatMap Nd.cells)).holds w)(hm:xs.length=m)(hb:m<=1000001)(a:gf xs)(i:Nat)(hi:i<m){s:Nat}{o:Bool}(d:jH xs i=(s,o)):CR ya 174 (Zm fb i) w (fun r w' => r = .tuple (Z7 s o)/\gA [] w w'):=by
 have h:=aez fb nb m ed xs w c b hm hb a i hi
 rw[d]at h
 exact h
theorem yT(fb nb m:Nat)(ed:Int)(xs:List Nd)(w:World)(hO:Own (Zk fb nb m ed xs) w)(hm:xs.length=m)(hb:m<=1000001)(F:gf xs)(i:Nat)(hi:i<m) :
 CR ya 177 (Zm fb i) w (fun r w' => r = .tuple #[]/\fZ (Zk fb nb m ed xs) w w' (Zk fb nb m ed (iK xs i))):=by
 have fL:=F.up i o_
 have fM:=F.up _ fL
 refine en Tryz.func177 Tryz.ntmps177 ?_
 have eT:=(yr hO).unpack
 refine fR eT 7 ?_
 refine jk (o' := i*9+0) (i:=(i:Int)) rfl rfl rfl yh jj om o_ (fK eT 12 ?_)
 refine jk (o' := ((fJ xs i).up)*9+0) (i:=((fJ xs i).up:Int)) rfl rfl rfl yh jj (o9 (show ((fJ xs i).up)<(xs).length from(o9 (F.up i om)))) o_ (fK eT 1 ?_)
 refine ld rfl rfl yf rfl (mR eT (i:=1) rfl f_ (o9 (F.up i om)) rfl) ?_
 obtain⟨cN,eE⟩:∃ q,Df xs i=q:=⟨_,rfl⟩
 refine fK eT 7 ?_
 rcases cN with J|K|L
 . skip
   refine cl mX (nj fb nb m ed xs w (eT.at (i:=0) rfl) (eT.at (i:=1) rfl) oa hb F i o_ J) ?_
   rintro _ a9 ⟨rfl,cO⟩
   have g:=yq eT cO
   obtain⟨cP,eF⟩:∃ q,Df xs ((fJ xs i).up)=q:=⟨_,rfl⟩
   refine fK g 12 ?_
   rcases cP with bf|bg|bh
   . skip
     refine cl mX (nj fb nb m ed xs a9 (g.at (i:=0) rfl) (g.at (i:=1) rfl) oa hb F ((fJ xs i).up) (o9 (F.up i om)) bf) ?_
     rintro _ eG ⟨rfl,cQ⟩
     have ba:=yq g cQ
     refine fK ba 20 ?_
     refine jk (o' := i*9+0) (i:=(i:Int)) rfl rfl rfl yh jj om o_ (fK ba 1 ?_)
     refine j3 (f:=(fun x:Nd=>{ x with up:=((fJ xs ((fJ xs i).up)).up) })) 1 ba (fun cR k eH=>?_)
     have l:gf (fO xs i (fun x=>{ x with up:=((fJ xs ((fJ xs i).up)).up) })):=gf.iN F om (fun x a b c d e=>⟨a,b,(o9 (F.up ((fJ xs i).up) (o9 (F.up i om)))),d,e⟩)
     obtain⟨M,cS,eI,l,k⟩:=iE (m:=m) l k
     refine fK k 14 ?_
     refine jk (o' := i*9+0) (i:=(i:Int)) rfl rfl rfl yh jj om o_ (fK k 1 ?_)
     refine jL (o:=i*9+0) (o' := i*9+1) (i:=1) rfl rfl rfl yn gy d_ rfl ?_
     have bi:=yc [_,_] _ k
     refine fK k 1 ?_
     refine cl lM (rV fb nb m ed M cR (ye bi 0 rfl) oa hb l ((fJ xs i).up) ((fJ M i).k1) (o9 (F.up i om)) (o9 (l.k1 i om))) ?_
     rintro _ cT ⟨rfl,T⟩
     have N:=(ym bi T)
     have O:gf (iW M ((fJ xs i).up) 0 ((fJ M i).k1)):=gf.kF l (o9 (F.up i om)) (o9 (l.k1 i om))
     obtain⟨bj,cU,eJ,O,N⟩:=iE (m:=m) O N
     have bl:=yc [_,_] _ N
     refine fK N 9 ?_
     refine cl lM (rW fb nb m ed bj cT (ye bl 0 rfl) oa hb O i ((fJ xs i).up) o_ (o9 (F.up i om))) ?_
     rintro _ cV ⟨rfl,T⟩
     have P:=(ym bl T)
     have Q:gf (iW bj i 1 ((fJ xs i).up)):=gf.kF O o_ (o9 (F.up i om))
     obtain⟨bm,cW,eK,Q,P⟩:=iE (m:=m) Q P
     have bn:=yc [_,_] _ P
     refine fK P 6 ?_
     refine cl lV (lY fb nb m ed bm cV (ye bn 0 rfl) oa hb Q ((fJ xs i).up) (o9 (F.up i om))) ?_
     rintro _ cX ⟨rfl,T⟩
     have R:=(ym bn T)
     have S:gf (iG bm ((fJ xs i).up)):=gf.lP Q (o9 (F.up i om))
     obtain⟨bo,cY,eL,S,R⟩:=iE (m:=m) S R
     have bp:=yc [_,_] _ R
     refine fK R 5 ?_
     refine cl lV (lY fb nb m ed bo cX (ye bp 0 rfl) oa hb S i o_) ?_
     rintro _ eM ⟨rfl,T⟩
     have U:=(ym bp T)
     have bq:gf (iG bo i):=gf.lP S o_
     obtain⟨cZ,c0,eN,bq,U⟩:=iE (m:=m) bq U
     refine fQ U 1 ?_
     refine iZ vk ?_
     have e9:iK xs i=cZ:=by subst c0;subst cY;subst cW;subst cU;subst cS;simp only[iK,J,bf];rfl
     have bk:=U
     rw[<-e9]at bk
     exact⟨rfl,yo (yc [_,_] [] bk)⟩
   . skip
     refine cl mX (nj fb nb m ed xs a9 (g.at (i:=0) rfl) (g.at (i:=1) rfl) oa hb F ((fJ xs i).up) (o9 (F.up i om)) bg) ?_
     rintro _ c1 ⟨rfl,c2⟩
     have br:=yq g c2
     have bs:=yc [_,_] _ br
     refine fK br 18 ?_
     refine cl lM (rV fb nb m ed xs c1 (ye bs 0 rfl) oa hb F ((fJ xs ((fJ xs i).up)).up) i (o9 (F.up ((fJ xs i).up) (o9 (F.up i om)))) o_) ?_
     rintro _ c3 ⟨rfl,T⟩
     have n:=(ym bs T)
     have p:gf (iW xs ((fJ xs ((fJ xs i).up)).up) 0 i):=gf.kF F (o9 (F.up ((fJ xs i).up) (o9 (F.up i om)))) o_
     obtain⟨V,c4,eO,p,n⟩:=iE (m:=m) p n
     refine fK n 14 ?_
     refine jk (o' := i*9+0) (i:=(i:Int)) rfl rfl rfl yh jj om o_ (fK n 1 ?_)
     refine jL (o:=i*9+0) (o' := i*9+1) (i:=1) rfl rfl rfl yn gy d_ rfl ?_
     have bt:=yc [_,_] _ n
     refine fK n 1 ?_
     refine cl lM (rV fb nb m ed V c3 (ye bt 0 rfl) oa hb p ((fJ xs i).up) ((fJ V i).k1) (o9 (F.up i om)) (o9 (p.k1 i om))) ?_
     rintro _ c5 ⟨rfl,T⟩
     have W:=(ym bt T)
     have X:gf (iW V ((fJ xs i).up) 0 ((fJ V i).k1)):=gf.kF p (o9 (F.up i om)) (o9 (p.k1 i om))
     obtain⟨bu,c6,eP,X,W⟩:=iE (m:=m) X W
     have bv:=yc [_,_] _ W
     refine fK W 9 ?_
     refine cl lM (rW fb nb m ed bu c5 (ye bv 0 rfl) oa hb X i ((fJ xs i).up) o_ (o9 (F.up i om))) ?_
     rintro _ c7 ⟨rfl,T⟩
     have Y:=(ym bv T)
     have Z:gf (iW bu i 1 ((fJ xs i).up)):=gf.kF X o_ (o9 (F.up i om))
     obtain⟨bw,c8,eQ,Z,Y⟩:=iE (m:=m) Z Y
     have bx:=yc [_,_] _ Y
     refine fK Y 6 ?_
     refine cl lV (lY fb nb m ed bw c7 (ye bx 0 rfl) oa hb Z ((fJ xs i).up) (o9 (F.up i om))) ?_
     rintro _ c9 ⟨rfl,T⟩
     have aa:=(ym bx T)
     have ab:gf (iG bw ((fJ xs i).up)):=gf.lP Z (o9 (F.up i om))
     obtain⟨bz,da,eR,ab,aa⟩:=iE (m:=m) ab aa
     have bA:=yc [_,_] _ aa
     refine fK aa 5 ?_
     refine cl lV (lY fb nb m ed bz c9 (ye bA 0 rfl) oa hb ab i o_) ?_
     rintro _ eS ⟨rfl,T⟩
     have ac:=(ym bA T)
     have bB:gf (iG bz i):=gf.lP ab o_
     obtain⟨db,dc,eU,bB,ac⟩:=iE (m:=m) bB ac
     refine fQ ac 1 ?_
     refine iZ vk ?_
     have e9:iK xs i=db:=by subst dc;subst da;subst c8;subst c6;subst c4;simp only[iK,J,bg];rfl
     have bk:=ac
     rw[<-e9]at bk
     exact⟨rfl,yo (yc [_,_] [] bk)⟩
   . skip
     refine cl mX (nj fb nb m ed xs a9 (g.at (i:=0) rfl) (g.at (i:=1) rfl) oa hb F ((fJ xs i).up) (o9 (F.up i om)) bh) ?_
     rintro _ dd ⟨rfl,de⟩
     have bC:=yq g de
     have bD:=yc [_,_] _ bC
     refine fK bC 18 ?_
     refine cl lM (rW fb nb m ed xs dd (ye bD 0 rfl) oa hb F ((fJ xs ((fJ xs i).up)).up) i (o9 (F.up ((fJ xs i).up) (o9 (F.up i om)))) o_) ?_
     rintro _ df ⟨rfl,T⟩
     have s:=(ym bD T)
     have t:gf (iW xs ((fJ xs ((fJ xs i).up)).up) 1 i):=gf.kF F (o9 (F.up ((fJ xs i).up) (o9 (F.up i om)))) o_
     obtain⟨ad,dg,eV,t,s⟩:=iE (m:=m) t s
     refine fK s 14 ?_
     refine jk (o' := i*9+0) (i:=(i:Int)) rfl rfl rfl yh jj om o_ (fK s 1 ?_)
     refine jL (o:=i*9+0) (o' := i*9+1) (i:=1) rfl rfl rfl yn gy d_ rfl ?_
     have bE:=yc [_,_] _ s
     refine fK s 1 ?_
     refine cl lM (rV fb nb m ed ad df (ye bE 0 rfl) oa hb t ((fJ xs i).up) ((fJ ad i).k1) (o9 (F.up i om)) (o9 (t.k1 i om))) ?_
     rintro _ dh ⟨rfl,T⟩
     have ae:=(ym bE T)
     have af:gf (iW ad ((fJ xs i).up) 0 ((fJ ad i).k1)):=gf.kF t (o9 (F.up i om)) (o9 (t.k1 i om))
     obtain⟨bF,di,eW,af,ae⟩:=iE (m:=m) af ae
     have bG:=yc [_,_] _ ae
     refine fK ae 9 ?_
     refine cl lM (rW fb nb m ed bF dh (ye bG 0 rfl) oa hb af i ((fJ xs i).up) o_ (o9 (F.up i om))) ?_
     rintro _ dj ⟨rfl,T⟩
     have ag:=(ym bG T)
     have ah:gf (iW bF i 1 ((fJ xs i).up)):=gf.kF af o_ (o9 (F.up i om))
     obtain⟨bH,dk,eX,ah,ag⟩:=iE (m:=m) ah ag
     have bI:=yc [_,_] _ ag
     refine fK ag 6 ?_
     refine cl lV (lY fb nb m ed bH dj (ye bI 0 rfl) oa hb ah ((fJ xs i).up) (o9 (F.up i om))) ?_
     rintro _ dl ⟨rfl,T⟩
     have ai:=(ym bI T)
     have aj:gf (iG bH ((fJ xs i).up)):=gf.lP ah (o9 (F.up i om))
     obtain⟨bJ,dm,eY,aj,ai⟩:=iE (m:=m) aj ai
     have bK:=yc [_,_] _ ai
     refine fK ai 5 ?_
     refine cl lV (lY fb nb m ed bJ dl (ye bK 0 rfl) oa hb aj i o_) ?_
     rintro _ eZ ⟨rfl,T⟩
     have ak:=(ym bK T)
     have bL:gf (iG bJ i):=gf.lP aj o_
     obtain⟨dn,dp,e0,bL,ak⟩:=iE (m:=m) bL ak
     refine fQ ak 1 ?_
     refine iZ vk ?_
     have e9:iK xs i=dn:=by subst dp;subst dm;subst dk;subst di;subst dg;simp only[iK,J,bh];rfl
     have bk:=ak
     rw[<-e9]at bk
     exact⟨rfl,yo (yc [_,_] [] bk)⟩
 . skip
   refine cl mX (nj fb nb m ed xs w (eT.at (i:=0) rfl) (eT.at (i:=1) rfl) oa hb F i o_ K) ?_
   rintro _ bb ⟨rfl,dq⟩
   have h:=yq eT dq
   obtain⟨dr,e1⟩:∃ q,Df xs ((fJ xs i).up)=q:=⟨_,rfl⟩
   refine fK h 12 ?_
   rcases dr with bM|bN|bO
   . skip
     refine cl mX (nj fb nb m ed xs bb (h.at (i:=0) rfl) (h.at (i:=1) rfl) oa hb F ((fJ xs i).up) (o9 (F.up i om)) bM) ?_
     rintro _ e2 ⟨rfl,ds⟩
     have bc:=yq h ds
     refine fK bc 20 ?_
     refine jk (o' := i*9+0) (i:=(i:Int)) rfl rfl rfl yh jj om o_ (fK bc 1 ?_)
     refine j3 (f:=(fun x:Nd=>{ x with up:=((fJ xs ((fJ xs i).up)).up) })) 1 bc (fun dt u e3=>?_)
     have v:gf (fO xs i (fun x=>{ x with up:=((fJ xs ((fJ xs i).up)).up) })):=gf.iN F om (fun x a b c d e=>⟨a,b,(o9 (F.up ((fJ xs i).up) (o9 (F.up i om)))),d,e⟩)
     obtain⟨al,du,e4,v,u⟩:=iE (m:=m) v u
     refine fK u 14 ?_
     refine jk (o' := i*9+0) (i:=(i:Int)) rfl rfl rfl yh jj om o_ (fK u 1 ?_)
     refine jL (o:=i*9+0) (o' := i*9+1) (i:=1) rfl rfl rfl yn gy d_ rfl ?_
     have bP:=yc [_,_] _ u
     refine fK u 1 ?_
     refine cl lM (rV fb nb m ed al dt (ye bP 0 rfl) oa hb v ((fJ xs i).up) ((fJ al i).k1) (o9 (F.up i om)) (o9 (v.k1 i om))) ?_
     rintro _ dv ⟨rfl,T⟩
     have am:=(ym bP T)
     have an:gf (iW al ((fJ xs i).up) 0 ((fJ al i).k1)):=gf.kF v (o9 (F.up i om)) (o9 (v.k1 i om))
     obtain⟨bQ,dw,e5,an,am⟩:=iE (m:=m) an am
     have bR:=yc [_,_] _ am
     refine fK am 9 ?_
     refine cl lM (rW fb nb m ed bQ dv (ye bR 0 rfl) oa hb an i ((fJ xs i).up) o_ (o9 (F.up i om))) ?_
     rintro _ dx ⟨rfl,T⟩
     have ao:=(ym bR T)
     have ap:gf (iW bQ i 1 ((fJ xs i).up)):=gf.kF an o_ (o9 (F.up i om))
     obtain⟨bS,dy,e6,ap,ao⟩:=iE (m:=m) ap ao
     have bT:=yc [_,_] _ ao
     refine fK ao 6 ?_
     refine cl lV (lY fb nb m ed bS dx (ye bT 0 rfl) oa hb ap ((fJ xs i).up) (o9 (F.up i om))) ?_
     rintro _ dz ⟨rfl,T⟩
     have aq:=(ym bT T)
     have ar:gf (iG bS ((fJ xs i).up)):=gf.lP ap (o9 (F.up i om))
     obtain⟨bU,dA,e7,ar,aq⟩:=iE (m:=m) ar aq
     have bV:=yc [_,_] _ aq
     refine fK aq 5 ?_
     refine cl lV (lY fb nb m ed bU dz (ye bV 0 rfl) oa hb ar i o_) ?_
     rintro _ e8 ⟨rfl,T⟩
     have au:=(ym bV T)
     have bW:gf (iG bU i):=gf.lP ar o_
     obtain⟨dB,dC,fa,bW,au⟩:=iE (m:=m) bW au
     refine fQ au 1 ?_
     refine iZ vk ?_
     have e9:iK xs i=dB:=by subst dC;subst dA;subst dy;subst dw;subst du;simp only[iK,K,bM];rfl
     have bk:=au
     rw[<-e9]at bk
     exact⟨rfl,yo (yc [_,_] [] bk)⟩
   . skip
     refine cl mX (nj fb nb m ed xs bb (h.at (i:=0) rfl) (h.at (i:=1) rfl) oa hb F ((fJ xs i).up) (o9 (F.up i om)) bN) ?_
     rintro _ dD ⟨rfl,dE⟩
     have bX:=yq h dE
     have bY:=yc [_,_] _ bX
     refine fK bX 18 ?_
     refine cl lM (rV fb nb m ed xs dD (ye bY 0 rfl) oa hb F ((fJ xs ((fJ xs i).up)).up) i (o9 (F.up ((fJ xs i).up) (o9 (F.up i om)))) o_) ?_
     rintro _ dF ⟨rfl,T⟩
     have y:=(ym bY T)
     have z:gf (iW xs ((fJ xs ((fJ xs i).up)).up) 0 i):=gf.kF F (o9 (F.up ((fJ xs i).up) (o9 (F.up i om)))) o_
     obtain⟨av,dG,fc,z,y⟩:=iE (m:=m) z y
     refine fK y 14 ?_
     refine jk (o' := i*9+0) (i:=(i:Int)) rfl rfl rfl yh jj om o_ (fK y 1 ?_)
     refine jL (o:=i*9+0) (o' := i*9+1) (i:=1) rfl rfl rfl yn gy d_ rfl ?_
     have bZ:=yc [_,_] _ y
     refine fK y 1 ?_
     refine cl lM (rV fb nb m ed av dF (ye bZ 0 rfl) oa hb z ((fJ xs i).up) ((fJ av i).k1) (o9 (F.up i om)) (o9 (z.k1 i om))) ?_
     rintro _ dH ⟨rfl,T⟩
     have aw:=(ym bZ T)
     have ax:gf (iW av ((fJ xs i).up) 0 ((fJ av i).k1)):=gf.kF z (o9 (F.up i om)) (o9 (z.k1 i om))
     obtain⟨b0,dI,fd,ax,aw⟩:=iE (m:=m) ax aw
     have b1:=yc [_,_] _ aw
     refine fK aw 9 ?_
     refine cl lM (rW fb nb m ed b0 dH (ye b1 0 rfl) oa hb ax i ((fJ xs i).up) o_ (o9 (F.up i om))) ?_
     rintro _ dJ ⟨rfl,T⟩
     have ay:=(ym b1 T)
     have az:gf (iW b0 i 1 ((fJ xs i).up)):=gf.kF ax o_ (o9 (F.up i om))
     obtain⟨b2,dK,fe,az,ay⟩:=iE (m:=m) az ay
     have b3:=yc [_,_] _ ay
     refine fK ay 6 ?_
     refine cl lV (lY fb nb m ed b2 dJ (ye b3 0 rfl) oa hb az ((fJ xs i).up) (o9 (F.up i om))) ?_
     rintro _ dL ⟨rfl,T⟩
     have aA:=(ym b3 T)
     have aB:gf (iG b2 ((fJ xs i).up)):=gf.lP az (o9 (F.up i om))
     obtain⟨b4,dM,ff,aB,aA⟩:=iE (m:=m) aB aA
     have b5:=yc [_,_] _ aA
     refine fK aA 5 ?_
     refine cl lV (lY fb nb m ed b4 dL (ye b5 0 rfl) oa hb aB i o_) ?_
     rintro _ fg ⟨rfl,T⟩
     have aC:=(ym b5 T)
     have b6:gf (iG b4 i):=gf.lP aB o_
     obtain⟨dN,dO,fh,b6,aC⟩:=iE (m:=m) b6 aC
     refine fQ aC 1 ?_
     refine iZ vk ?_
     have e9:iK xs i=dN:=by subst dO;subst dM;subst dK;subst dI;subst dG;simp only[iK,K,bN];rfl
     have bk:=aC
     rw[<-e9]at bk
     exact⟨rfl,yo (yc [_,_] [] bk)⟩
   . skip
     refine cl mX (nj fb nb m ed xs bb (h.at (i:=0) rfl) (h.at (i:=1) rfl) oa hb F ((fJ xs i).up) (o9 (F.up i om)) bO) ?_
     rintro _ dP ⟨rfl,dQ⟩
     have b7:=yq h dQ
     have b8:=yc [_,_] _ b7
     refine fK b7 18 ?_
     refine cl lM (rW fb nb m ed xs dP (ye b8 0 rfl) oa hb F ((fJ xs ((fJ xs i).up)).up) i (o9 (F.up ((fJ xs i).up) (o9 (F.up i om)))) o_) ?_
     rintro _ dR ⟨rfl,T⟩
     have A:=(ym b8 T)
     have B:gf (iW xs ((fJ xs ((fJ xs i).up)).up) 1 i):=gf.kF F (o9 (F.up ((fJ xs i).up) (o9 (F.up i om)))) o_
     obtain⟨aD,dS,fi,B,A⟩:=iE (m:=m) B A
     refine fK A 14 ?_
     refine jk (o' := i*9+0) (i:=(i:Int)) rfl rfl rfl yh jj om o_ (fK A 1 ?_)
     refine jL (o:=i*9+0) (o' := i*9+1) (i:=1) rfl rfl rfl yn gy d_ rfl ?_
     have b9:=yc [_,_] _ A
     refine fK A 1 ?_
     refine cl lM (rV fb nb m ed aD dR (ye b9 0 rfl) oa hb B ((fJ xs i).up) ((fJ aD i).k1) (o9 (F.up i om)) (o9 (B.k1 i om))) ?_
     rintro _ dT ⟨rfl,T⟩
     have aE:=(ym b9 T)
     have aF:gf (iW aD ((fJ xs i).up) 0 ((fJ aD i).k1)):=gf.kF B (o9 (F.up i om)) (o9 (B.k1 i om))
     obtain⟨ca,dU,fj,aF,aE⟩:=iE (m:=m) aF aE
     have cb:=yc [_,_] _ aE
     refine fK aE 9 ?_
     refine cl lM (rW fb nb m ed ca dT (ye cb 0 rfl) oa hb aF i ((fJ xs i).up) o_ (o9 (F.up i om))) ?_
     rintro _ dV ⟨rfl,T⟩
     have aG:=(ym cb T)
     have aH:gf (iW ca i 1 ((fJ xs i).up)):=gf.kF aF o_ (o9 (F.up i om))
     obtain⟨cc,dW,fk,aH,aG⟩:=iE (m:=m) aH aG
     have cd:=yc [_,_] _ aG
     refine fK aG 6 ?_
     refine cl lV (lY fb nb m ed cc dV (ye cd 0 rfl) oa hb aH ((fJ xs i).up) (o9 (F.up i om))) ?_
     rintro _ dX ⟨rfl,T⟩
     have aI:=(ym cd T)
     have aJ:gf (iG cc ((fJ xs i).up)):=gf.lP aH (o9 (F.up i om))
     obtain⟨ce,dY,fl,aJ,aI⟩:=iE (m:=m) aJ aI
     have cf:=yc [_,_] _ aI
     refine fK aI 5 ?_
     refine cl lV (lY fb nb m ed ce dX (ye cf 0 rfl) oa hb aJ i o_) ?_
     rintro _ fm ⟨rfl,T⟩
     have aK:=(ym cf T)
     have cg:gf (iG ce i):=gf.lP aJ o_
     obtain⟨dZ,d0,fn,cg,aK⟩:=iE (m:=m) cg aK
     refine fQ aK 1 ?_
     refine iZ vk ?_
     have e9:iK xs i=dZ:=by subst d0;subst dY;subst dW;subst dU;subst dS;simp only[iK,K,bO];rfl
     have bk:=aK
     rw[<-e9]at bk
     exact⟨rfl,yo (yc [_,_] [] bk)⟩
 . skip
   refine cl mX (nj fb nb m ed xs w (eT.at (i:=0) rfl) (eT.at (i:=1) rfl) oa hb F i o_ L) ?_
   rintro _ bd ⟨rfl,d1⟩
   have j:=yq eT d1
   obtain⟨d2,fo⟩:∃ q,Df xs ((fJ xs i).up)=q:=⟨_,rfl⟩
   refine fK j 12 ?_
   rcases d2 with ch|ci|cj
   . skip
     refine cl mX (nj fb nb m ed xs bd (j.at (i:=0) rfl) (j.at (i:=1) rfl) oa hb F ((fJ xs i).up) (o9 (F.up i om)) ch) ?_
     rintro _ fp ⟨rfl,d3⟩
     have be:=yq j d3
     refine fK be 20 ?_
     refine jk (o' := i*9+0) (i:=(i:Int)) rfl rfl rfl yh jj om o_ (fK be 1 ?_)
     refine j3 (f:=(fun x:Nd=>{ x with up:=((fJ xs ((fJ xs i).up)).up) })) 1 be (fun d4 C fq=>?_)
     have D:gf (fO xs i (fun x=>{ x with up:=((fJ xs ((fJ xs i).up)).up) })):=gf.iN F om (fun x a b c d e=>⟨a,b,(o9 (F.up ((fJ xs i).up) (o9 (F.up i om)))),d,e⟩)
     obtain⟨aL,d5,fr,D,C⟩:=iE (m:=m) D C
     refine fK C 14 ?_
     refine jk (o' := i*9+0) (i:=(i:Int)) rfl rfl rfl yh jj om o_ (fK C 1 ?_)
     refine jL (o:=i*9+0) (o' := i*9+0) (i:=0) rfl rfl rfl yn gy d_ rfl ?_
     have ck:=yc [_,_] _ C
     refine fK C 1 ?_
     refine cl lM (rW fb nb m ed aL d4 (ye ck 0 rfl) oa hb D ((fJ xs i).up) ((fJ aL i).k0) (o9 (F.up i om)) (o9 (D.k0 i om))) ?_
     rintro _ d6 ⟨rfl,T⟩
     have aM:=(ym ck T)
     have aN:gf (iW aL ((fJ xs i).up) 1 ((fJ aL i).k0)):=gf.kF D (o9 (F.up i om)) (o9 (D.k0 i om))
     obtain⟨cm,d7,fs,aN,aM⟩:=iE (m:=m) aN aM
     have cn:=yc [_,_] _ aM
     refine fK aM 9 ?_
     refine cl lM (rV fb nb m ed cm d6 (ye cn 0 rfl) oa hb aN i ((fJ xs i).up) o_ (o9 (F.up i om))) ?_
     rintro _ d8 ⟨rfl,T⟩
     have aO:=(ym cn T)
     have aP:gf (iW cm i 0 ((fJ xs i).up)):=gf.kF aN o_ (o9 (F.up i om))
     obtain⟨co,d9,ft,aP,aO⟩:=iE (m:=m) aP aO
     have cp:=yc [_,_] _ aO
     refine fK aO 6 ?_
     refine cl lV (lY fb nb m ed co d8 (ye cp 0 rfl) oa hb aP ((fJ xs i).up) (o9 (F.up i om))) ?_
     rintro _ ea ⟨rfl,T⟩
     have aQ:=(ym cp T)
     have aR:gf (iG co ((fJ xs i).up)):=gf.lP aP (o9 (F.up i om))
     obtain⟨cq,eb,fu,aR,aQ⟩:=iE (m:=m) aR aQ
     have cr:=yc [_,_] _ aQ
     refine fK aQ 5 ?_
     refine cl lV (lY fb nb m ed cq ea (ye cr 0 rfl) oa hb aR i o_) ?_
     rintro _ fv ⟨rfl,T⟩
     have aS:=(ym cr T)
     have cs:gf (iG cq i):=gf.lP aR o_
     obtain⟨ec,ee,fw,cs,aS⟩:=iE (m:=m) cs aS
     refine fQ aS 1 ?_
     refine iZ vk ?_
     have e9:iK xs i=ec:=by subst ee;subst eb;subst d9;subst d7;subst d5;simp only[iK,L,ch];rfl
     have bk:=aS
     rw[<-e9]at bk
     exact⟨rfl,yo (yc [_,_] [] bk)⟩
   . skip
     refine cl mX (nj fb nb m ed xs bd (j.at (i:=0) rfl) (j.at (i:=1) rfl) oa hb F ((fJ xs i).up) (o9 (F.up i om)) ci) ?_
     rintro _ ef ⟨rfl,eg⟩
     have ct:=yq j eg
     have cu:=yc [_,_] _ ct
     refine fK ct 18 ?_
     refine cl lM (rV fb nb m ed xs ef (ye cu 0 rfl) oa hb F ((fJ xs ((fJ xs i).up)).up) i (o9 (F.up ((fJ xs i).up) (o9 (F.up i om)))) o_) ?_
     rintro _ eh ⟨rfl,T⟩
     have E:=(ym cu T)
     have G:gf (iW xs ((fJ xs ((fJ xs i).up)).up) 0 i):=gf.kF F (o9 (F.up ((fJ xs i).up) (o9 (F.up i om)))) o_
     obtain⟨aT,ei,fx,G,E⟩:=iE (m:=m) G E
     refine fK E 14 ?_
     refine jk (o' := i*9+0) (i:=(i:Int)) rfl rfl rfl yh jj om o_ (fK E 1 ?_)
     refine jL (o:=i*9+0) (o' := i*9+0) (i:=0) rfl rfl rfl yn gy d_ rfl ?_
     have cv:=yc [_,_] _ E
     refine fK E 1 ?_
     refine cl lM (rW fb nb m ed aT eh (ye cv 0 rfl) oa hb G ((fJ xs i).up) ((fJ aT i).k0) (o9 (F.up i om)) (o9 (G.k0 i om))) ?_
     rintro _ ej ⟨rfl,T⟩
     have aU:=(ym cv T)
     have aV:gf (iW aT ((fJ xs i).up) 1 ((fJ aT i).k0)):=gf.kF G (o9 (F.up i om)) (o9 (G.k0 i om))
     obtain⟨cw,ek,fy,aV,aU⟩:=iE (m:=m) aV aU
     have cx:=yc [_,_] _ aU
     refine fK aU 9 ?_
     refine cl lM (rV fb nb m ed cw ej (ye cx 0 rfl) oa hb aV i ((fJ xs i).up) o_ (o9 (F.up i om))) ?_
     rintro _ el ⟨rfl,T⟩
     have aW:=(ym cx T)
     have aX:gf (iW cw i 0 ((fJ xs i).up)):=gf.kF aV o_ (o9 (F.up i om))
     obtain⟨cy,em,fz,aX,aW⟩:=iE (m:=m) aX aW
     have cz:=yc [_,_] _ aW
     refine fK aW 6 ?_
     refine cl lV (lY fb nb m ed cy el (ye cz 0 rfl) oa hb aX ((fJ xs i).up) (o9 (F.up i om))) ?_
     rintro _ eo ⟨rfl,T⟩
     have aY:=(ym cz T)
     have aZ:gf (iG cy ((fJ xs i).up)):=gf.lP aX (o9 (F.up i om))
     obtain⟨cA,ep,fA,aZ,aY⟩:=iE (m:=m) aZ aY
     have cB:=yc [_,_] _ aY
     refine fK aY 5 ?_
     refine cl lV (lY fb nb m ed cA eo (ye cB 0 rfl) oa hb aZ i o_) ?_
     rintro _ fB ⟨rfl,T⟩
     have a0:=(ym cB T)
     have cC:gf (iG cA i):=gf.lP aZ o_
     obtain⟨eq,er,fC,cC,a0⟩:=iE (m:=m) cC a0
     refine fQ a0 1 ?_
     refine iZ vk ?_
     have e9:iK xs i=eq:=by subst er;subst ep;subst em;subst ek;subst ei;simp only[iK,L,ci];rfl
     have bk:=a0
     rw[<-e9]at bk
     exact⟨rfl,yo (yc [_,_] [] bk)⟩
   . skip
     refine cl mX (nj fb nb m ed xs bd (j.at (i:=0) rfl) (j.at (i:=1) rfl) oa hb F ((fJ xs i).up) (o9 (F.up i om)) cj) ?_
     rintro _ es ⟨rfl,et⟩
     have cD:=yq j et
     have cE:=yc [_,_] _ cD
     refine fK cD 18 ?_
     refine cl lM (rW fb nb m ed xs es (ye cE 0 rfl) oa hb F ((fJ xs ((fJ xs i).up)).up) i (o9 (F.up ((fJ xs i).up) (o9 (F.up i om)))) o_) ?_
     rintro _ eu ⟨rfl,T⟩
     have H:=(ym cE T)
     have I:gf (iW xs ((fJ xs ((fJ xs i).up)).up) 1 i):=gf.kF F (o9 (F.up ((fJ xs i).up) (o9 (F.up i om)))) o_
     obtain⟨a1,ev,fD,I,H⟩:=iE (m:=m) I H
     refine fK H 14 ?_
     refine jk (o' := i*9+0) (i:=(i:Int)) rfl rfl rfl yh jj om o_ (fK H 1 ?_)
     refine jL (o:=i*9+0) (o' := i*9+0) (i:=0) rfl rfl rfl yn gy d_ rfl ?_
     have cF:=yc [_,_] _ H
     refine fK H 1 ?_
     refine cl lM (rW fb nb m ed a1 eu (ye cF 0 rfl) oa hb I ((fJ xs i).up) ((fJ a1 i).k0) (o9 (F.up i om)) (o9 (I.k0 i om))) ?_
     rintro _ ew ⟨rfl,T⟩
     have a2:=(ym cF T)
     have a3:gf (iW a1 ((fJ xs i).up) 1 ((fJ a1 i).k0)):=gf.kF I (o9 (F.up i om)) (o9 (I.k0 i om))
     obtain⟨cG,ex,fE,a3,a2⟩:=iE (m:=m) a3 a2
     have cH:=yc [_,_] _ a2
     refine fK a2 9 ?_
     refine cl lM (rV fb nb m ed cG ew (ye cH 0 rfl) oa hb a3 i ((fJ xs i).up) o_ (o9 (F.up i om))) ?_
     rintro _ ey ⟨rfl,T⟩
     have a4:=(ym cH T)
     have a5:gf (iW cG i 0 ((fJ xs i).up)):=gf.kF a3 o_ (o9 (F.up i om))
     obtain⟨cI,ez,fF,a5,a4⟩:=iE (m:=m) a5 a4
     have cJ:=yc [_,_] _ a4
     refine fK a4 6 ?_
     refine cl lV (lY fb nb m ed cI ey (ye cJ 0 rfl) oa hb a5 ((fJ xs i).up) (o9 (F.up i om))) ?_
     rintro _ eA ⟨rfl,T⟩
     have a6:=(ym cJ T)
     have a7:gf (iG cI ((fJ xs i).up)):=gf.lP a5 (o9 (F.up i om))
     obtain⟨cK,eB,fG,a7,a6⟩:=iE (m:=m) a7 a6
     have cL:=yc [_,_] _ a6
     refine fK a6 5 ?_
     refine cl lV (lY fb nb m ed cK eA (ye cL 0 rfl) oa hb a7 i o_) ?_
     rintro _ fH ⟨rfl,T⟩
     have a8:=(ym cL T)
     have cM:gf (iG cK i):=gf.lP a7 o_
     obtain⟨eC,eD,fI,cM,a8⟩:=iE (m:=m) cM a8
     refine fQ a8 1 ?_
     refine iZ vk ?_
     have e9:iK xs i=eC:=by subst eD;subst eB;subst ez;subst ex;subst ev;simp only[iK,L,cj];rfl
     have bk:=a8
     rw[<-e9]at bk
     exact⟨rfl,yo (yc [_,_] [] bk)⟩
end
section
open Go Go.Sx
theorem Va(v:Value)(w:World)(h1:v.oneCell' = true) :
 CR ya 175 #[v] w (fun r w' => ∃ g,w.heap.size<=g/\r = .func (.func 201) #[] (Zh g)/\(blk g 65 [v]).holds w' /\ gA [] w w'):=by
 refine en Tryz.func175 Tryz.ntmps175 ?_
 have f:=yt w
 refine fR f 2 ?_
 refine iF f (fun b d c e a=>?_) (hcs:=(cells_one h1))
 refine fK a 5 ?_
 refine oc (vf:=[]) (vc:=(Zi b)) rfl rfl rfl (fQ a 4 ?_)
 refine gp (v:=(.func (.func 201) #[] (Zh b))) Tryz.results175 rfl ?_
 exact⟨_,lq (f.size ze) c,rfl,a.at (i:=0) rfl,a.gD s_⟩
theorem U9(s:Nat->fS)(l u:Nat)(v:Value)(xs:List Int)(ok:Nat->Prop)(w:World)(E:∀ (k:Nat) (x:Int) (bs:List (World×List Nat)) (L:List fS) (w:World),k<xs.length->xs[xs.length-1-k]? = some x->St bs (s k :: L) w->YR ya l (Zp ((xs.length:Int)-1-(k:Int)) x) w (fun v w' => v = .bool true/\St bs (s (k+1) :: L) w'))(C:Own (s 0) w)(A:(blk u 65 [v]).holds w)(D:u∉(s 0).gJ)(hv:Ints .i64 ok w v xs)(y:∀ b,ok b->b∉(s 0).gJ)(G:xs.length<=1000000000000) :
 CR ya 201 #[(.func (.yield l) #[] #[]),(Zb u)] w (fun r w' => r = .tuple #[]/\fZ (s 0) w w' (s xs.length)):=by
 have hv:=hv.old d_
 have y:∀ b,(ok b/\b<w.heap.size)->b∉(s 0).gJ:=fun b hb=>y b hb.1
 refine en Tryz.func201 Tryz.ntmps201 ?_
 have z:=yr C
 refine fR z 2 ?_
 refine ld rfl rfl yd rfl (Cc A (o:=0) rfl) (k6 (v:=v) rfl rfl yd hv (gH z 5 ?_))
 refine lp (α:=Nat) (fun k=>[(0,(.func (.yield l) #[] #[])),(1,(Zb u)),(3,(Za ((xs.length:Int)-1-(k:Int))))]) (fun k w1=>St [(w,(s 0).gJ)] [s k] w1/\k<=xs.length) (fun k=>xs.length-k) 0 ⟨rfl,rfl,gr rO,trivial⟩ (⟨z,o_⟩) ?_
 rintro k f g ⟨t,F⟩
 refine fR t 4 ?_
 by_cases h:((xs.length:Int)-1-(k:Int):Int)≥(0:Int)
 . obtain⟨x,B⟩:=pS (show xs.length-1-k<xs.length by omega)
   refine fK t 12 ?_
   refine ld rfl rfl yd rfl (St.Ij t (X:=(s 0).gJ) s_ (Cc A (o:=0) rfl) D) (fK t 1 ?_)
   refine CB (i:=(xs.length:Int)-1-(k:Int)) (el:=x) rfl rfl rfl yd gy (St.ints t (X:=(s 0).gJ) s_ hv y) o_ (by rw[show ((xs.length:Int)-1-(k:Int)).toNat=xs.length-1-k by omega];exact B) ?_
   intro j m c d n
   have p:=d.i64
   refine ld rfl rfl yf rfl c (yl (vl:=(Zp ((xs.length:Int)-1-(k:Int)) x)) rfl rfl rfl (E k x _ _ _ o_ B t) ?_)
   rintro _ q ⟨rfl,a⟩
   refine fK a 9 ?_
   refine ar (e:=(xs.length:Int)-1-((k+1:Nat):Int)) rfl rfl rfl rfl i7 (fQ a 2 ?_)
   refine tN (?_)
   exact again (k+1) ⟨rfl,rfl,gr rO,trivial⟩ (⟨a,o_⟩) (by show (xs.length-(k+1):Nat)<xs.length-k;omega)
 . refine fQ t 8 ?_
   refine iZ Tryz.results201 ?_
   obtain rfl:k=xs.length:=by omega
   exact⟨rfl,yj (R:=s 0) t s_⟩
end
section
open Go Go.Sx
theorem S0(fb nb m:Nat)(ed:Int)(xs:List Nd)(w:World)(hO:Own (Zk fb nb m ed xs) w)(hm:xs.length=m)(hb:m<=1000001)(hI:gf xs)(i q:Nat)(T:Tr)(hR:gR xs T q)(hT:i∈T.mem)(hn:T.mem.Nodup)(bI:T.mem.length<=1000000)(hq:Out xs q T.mem) :
 CR ya 137 (Zm fb i) w (fun r w' => r = .tuple #[]/\∃ ys a' b', jI xs ys T [] (.nd a' i b') q/\(fJ ys i).flip=false/\gf ys/\fZ (Zk fb nb m ed xs) w w' (Zk fb nb m ed ys)):=by
 have b9:i<m:=by have h7:=hR.o8 i hT;omega
 obtain⟨c,a,b,rfl⟩:=Fv hT
 have bH:=At.start hR hn
 have bK:Out xs q (lI c (Tr.nd a i b).mem):=by rw[<-pW];exact hq
 have bE:=acF hR
 have bY:=acE (c:=c) (a:=a) (b:=b) (i:=i)
 have bA:=hI.lJ bE
 have bR:=FG (m:=m) (fun j hj=>by have:=bE j hj;omega) hb
 refine EX (vs:=(tD fb i)) Tryz.func137 rfl Tryz.ntmps137 rfl ?_
 have bO:=(yr hO).unpack
 refine fR bO 2 ?_
 refine iF bO (fun e aj a7 a8 I=>?_)
 have ak:St _ [ir .i64 Zg 3 ([]),blk e 126 (Zi fb),blk fb 195 (vT fb nb m ed),blk nb 192 (xs.flatMap Nd.cells)] aj:=rA I 3 1
 have al:=ak
 have am:=al
 refine gH I 19 ?_
 refine lp (α:=Nat×Nat×Value) (fun(k,j,pv)=>[(1,(Za i)),(2,(Zb e)),(4,pv),(5,(Za j))]) (fun(k,j,pv) w1=>St [(w,(Zk fb nb m ed xs).gJ)] [ir .i64 pv 3 (gB ((jo c i).take k)),blk e 126 (Zi fb),blk fb 195 (vT fb nb m ed),blk nb 192 (xs.flatMap Nd.cells)] w1/\(jo c i)[k]? = some j) (fun(k,j,pv)=>c.length+1-k) (0,i,Zg) ⟨rfl,rfl,rfl,gr rO,trivial⟩ (⟨am,rfl⟩) ?_
 rintro⟨k,j,pv⟩ a9 ba hC
 have bU:j<m:=by have h7:=bE j (zd hC.2);omega
 refine fR hC.1 5 ?_
 refine kj (vs:=(Ze j)) (cs:=(Ze j)) rfl rfl yd gy rfl (by simp[Value.cells]) rfl rfl rfl hC.1 (fun an bb bc bd J=>vU (k:=.i64) (ys:=gB ((jo c i).take k)) (zs:=[(j:Int)]) (LL:=fun f=>[ir .i64 (Z6 an) 3 ([(j:Int)]),ir .i64 f 3 ((gB ((jo c i).take k))++([(j:Int)])),blk e 126 (Zi fb),blk fb 195 (vT fb nb m ed),blk nb 192 (xs.flatMap Nd.cells)]) 1 rfl rfl rfl yd gy rfl J rfl (l7 J (i:=0) rfl) (by simp only[gB,zq,z8,zh,zn];omega) (by simp only[gB,zq,z8,zh,zn];omega) f_ ?_)
 intro f t K be
 have ao:=yg [1,2,3,4] K
 have g:=yg [3,4,1,2] K
 obtain⟨ap,bf⟩:∃ q,Df xs j=q:=⟨_,rfl⟩
 refine fK ao 8 ?_
 rcases ap with M|N|P
 . skip
   have b8:=VE bH bK hC.2 M
   have bQ:gB ((jo c i).take k)++[(j:Int)]=gB (jo c i):=by rw[J7 hC.2,vt (by rw[bY.1];omega)]
   refine cl mX (nj fb nb m ed xs t (g.at (i:=0) rfl) (g.at (i:=1) rfl) oa hb hI j o_ M) ?_
   rintro _ aq ⟨rfl,ar⟩
   have u:=yq g ar
   refine fK u 24 ?_
   refine cl Xo (Va f aq (yu u (i:=2) rfl)) ?_
   rintro _ au ⟨kb,bW,rfl,bV,bZ⟩
   have Q:=St.Nk u bZ bW bV
   have av:=yg [4,1,2,3,0] Q
   have aw:St [(w,(Zk fb nb m ed xs).gJ)] (MI e fb nb m ed (lJ xs (jo c i) 0) f (gB (jo c i)) kb) au:=by rw[R6];have h9:=av;rw[bQ]at h9;exact h9
   refine gH Q 3 ?_
   refine rf (α:=Nat) (ps:=[38,39]) (fi:=[]) (ca:=(Zi kb)) (fun z=>(MI e fb nb m ed (lJ xs (jo c i) z) f (gB (jo c i)) kb)) (fun z=>z=(jo c i).length) aw rfl Xz ?_ ?_
   . intro fn dd l wl rc bL b6
     have ax:=yg [0,2,3,4,1,5,6] b6
     have bC:=yc (Af (jr l rc) e fb nb m ed (lJ xs (jo c i) 0)) [ku dd (some []),ir .i64 f 3 (gB (jo c i)),blk kb 65 [f]] ax
     have bM:rc.state = .ready:=by rw[bL]
     have b1:rc.pending=none:=by rw[bL]
     have b3:∀ (k:Nat) (x:Int) (bs:List (World×List Nat)) (L:List fS) (w:World),k<(gB (jo c i)).length->(gB (jo c i))[(gB (jo c i)).length-1-k]? = some x->St bs ((fun(z:Nat)=>gq (Af (jr l rc) e fb nb m ed (lJ xs (jo c i) z))) k :: L) w->YR ya l (Zp (((gB (jo c i)).length:Int)-1-(k:Int)) x) w (fun v w' => v = .bool true/\St bs ((fun(z:Nat)=>gq (Af (jr l rc) e fb nb m ed (lJ xs (jo c i) z))) (k+1) :: L) w'):=by
      intro k x bs LT wr bX hx bD
      have bD:=bD.unpack
      obtain⟨j,hj,rfl⟩:=abW bX hx
      have bU:j<m:=by have:=bE j (by simpa using zd hj);omega
      have cb:=(bA k).2
      refine Db (vl:=(Zp (((gB (jo c i)).length:Int)-1-(k:Int)) j)) 0 bL bD rfl rfl rfl (iS bD 3 ?_)
      refine tN (?_)
      refine Ew 0 bD rfl bM rfl ?_
      intro ay R
      have az:=mS R (List.Perm.cons _ (List.Perm.swap _ _ _))
      have aA:=mS az (List.Perm.swap _ _ _)
      have aB:=mS aA (List.Perm.cons _ (List.Perm.cons _ (List.Perm.swap _ _ _)))
      have aC:=mS aB (List.Perm.cons _ (List.Perm.swap _ _ _))
      have S:=yc [_,_] _ aC
      refine fR R 4 ?_
      refine cl Xp (Kw fb nb m ed (lJ xs (jo c i) k) ay (ye S 0 rfl) oa hb (bA k).1 j o_) ?_
      rintro _ bg ⟨rfl,ht⟩
      have U:=(ym S ht)
      have bh:gf (jZ (lJ xs (jo c i) k) j):=(gf.push (bA k).1 o_).1
      refine fQ U 2 ?_
      refine EH 2 U rfl bM b1 rfl ?_
      intro bi aD
      have aE:=mS aD (List.Perm.cons _ (List.Perm.swap _ _ _))
      have aF:=mS aE (List.Perm.swap _ _ _)
      have aG:=mS aF (List.Perm.cons _ (List.Perm.cons _ (List.Perm.swap _ _ _)))
      have aH:=mS aG (List.Perm.cons _ (List.Perm.swap _ _ _))
      have bN:=aH
      rw[<-R5 hj]at bN
      exact⟨_,rfl,rfl,yc [_,_,_,_] _ bN⟩
     refine CR.mono (U9 (fun(z:Nat)=>gq (Af (jr l rc) e fb nb m ed (lJ xs (jo c i) z))) l kb f (gB (jo c i)) (fun b=>b∉((fun(z:Nat)=>gq (Af (jr l rc) e fb nb m ed (lJ xs (jo c i) z))) 0).gJ) wl b3 (ye bC 0 rfl) (bC.at (i:=3) rfl) (bC.Ri (by simp[iT,blk,ku])) (St.ad1 bC (i:=2) (j:=0) rfl bR rfl d_) (fun _ h=>h) (by simp only[gB,zq];omega)) ?_
     rintro _ w9 ⟨-,b7⟩
     have b5:=(ym bC b7)
     have aI:=yg [0,4,1,2,3,5,6] b5
     exact⟨_,by simp[gB],aI⟩
   . rintro z dd bj hC aJ
     have V:=yg [0,1,2,3] aJ
     obtain⟨O0,a0,b0,bP,bT⟩:=adg hR hn hC
     refine Kq tt none V 3 ?_
     refine lp (α:=List Nd×Cx×Tr×Tr) (fun(ys,O,a', b')=>[(1,(Za i)),(2,(Zb e))]) (fun(ys,O,a', b') w1=>St [(w,(Zk fb nb m ed xs).gJ)] (Af (ku dd (some [])) e fb nb m ed ys) w1/\jI xs ys (j6 c (.nd a i b)) O (.nd a' i b') q/\(fJ ys i).flip=false/\gf ys/\ys.length=m) (fun(ys,O,a', b')=>O.length) ((lJ xs (jo c i) z),O0,a0,b0) ⟨rfl,rfl,trivial⟩ (⟨V,bP,bT,(bA z).1,by have:=(bA z).2;omega⟩) ?_
     rintro⟨ys,O,a', b'⟩ bl y ⟨bz,hM,bF,F,cc⟩
     refine fR bz 3 ?_
     rcases hM.sides hn hq with ⟨hO,hS⟩|⟨d,p,s2,hO,hS,hU,bG⟩|⟨d,p,s2,d', g2,s3,c2,hO,hS,hU,bG⟩
     . skip
       subst hO
       have A:=yg [2,3,0,1] bz
       refine fK bz 2 ?_
       refine cl mX (nj fb nb m ed ys y (A.at (i:=0) rfl) (A.at (i:=1) rfl) oa hb F i o_ hS) ?_
       rintro _ bm ⟨rfl,aK⟩
       have W:=yq A aK
       refine fQ W 21 ?_
       refine CI 2 W rfl rfl ?_
       intro w8 b4
       exact⟨_,results_none Tryz.results137 _ _ _,_,rfl,rfl,ys,a', b', hM,bF,F,yo (yc [_,_] _ b4)⟩
     . skip
       subst hO
       subst hU
       have B:=yg [2,3,0,1] bz
       refine fK bz 2 ?_
       refine cl mX (nj fb nb m ed ys y (B.at (i:=0) rfl) (B.at (i:=1) rfl) oa hb F i o_ hS) ?_
       rintro _ aL ⟨rfl,aM⟩
       have n:=yq B aM
       refine fK n 24 ?_
       refine jk (o' := i*9+0) (i:=(i:Int)) rfl rfl rfl yh jj (o9 (show i<(ys).length from om)) o_ (fK n 10 ?_)
       refine cl mX (nj fb nb m ed ys aL (n.at (i:=0) rfl) (n.at (i:=1) rfl) oa hb F ((fJ ys i).up) (o9 (F.up i om)) bG) ?_
       rintro _ aN ⟨rfl,aO⟩
       have X:=yq n aO
       have Y:=yc [_,_] _ X
       refine fK X 18 ?_
       refine cl Cp (yT fb nb m ed ys aN (ye Y 0 rfl) oa hb F i o_) ?_
       rintro _ bn ⟨rfl,ht⟩
       have Z:=(ym Y ht)
       have aP:gf (iK ys i):=(gf.rotate F o_).1
       have bo:(iK ys i).length=m:=(Dc F o_).trans o_
       refine fQ Z 2 ?_
       refine tN (?_)
       have aQ:=yg [2,3,0,1] Z
       obtain⟨a2,b2,bk,bB⟩:=hM.zig hn o_ bI hq bF
       exact again (iK ys i,[],a2,b2) ⟨rfl,rfl,trivial⟩ (⟨aQ,bk,bB,aP,by have:=bk.kl.len;omega⟩) (by simp only[zh,zn];omega)
     . skip
       subst hO
       subst hU
       have C:=yg [2,3,0,1] bz
       refine fK bz 2 ?_
       refine cl mX (nj fb nb m ed ys y (C.at (i:=0) rfl) (C.at (i:=1) rfl) oa hb F i o_ hS) ?_
       rintro _ aR ⟨rfl,aS⟩
       have o:=yq C aS
       refine fK o 24 ?_
       refine jk (o' := i*9+0) (i:=(i:Int)) rfl rfl rfl yh jj (o9 (show i<(ys).length from om)) o_ (fK o 10 ?_)
       refine cl mX (nj fb nb m ed ys aR (o.at (i:=0) rfl) (o.at (i:=1) rfl) oa hb F ((fJ ys i).up) (o9 (F.up i om)) bG) ?_
       rintro _ aa ⟨rfl,aT⟩
       have s:=yq o aT
       refine fK s 17 ?_
       by_cases aU:((sd d:Int):Int)=((sd d' : Int):Int)
       . have ab:=yc [_,_] _ s
         refine fK s 7 ?_
         refine cl Cp (yT fb nb m ed ys aa (ye ab 0 rfl) oa hb F ((fJ ys i).up) (o9 (F.up i om))) ?_
         rintro _ aV ⟨rfl,ht⟩
         have ac:=(ym ab ht)
         have D:gf (iK ys ((fJ ys i).up)):=(gf.rotate F (o9 (F.up i om))).1
         have bp:(iK ys ((fJ ys i).up)).length=m:=(Dc F (o9 (F.up i om))).trans o_
         have ad:=yc [_,_] _ ac
         refine fK ac 5 ?_
         refine cl Cp (yT fb nb m ed (iK ys ((fJ ys i).up)) aV (ye ad 0 rfl) oa hb D i o_) ?_
         rintro _ bq ⟨rfl,ht⟩
         have ae:=(ym ad ht)
         have aW:gf (iK (iK ys ((fJ ys i).up)) i):=(gf.rotate D o_).1
         have br:(iK (iK ys ((fJ ys i).up)) i).length=m:=(Dc D o_).trans o_
         refine fQ ae 2 ?_
         refine tN (?_)
         have aX:=yg [2,3,0,1] ae
         have bS:=aek (Int.ofNat.inj aU)
         subst bS
         obtain⟨a2,b2,bk,bB⟩:=hM.agC hn o_ bI hq bF
         exact again (iK (iK ys ((fJ ys i).up)) i,c2,a2,b2) ⟨rfl,rfl,trivial⟩ (⟨aX,bk,bB,aW,by have:=bk.kl.len;omega⟩) (by simp only[zh,zn];omega)
       . have af:=yc [_,_] _ s
         refine fK s 7 ?_
         refine cl Cp (yT fb nb m ed ys aa (ye af 0 rfl) oa hb F i o_) ?_
         rintro _ aY ⟨rfl,ht⟩
         have ag:=(ym af ht)
         have E:gf (iK ys i):=(gf.rotate F o_).1
         have bt:(iK ys i).length=m:=(Dc F o_).trans o_
         have ah:=yc [_,_] _ ag
         refine fK ag 5 ?_
         refine cl Cp (yT fb nb m ed (iK ys i) aY (ye ah 0 rfl) oa hb E i o_) ?_
         rintro _ bu ⟨rfl,ht⟩
         have ai:=(ym ah ht)
         have aZ:gf (iK (iK ys i) i):=(gf.rotate E o_).1
         have bv:(iK (iK ys i) i).length=m:=(Dc E o_).trans o_
         refine fQ ai 2 ?_
         refine tN (?_)
         have a1:=yg [2,3,0,1] ai
         obtain⟨a2,b2,bk,bB⟩:=hM.agB hn o_ bI hq bF
         exact again (iK (iK ys i) i,c2,a2,b2) ⟨rfl,rfl,trivial⟩ (⟨a1,bk,bB,aZ,by have:=bk.kl.len;omega⟩) (by simp only[zh,zn];omega)
 . skip
   have bJ:=NY bH bK hC.2 N
   refine cl mX (nj fb nb m ed xs t (g.at (i:=0) rfl) (g.at (i:=1) rfl) oa hb hI j o_ N) ?_
   rintro _ bw ⟨rfl,a3⟩
   have G:=yq g a3
   refine fK G 22 ?_
   refine jk (o' := j*9+0) (i:=(j:Int)) rfl rfl rfl yh jj om o_ (fQ G 5 ?_)
   refine tN (?_)
   have a4:=yg [2,3,0,1] G
   exact again ((k+1),(fJ xs j).up,f) ⟨rfl,rfl,rfl,gr rO,trivial⟩ (⟨by rw[<-J7 hC.2];exact a4,bJ.2⟩) (by show (c.length+1-(k+1):Nat)<c.length+1-k;omega)
 . skip
   have bJ:=NY bH bK hC.2 P
   refine cl mX (nj fb nb m ed xs t (g.at (i:=0) rfl) (g.at (i:=1) rfl) oa hb hI j o_ P) ?_
   rintro _ bx ⟨rfl,a5⟩
   have H:=yq g a5
   refine fK H 22 ?_
   refine jk (o' := j*9+0) (i:=(j:Int)) rfl rfl rfl yh jj om o_ (fQ H 5 ?_)
   refine tN (?_)
   have a6:=yg [2,3,0,1] H
   exact again ((k+1),(fJ xs j).up,f) ⟨rfl,rfl,rfl,gr rO,trivial⟩ (⟨by rw[<-J7 hC.2];exact a6,bJ.2⟩) (by show (c.length+1-(k+1):Nat)<c.length+1-k;omega)
end
end Go.Proofs.YthpnckhjmbbalaaGreatDoor
