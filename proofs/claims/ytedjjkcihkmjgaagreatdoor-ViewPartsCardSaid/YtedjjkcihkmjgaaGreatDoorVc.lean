/- What the functions that the statements reach do: walks through the code of the program and of the references, one theorem a function; under what is said of its arguments. -/
import Derived.Test.YtedjjkcihkmjgaaGreatDoorFb
import Derived.Test.YtedjjkcihkmjgaaGreatDoorVa
import Derived.Test.YtedjjkcihkmjgaaGreatDoorFc
import Derived.Test.YtedjjkcihkmjgaaGreatDoorVb
import Derived.Ground.Names2Prog
import Derived.Shelf.Slices.Delete
import Derived.Test.YtedjjkcihkmjgaaGreatDoorFa
set_option linter.unusedVariables false
set_option linter.unusedSimpArgs false
set_option maxRecDepth 100000
set_option maxHeartbeats 4000000
namespace Go.Proofs.YtedjjkcihkmjgaaGreatDoor
section
open Go Go.Sx
theorem af6(fO fN ub:Nat)(s:fU)(w:World)(a:Own (fU.R fO fN ub s) w)(x:Lv)(b:s.gJ fO fN x.u x.v=0) :
 CR ya 134 (xB ub x) w (fun r w' => r = .int .i64 0/\fV (fU.R fO fN ub s) w w' (fU.R fO fN ub s)):=by
 have h:=LX fO fN ub s w a x
 rw[b]at h
 exact h
theorem Gh(tb ab:Nat)(t:TW)(w:World)(f:Own (TW.R tb ab t) w)(id:Int)(o:t.mem id\/t.A.used<t.A.n)(m:ia .u64 id) :
 CR ya 210 (Z2 tb id) w (fun r w' => ∃ (z:Nat) (b:Bool) (a:TW),r = .tuple #[.int .i64 (z:Int),.bool b,.int .i64 0]/\TW.zV t a id/\TW.Kp t a/\fV (TW.R tb ab t) w w' (TW.R tb ab a)):=by
 by_cases hm:t.mem id
 . obtain⟨i,hi,e⟩:=hm
   exact CR.mono (afZ tb ab t w f id i hi e) fun r w' ⟨c,d⟩=>⟨i,false,t,c,⟨fun x=>⟨.inl,fun h=>h.elim (fun h=>h) (fun h=>h▸⟨i,hi,e⟩)⟩,rfl,by rw[TW.Ax ⟨i,hi,e⟩];rfl⟩,TW.Kp.refl _,d⟩
 . exact CR.mono (afY tb ab t w f id hm m (o.resolve_left hm)) fun r w' ⟨i,a,c,⟨d,g,j,l⟩,k⟩=>⟨i,true,a,c,⟨d,g,by rw[TW.tK hm];exact j⟩,l,k⟩
theorem Ua(fO fN ub:Nat)(s:fU)(w:World)(hO:Own (fU.R fO fN ub s) w)(x:Lv)(T:x.ok)(hc:s.gJ fO fN x.u x.v=0)(cy:s.last<=9000000000000000000) :
 CR ya 139 #[(Zb ub),(D6 x),(Za x.exp)] w (fun r w' => ∃ (i:Nat) (s2:fU),r = .tuple #[(HI i (s.last+1) x),.int .i64 0]/\((∀ y,s2.has y↔s.has y\/y=⟨(i:Int),s.last+1,x.u,x.v,x.wt,x.t,x.exp⟩)/\s2.last=s.last+1/\TW.Kp s.t s2.t)/\fV (fU.R fO fN ub s) w w' (fU.R fO fN ub s2)):=by
 have cB:s.t.A.used<=s.t.A.n:=hO.fact.tok.ul
 have cr:=hO.fact.n
 have ct:=hO.fact.tn
 have cq:=hO.fact.en
 have cu:=hO.fact.vn
 have cm:s.A.used<=s.A.begun:=by have h7:=hO.fact.lE.used;omega
 have ck:=hO.fact.lE.le
 have cn:s.aw.A.used=s.A.used:=rfl
 have co:s.aw.A.n=s.A.n:=rfl
 have cp:s.aw.A.begun=s.A.begun:=rfl
 have cz:(s.live++[(⟨0,0,0,0,0,0,0⟩:Lv)]).length=s.live.length+1:=by simp
 have bc:=fU.Ib hc
 have cx:=hO.fact.sS
 have cA:=hO.fact.ll
 have F:∀ id,(gh s.im id).2.length<=65536:=fun id=>hO.fact.Jl id
 refine en Tryz.func139 Tryz.ntmps139 ?_
 have ce:=Own.of hO.un
 have hU:s.ok fO fN:=hO.fact
 refine fR ce 2 ?_
 refine iC ce (fun j bd be bf aI=>?_)
 refine iE aI (fun l aJ bg bh aq=>?_)
 have aK:=yg [2,3,4,5,6,7,0,1] aq
 have ar:=yt (p:=s.ok fO fN) (yc [_,_,_,_,_,_] _ aK) hU
 refine fK aq 8 ?_
 refine cl IE (af6 fO fN ub s aJ (ye ar 0 rfl) x hc) ?_
 rintro _ aL ⟨rfl,ht⟩
 have aM:=yj 0 ar ht
 have ad:=(ku aM).unpack
 refine fK ad 18 ?_
 refine cl O6 (Uj s.jj s.aw aL (ye ad 4 rfl) o_) ?_
 rintro _ bi ⟨b,h,rfl,ae,ht⟩
 have au:=yj 4 ad ht
 have cd:=(y8 au (i:=4) rfl:h.A.ok)
 have cv:b<=s.live.length:=by rcases ae.o6 with h9|h9<;>omega
 have cw:b<=65536:=by omega
 refine vh au 30 fun bj aN=>?_
 refine kC mixed [([0,1,2,3,4,5,6,7,8],[4,5])] [9] aN (fun bl av=>jA ?_)
 refine fK av 7 ?_
 refine jc (pvs:=[(0,(Za ((b:Nat):Int))),(1,(Zo (s.last+1))),(2,(D6 x)),(3,(Za x.exp))]) (v:=.agg #[(Za ((b:Nat):Int)),(Zo (s.last+1)),(Zo x.u),(Zo x.v),(Za x.wt),(Za x.t),(Za x.exp)]) rfl rfl (jo [(0,(Zd ((b:Nat):Int))),(1,(Zq (s.last+1))),(2,(Z3 x)),(3,(Zd x.exp))] mU KB rfl ⟨rfl,rfl,rfl,rfl,rfl,rfl,rfl,rfl,trivial⟩ rfl) (iE av (fun q bm bn bo af=>?_))
 refine fP af 1 ?_
 refine uf (lq rfl pG (lq rfl (p9 (tP (cs:=(Z3 x)) rfl Dm rfl vk rfl (me af (i:=8) (o:=0) (vs:=(Z3 x)) rfl rfl)) rfl rfl) (trivial))) (kF ?_)
 refine vh af 5 fun bp H=>?_
 refine ry 3 (iG (fR H 7 ?_))
 refine iM (m:=s.live.length) 2 rfl rfl qD H rfl (fK H 1 ?_)
 by_cases bq:((s.live.length:Int):Int)<=(((b:Nat):Int):Int)
 . refine fK H 13 ?_
   refine jc (pvs:=[]) (v:=.agg Hl) rfl rfl (jo [] mU KB rfl trivial rfl) (jJ (vs:=[(.agg Hl)]) (cs:=nD) rfl rfl qD mU rfl (by simp[Value.cells]) rfl rfl rfl H (fun aO br bs bt ax=>k8 (cf:=Lv.cells) (ys:=s.live) (zs:=[(⟨0,0,0,0,0,0,0⟩:Lv)]) (LL:=fun B=>[row (Zy aO) 43 7 1 (nD),blk q 43 (qO ((b:Nat):Int) (s.last+1) x),blk ub 174 (Ch fO fN (s.last+1) s (some s.mb)),fL Lv.cells B 43 7 (s.live++[(⟨0,0,0,0,0,0,0⟩:Lv)]),ic s.mb .u64 p_ s.im,jE 3 s.im,(AW.R s.jj h),(xD s),blk l 43 nD,blk j 41 (Z3 x)]) 3 rfl rfl rfl qD mU rfl d_ ax rfl (kG ax (i:=0) rfl) (fun x hx=>zk.1 (show List.all _ _=true from rfl) x hx) (by simp only[zp,zb,zg,maxLen];omega) (by simp only[zp,zb,zg,maxLen];omega) f_ ?_))
   intro B bu aP bv
   have P:=yg [1,2,3,4,5,6,7,8,9] aP
   refine fK P 2 ?_
   refine jM 1 P (fun bw K=>?_) (hvs:=(cells_one (yr P (i:=2) rfl))) (h1:=(gX (yr P (i:=2) rfl) j4))
   refine fP K 2 ?_
   refine tN (?_)
   refine iG (fR K 7 ?_)
   refine iM (m:=(s.live++[(⟨0,0,0,0,0,0,0⟩:Lv)]).length) 2 rfl rfl qD K rfl (fK K 1 ?_)
   refine cmp rfl rfl rfl (N9 (by simp only[zp,zb,zg];omega)) (gI K 17 fun bx aQ=>?_)
   refine iz (f:=(fun _=>(⟨((b:Nat):Int),s.last+1,x.u,x.v,x.wt,x.t,x.exp⟩:Lv))) 2 aQ (fun aR C=>?_)
   refine fK C 6 ?_
   refine ld rfl rfl yn rfl (lT C 8 rfl rfl) (fK C 1 ?_)
   refine ld rfl rfl yn rfl (lT C 8 rfl rfl) (jc (pvs:=[(0,(Zo x.u)),(1,(Zo x.v))]) (v:=.agg (vI x.u x.v)) rfl rfl (uJ [(0,(Zq x.u)),(1,(Zq x.v))] uc oq jt rfl ⟨rfl,rfl,rfl,rfl,trivial⟩ rfl s_) (gD C 4 ?_))
   refine ry 3 (iG (fR C 13 ?_))
   refine mL (i:=0) rfl rfl rfl oq yn rfl jt d_ rfl (fK C 10 ?_)
   refine cl Ey (Gh s.tb s.ab s.t aR (ye C 6 rfl) x.u (TW.SX o_) T.u) ?_
   rintro _ bz ⟨bA,bB,L,rfl,Q,cg,ht⟩
   have ag:=yj 6 C ht
   have bk:=(y8 ag (i:=6) rfl:L.ok)
   refine gD ag 2 ?_
   have aS:=yg [4,0,1,2,3,5,6,7,8] ag
   have aT:=zG x.u aS
   refine kC mixed [([0,1,2,3,4,5,6,7,8,9,10,11,12],[3,8,10]),([13],[3])] [14] aT (fun bC S=>jA ?_)
   refine fK S 10 ?_
   refine qZ (a:=x.u) (mm:=s.im) (enc:=p_) (k:=.u64) 5 rfl rfl rfl yx yn j3 rfl S rfl (fK S 1 ?_)
   refine jJ (vs:=(Zd ((b:Nat):Int))) (cs:=(Zd ((b:Nat):Int))) rfl rfl yd gr rfl (by simp[Value.cells]) rfl rfl rfl S (fun aU bD bE bF U=>fP U 1 ?_)
   refine uf (lq rfl pG (lq rfl pG (lq rfl (p9 (yB (a:=x.u) (mm:=s.im) (enc:=p_) (k:=.u64) 6 rfl rfl yx yn j3 rfl U rfl) rfl rfl) (trivial)))) (jA ?_)
   refine vQ (k:=.i64) (ys:=gz (gh s.im x.u).2) (zs:=[((b:Nat):Int)]) (LL:=fun d=>[ig .i64 (Zy aU) 3 ([((b:Nat):Int)]),ig .i64 d 3 ((gz (gh s.im x.u).2)++([((b:Nat):Int)])),jE 3 (je s.im x.u),blk q 43 (qO ((b:Nat):Int) (s.last+1) x),blk ub 174 (Ee fO fN (s.last+1) s B (some s.mb)),fL Lv.cells B 43 7 (fM (s.live++[(⟨0,0,0,0,0,0,0⟩:Lv)]) b (fun _=>(⟨((b:Nat):Int),s.last+1,x.u,x.v,x.wt,x.t,x.exp⟩:Lv))),ic s.mb .u64 p_ s.im,(AW.R s.jj h),(Ac s L),blk l 43 nD,blk j 41 (Z3 x)]) 1 rfl rfl rfl yd gr rfl U rfl (kG U (i:=0) rfl) (by simp only[zp,zb,zg,gz,zq,maxLen];have h7:=F x.u;have h8:=F x.v;first|omega|(rw[tQ bc.1];omega)) (by simp only[zp,zb,zg,gz,zq,maxLen];have h7:=F x.u;have h8:=F x.v;first|omega|(rw[tQ bc.1];omega)) f_ ?_
   intro d bG aV bH
   have ay:=yg [1,2,3,4,5,6,7,8,9,10] aV
   refine fP ay 1 ?_
   refine kn (kF ?_)
   refine ri (a:=x.u) (c:=(d,(gh s.im x.u).2++[b])) (mm:=s.im) (enc:=p_) (k:=.u64) (L' := (Nk d ((gz (gh s.im x.u).2)++([((b:Nat):Int)])) (je s.im x.u) q ((b:Nat):Int) (s.last+1) x ub fO fN s B (some s.mb) (fM (s.live++[(⟨0,0,0,0,0,0,0⟩:Lv)]) b (fun _=>(⟨((b:Nat):Int),s.last+1,x.u,x.v,x.wt,x.t,x.exp⟩:Lv))) (gF s.im x.u (d,(gh s.im x.u).2++[b])) h L l j)) 5 rfl rfl rfl rfl yx yn ay rfl rfl (fun az aA=>fP aA 1 ?_)
   have M:St _ (MO (gF s.im x.u (d,(gh s.im x.u).2++[b])) q ((b:Nat):Int) (s.last+1) x ub fO fN s B (some s.mb) (fM (s.live++[(⟨0,0,0,0,0,0,0⟩:Lv)]) b (fun _=>(⟨((b:Nat):Int),s.last+1,x.u,x.v,x.wt,x.t,x.exp⟩:Lv))) h L l j) az:=zH (by have h9:=aA;rw[<-CM]at h9;exact h9)
   refine r8 tt none M 6 ?_
   refine tN (?_)
   refine iG (fR M 13 ?_)
   refine mL (i:=1) rfl rfl rfl oq yn rfl jt d_ rfl (fK M 10 ?_)
   refine cl Ey (Gh s.tb s.ab L az (ye M 6 rfl) x.v (Q.room o_) T.v) ?_
   rintro _ bI ⟨bJ,bK,I,rfl,ah,ch,ht⟩
   have ai:=yj 6 M ht
   have bk:=(y8 ai (i:=6) rfl:I.ok)
   refine gD ai 2 ?_
   have aW:=zG x.v ai
   refine kC mixed [([0,1,2,3,4,5,6,7,8,9,10,11,12],[3,8,10]),([13],[3])] [14] aW (fun bL V=>jA ?_)
   refine fK V 10 ?_
   refine qZ (a:=x.v) (mm:=(gF s.im x.u (d,(gh s.im x.u).2++[b]))) (enc:=p_) (k:=.u64) 5 rfl rfl rfl yx yn j3 rfl V rfl (fK V 1 ?_)
   refine jJ (vs:=(Zd ((b:Nat):Int))) (cs:=(Zd ((b:Nat):Int))) rfl rfl yd gr rfl (by simp[Value.cells]) rfl rfl rfl V (fun aX bM bN bO W=>fP W 1 ?_)
   refine uf (lq rfl pG (lq rfl pG (lq rfl (p9 (yB (a:=x.v) (mm:=(gF s.im x.u (d,(gh s.im x.u).2++[b]))) (enc:=p_) (k:=.u64) 6 rfl rfl yx yn j3 rfl W rfl) rfl rfl) (trivial)))) (jA ?_)
   refine vQ (k:=.i64) (ys:=gz (gh (gF s.im x.u (d,(gh s.im x.u).2++[b])) x.v).2) (zs:=[((b:Nat):Int)]) (LL:=fun D=>[ig .i64 (Zy aX) 3 ([((b:Nat):Int)]),ig .i64 D 3 ((gz (gh (gF s.im x.u (d,(gh s.im x.u).2++[b])) x.v).2)++([((b:Nat):Int)])),jE 3 (je (gF s.im x.u (d,(gh s.im x.u).2++[b])) x.v),blk q 43 (qO ((b:Nat):Int) (s.last+1) x),blk ub 174 (Ee fO fN (s.last+1) s B (some s.mb)),fL Lv.cells B 43 7 (fM (s.live++[(⟨0,0,0,0,0,0,0⟩:Lv)]) b (fun _=>(⟨((b:Nat):Int),s.last+1,x.u,x.v,x.wt,x.t,x.exp⟩:Lv))),ic s.mb .u64 p_ (gF s.im x.u (d,(gh s.im x.u).2++[b])),(AW.R s.jj h),(Ac s I),blk l 43 nD,blk j 41 (Z3 x)]) 1 rfl rfl rfl yd gr rfl W rfl (kG W (i:=0) rfl) (by simp only[zp,zb,zg,gz,zq,maxLen];have h7:=F x.u;have h8:=F x.v;first|omega|(rw[tQ bc.1];omega)) (by simp only[zp,zb,zg,gz,zq,maxLen];have h7:=F x.u;have h8:=F x.v;first|omega|(rw[tQ bc.1];omega)) f_ ?_
   intro D bP aY bQ
   have aB:=yg [1,2,3,4,5,6,7,8,9,10] aY
   refine fP aB 1 ?_
   refine kn (kF ?_)
   refine ri (a:=x.v) (c:=(D,(gh (gF s.im x.u (d,(gh s.im x.u).2++[b])) x.v).2++[b])) (mm:=(gF s.im x.u (d,(gh s.im x.u).2++[b]))) (enc:=p_) (k:=.u64) (L' := (Nk D ((gz (gh (gF s.im x.u (d,(gh s.im x.u).2++[b])) x.v).2)++([((b:Nat):Int)])) (je (gF s.im x.u (d,(gh s.im x.u).2++[b])) x.v) q ((b:Nat):Int) (s.last+1) x ub fO fN s B (some s.mb) (fM (s.live++[(⟨0,0,0,0,0,0,0⟩:Lv)]) b (fun _=>(⟨((b:Nat):Int),s.last+1,x.u,x.v,x.wt,x.t,x.exp⟩:Lv))) (gF (gF s.im x.u (d,(gh s.im x.u).2++[b])) x.v (D,(gh (gF s.im x.u (d,(gh s.im x.u).2++[b])) x.v).2++[b])) h I l j)) 5 rfl rfl rfl rfl yx yn aB rfl rfl (fun aZ aC=>fP aC 1 ?_)
   have aj:St _ (MO (gF (gF s.im x.u (d,(gh s.im x.u).2++[b])) x.v (D,(gh (gF s.im x.u (d,(gh s.im x.u).2++[b])) x.v).2++[b])) q ((b:Nat):Int) (s.last+1) x ub fO fN s B (some s.mb) (fM (s.live++[(⟨0,0,0,0,0,0,0⟩:Lv)]) b (fun _=>(⟨((b:Nat):Int),s.last+1,x.u,x.v,x.wt,x.t,x.exp⟩:Lv))) h I l j) aZ:=zH (by have h9:=aC;rw[<-CM]at h9;exact h9)
   refine r8 tt none aj 6 ?_
   refine tN (?_)
   refine iG (fR aj 15 ?_)
   refine jM 7 aj (fun bR ak=>?_)
   refine fP ak 4 ?_
   refine oO (v:=(HI ((b:Nat):Int) (s.last+1) x)) (v' := Zc) Tryz.results139 (oc (cs:=(qO ((b:Nat):Int) (s.last+1) x)) rfl xg rfl mU rfl (me ak (i:=7) (o:=0) (vs:=(qO ((b:Nat):Int) (s.last+1) x)) rfl rfl)) (pH rfl) ?_
   have a0:=yg [2,3,4,0,5,6,1,7,8] ak
   have cc:=hU.ins (e:=(⟨(b:Int),s.last+1,x.u,x.v,x.wt,x.t,x.exp⟩:Lv)) ae cd bk rfl rfl ⟨kR (by show _/\_;dsimp only;omega),o8 (by show _/\_;dsimp only;omega),T.u,T.v,T.wt,T.t,T.exp⟩ bc.1 (fun z=>by rw[ah.mem,Q.mem]) (by rw[ah.n,Q.n]) (lv2:=B) (ls:=fM (s.live++[(⟨0,0,0,0,0,0,0⟩:Lv)]) b (fun _=>(⟨((b:Nat):Int),s.last+1,x.u,x.v,x.wt,x.t,x.exp⟩:Lv))) (by unfold yJ;rw[if_pos o_]<;>rfl) (im2:=(gF (gF s.im x.u (d,(gh s.im x.u).2++[b])) x.v (D,(gh (gF s.im x.u (d,(gh s.im x.u).2++[b])) x.v).2++[b]))) (by rw[tQ bc.1];rfl)
   exact⟨b,(⟨s.jj,s.tb,s.ab,s.mb,B,s.last+1,h,I,fM (s.live++[(⟨0,0,0,0,0,0,0⟩:Lv)]) b (fun _=>(⟨((b:Nat):Int),s.last+1,x.u,x.v,x.wt,x.t,x.exp⟩:Lv)),(gF (gF s.im x.u (d,(gh s.im x.u).2++[b])) x.v (D,(gh (gF s.im x.u (d,(gh s.im x.u).2++[b])) x.v).2++[b]))⟩:fU),rfl,⟨cc.2,rfl,Q.yA ah cg ch⟩,ym (yt (p:=fU.ok fO fN (⟨s.jj,s.tb,s.ab,s.mb,B,s.last+1,h,I,fM (s.live++[(⟨0,0,0,0,0,0,0⟩:Lv)]) b (fun _=>(⟨((b:Nat):Int),s.last+1,x.u,x.v,x.wt,x.t,x.exp⟩:Lv)),(gF (gF s.im x.u (d,(gh s.im x.u).2++[b])) x.v (D,(gh (gF s.im x.u (d,(gh s.im x.u).2++[b])) x.v).2++[b]))⟩:fU)) (yc [_,_,_,_,_,_] _ a0) cc.1) za⟩
 . refine gI H 18 fun bS a1=>?_
   refine iz (f:=(fun _=>(⟨((b:Nat):Int),s.last+1,x.u,x.v,x.wt,x.t,x.exp⟩:Lv))) 2 a1 (fun a2 E=>?_)
   refine fK E 6 ?_
   refine ld rfl rfl yn rfl (lT E 8 rfl rfl) (fK E 1 ?_)
   refine ld rfl rfl yn rfl (lT E 8 rfl rfl) (jc (pvs:=[(0,(Zo x.u)),(1,(Zo x.v))]) (v:=.agg (vI x.u x.v)) rfl rfl (uJ [(0,(Zq x.u)),(1,(Zq x.v))] uc oq jt rfl ⟨rfl,rfl,rfl,rfl,trivial⟩ rfl s_) (gD E 4 ?_))
   refine ry 3 (iG (fR E 13 ?_))
   refine mL (i:=0) rfl rfl rfl oq yn rfl jt d_ rfl (fK E 10 ?_)
   refine cl Ey (Gh s.tb s.ab s.t a2 (ye E 6 rfl) x.u (TW.SX o_) T.u) ?_
   rintro _ bT ⟨bU,bV,N,rfl,X,ci,ht⟩
   have al:=yj 6 E ht
   have bk:=(y8 al (i:=6) rfl:N.ok)
   refine gD al 2 ?_
   have a3:=yg [4,0,1,2,3,5,6,7,8] al
   have a4:=zG x.u a3
   refine kC mixed [([0,1,2,3,4,5,6,7,8,9,10,11,12],[3,8,10]),([13],[3])] [14] a4 (fun bW Y=>jA ?_)
   refine fK Y 10 ?_
   refine qZ (a:=x.u) (mm:=s.im) (enc:=p_) (k:=.u64) 5 rfl rfl rfl yx yn j3 rfl Y rfl (fK Y 1 ?_)
   refine jJ (vs:=(Zd ((b:Nat):Int))) (cs:=(Zd ((b:Nat):Int))) rfl rfl yd gr rfl (by simp[Value.cells]) rfl rfl rfl Y (fun a5 bX bY bZ Z=>fP Z 1 ?_)
   refine uf (lq rfl pG (lq rfl pG (lq rfl (p9 (yB (a:=x.u) (mm:=s.im) (enc:=p_) (k:=.u64) 6 rfl rfl yx yn j3 rfl Z rfl) rfl rfl) (trivial)))) (jA ?_)
   refine vQ (k:=.i64) (ys:=gz (gh s.im x.u).2) (zs:=[((b:Nat):Int)]) (LL:=fun g=>[ig .i64 (Zy a5) 3 ([((b:Nat):Int)]),ig .i64 g 3 ((gz (gh s.im x.u).2)++([((b:Nat):Int)])),jE 3 (je s.im x.u),blk q 43 (qO ((b:Nat):Int) (s.last+1) x),blk ub 174 (Ch fO fN (s.last+1) s (some s.mb)),fL Lv.cells s.lv 43 7 (fM s.live b (fun _=>(⟨((b:Nat):Int),s.last+1,x.u,x.v,x.wt,x.t,x.exp⟩:Lv))),ic s.mb .u64 p_ s.im,(AW.R s.jj h),(Ac s N),blk l 43 nD,blk j 41 (Z3 x)]) 1 rfl rfl rfl yd gr rfl Z rfl (kG Z (i:=0) rfl) (by simp only[zp,zb,zg,gz,zq,maxLen];have h7:=F x.u;have h8:=F x.v;first|omega|(rw[tQ bc.1];omega)) (by simp only[zp,zb,zg,gz,zq,maxLen];have h7:=F x.u;have h8:=F x.v;first|omega|(rw[tQ bc.1];omega)) f_ ?_
   intro g b0 a6 b1
   have aD:=yg [1,2,3,4,5,6,7,8,9,10] a6
   refine fP aD 1 ?_
   refine kn (kF ?_)
   refine ri (a:=x.u) (c:=(g,(gh s.im x.u).2++[b])) (mm:=s.im) (enc:=p_) (k:=.u64) (L' := (Nj g ((gz (gh s.im x.u).2)++([((b:Nat):Int)])) (je s.im x.u) q ((b:Nat):Int) (s.last+1) x ub fO fN s (some s.mb) (fM s.live b (fun _=>(⟨((b:Nat):Int),s.last+1,x.u,x.v,x.wt,x.t,x.exp⟩:Lv))) (gF s.im x.u (g,(gh s.im x.u).2++[b])) h N l j)) 5 rfl rfl rfl rfl yx yn aD rfl rfl (fun aE aF=>fP aF 1 ?_)
   have O:St _ (MN (gF s.im x.u (g,(gh s.im x.u).2++[b])) q ((b:Nat):Int) (s.last+1) x ub fO fN s (some s.mb) (fM s.live b (fun _=>(⟨((b:Nat):Int),s.last+1,x.u,x.v,x.wt,x.t,x.exp⟩:Lv))) h N l j) aE:=zH (by have h9:=aF;rw[<-CM]at h9;exact h9)
   refine r8 tt none O 6 ?_
   refine tN (?_)
   refine iG (fR O 13 ?_)
   refine mL (i:=1) rfl rfl rfl oq yn rfl jt d_ rfl (fK O 10 ?_)
   refine cl Ey (Gh s.tb s.ab N aE (ye O 6 rfl) x.v (X.room o_) T.v) ?_
   rintro _ b2 ⟨b3,b4,J,rfl,am,cj,ht⟩
   have an:=yj 6 O ht
   have bk:=(y8 an (i:=6) rfl:J.ok)
   refine gD an 2 ?_
   have a7:=zG x.v an
   refine kC mixed [([0,1,2,3,4,5,6,7,8,9,10,11,12],[3,8,10]),([13],[3])] [14] a7 (fun b5 aa=>jA ?_)
   refine fK aa 10 ?_
   refine qZ (a:=x.v) (mm:=(gF s.im x.u (g,(gh s.im x.u).2++[b]))) (enc:=p_) (k:=.u64) 5 rfl rfl rfl yx yn j3 rfl aa rfl (fK aa 1 ?_)
   refine jJ (vs:=(Zd ((b:Nat):Int))) (cs:=(Zd ((b:Nat):Int))) rfl rfl yd gr rfl (by simp[Value.cells]) rfl rfl rfl aa (fun a8 b6 b7 b8 ac=>fP ac 1 ?_)
   refine uf (lq rfl pG (lq rfl pG (lq rfl (p9 (yB (a:=x.v) (mm:=(gF s.im x.u (g,(gh s.im x.u).2++[b]))) (enc:=p_) (k:=.u64) 6 rfl rfl yx yn j3 rfl ac rfl) rfl rfl) (trivial)))) (jA ?_)
   refine vQ (k:=.i64) (ys:=gz (gh (gF s.im x.u (g,(gh s.im x.u).2++[b])) x.v).2) (zs:=[((b:Nat):Int)]) (LL:=fun G=>[ig .i64 (Zy a8) 3 ([((b:Nat):Int)]),ig .i64 G 3 ((gz (gh (gF s.im x.u (g,(gh s.im x.u).2++[b])) x.v).2)++([((b:Nat):Int)])),jE 3 (je (gF s.im x.u (g,(gh s.im x.u).2++[b])) x.v),blk q 43 (qO ((b:Nat):Int) (s.last+1) x),blk ub 174 (Ch fO fN (s.last+1) s (some s.mb)),fL Lv.cells s.lv 43 7 (fM s.live b (fun _=>(⟨((b:Nat):Int),s.last+1,x.u,x.v,x.wt,x.t,x.exp⟩:Lv))),ic s.mb .u64 p_ (gF s.im x.u (g,(gh s.im x.u).2++[b])),(AW.R s.jj h),(Ac s J),blk l 43 nD,blk j 41 (Z3 x)]) 1 rfl rfl rfl yd gr rfl ac rfl (kG ac (i:=0) rfl) (by simp only[zp,zb,zg,gz,zq,maxLen];have h7:=F x.u;have h8:=F x.v;first|omega|(rw[tQ bc.1];omega)) (by simp only[zp,zb,zg,gz,zq,maxLen];have h7:=F x.u;have h8:=F x.v;first|omega|(rw[tQ bc.1];omega)) f_ ?_
   intro G b9 a9 ca
   have aG:=yg [1,2,3,4,5,6,7,8,9,10] a9
   refine fP aG 1 ?_
   refine kn (kF ?_)
   refine ri (a:=x.v) (c:=(G,(gh (gF s.im x.u (g,(gh s.im x.u).2++[b])) x.v).2++[b])) (mm:=(gF s.im x.u (g,(gh s.im x.u).2++[b]))) (enc:=p_) (k:=.u64) (L' := (Nj G ((gz (gh (gF s.im x.u (g,(gh s.im x.u).2++[b])) x.v).2)++([((b:Nat):Int)])) (je (gF s.im x.u (g,(gh s.im x.u).2++[b])) x.v) q ((b:Nat):Int) (s.last+1) x ub fO fN s (some s.mb) (fM s.live b (fun _=>(⟨((b:Nat):Int),s.last+1,x.u,x.v,x.wt,x.t,x.exp⟩:Lv))) (gF (gF s.im x.u (g,(gh s.im x.u).2++[b])) x.v (G,(gh (gF s.im x.u (g,(gh s.im x.u).2++[b])) x.v).2++[b])) h J l j)) 5 rfl rfl rfl rfl yx yn aG rfl rfl (fun ba aH=>fP aH 1 ?_)
   have ao:St _ (MN (gF (gF s.im x.u (g,(gh s.im x.u).2++[b])) x.v (G,(gh (gF s.im x.u (g,(gh s.im x.u).2++[b])) x.v).2++[b])) q ((b:Nat):Int) (s.last+1) x ub fO fN s (some s.mb) (fM s.live b (fun _=>(⟨((b:Nat):Int),s.last+1,x.u,x.v,x.wt,x.t,x.exp⟩:Lv))) h J l j) ba:=zH (by have h9:=aH;rw[<-CM]at h9;exact h9)
   refine r8 tt none ao 6 ?_
   refine tN (?_)
   refine iG (fR ao 15 ?_)
   refine jM 7 ao (fun cb ap=>?_)
   refine fP ap 4 ?_
   refine oO (v:=(HI ((b:Nat):Int) (s.last+1) x)) (v' := Zc) Tryz.results139 (oc (cs:=(qO ((b:Nat):Int) (s.last+1) x)) rfl xg rfl mU rfl (me ap (i:=7) (o:=0) (vs:=(qO ((b:Nat):Int) (s.last+1) x)) rfl rfl)) (pH rfl) ?_
   have bb:=yg [2,3,4,0,5,6,1,7,8] ap
   have cc:=hU.ins (e:=(⟨(b:Int),s.last+1,x.u,x.v,x.wt,x.t,x.exp⟩:Lv)) ae cd bk rfl rfl ⟨kR (by show _/\_;dsimp only;omega),o8 (by show _/\_;dsimp only;omega),T.u,T.v,T.wt,T.t,T.exp⟩ bc.1 (fun z=>by rw[am.mem,X.mem]) (by rw[am.n,X.n]) (lv2:=s.lv) (ls:=fM s.live b (fun _=>(⟨((b:Nat):Int),s.last+1,x.u,x.v,x.wt,x.t,x.exp⟩:Lv))) (by unfold yJ;rw[if_neg o_]<;>rfl) (im2:=(gF (gF s.im x.u (g,(gh s.im x.u).2++[b])) x.v (G,(gh (gF s.im x.u (g,(gh s.im x.u).2++[b])) x.v).2++[b]))) (by rw[tQ bc.1];rfl)
   exact⟨b,(⟨s.jj,s.tb,s.ab,s.mb,s.lv,s.last+1,h,J,fM s.live b (fun _=>(⟨((b:Nat):Int),s.last+1,x.u,x.v,x.wt,x.t,x.exp⟩:Lv)),(gF (gF s.im x.u (g,(gh s.im x.u).2++[b])) x.v (G,(gh (gF s.im x.u (g,(gh s.im x.u).2++[b])) x.v).2++[b]))⟩:fU),rfl,⟨cc.2,rfl,X.yA am ci cj⟩,ym (yt (p:=fU.ok fO fN (⟨s.jj,s.tb,s.ab,s.mb,s.lv,s.last+1,h,J,fM s.live b (fun _=>(⟨((b:Nat):Int),s.last+1,x.u,x.v,x.wt,x.t,x.exp⟩:Lv)),(gF (gF s.im x.u (g,(gh s.im x.u).2++[b])) x.v (G,(gh (gF s.im x.u (g,(gh s.im x.u).2++[b])) x.v).2++[b]))⟩:fU)) (yc [_,_,_,_,_,_] _ bb) cc.1) za⟩
end
section
open Go Go.Sx
end
end Go.Proofs.YtedjjkcihkmjgaaGreatDoor
namespace Go.Proofs
open Go.Shelf Go.Lib Go.Sort Go.RowKit in
def Tryz.aaT:Go.Shelf.Ren:=⟨fun|23=>130|n=>n,fun|22=>37|3=>3|4=>4|0=>0|n=>n,fun|n=>n⟩
open Go.Shelf Go.Lib Go.Sort Go.RowKit in
theorem Tryz.aaS:Go.Proofs.Lays2.n23 Proofs.Tryz.prog Tryz.aaT where
 mixed:=by kernel_rfl
 f23:=Proofs.Tryz.func130.trans (congrArg some<|by kernel_rfl)
 t0:=Proofs.Tryz.underlying0
 a0:=Proofs.Tryz.isAgg0
 z0:=Proofs.Tryz.sizeOf0
 v0:=Proofs.Tryz.zeroValue0
 t3:=Proofs.Tryz.underlying3
 a3:=Proofs.Tryz.isAgg3
 z3:=Proofs.Tryz.sizeOf3
 v3:=Proofs.Tryz.zeroValue3
 t4:=Proofs.Tryz.underlying4
 a4:=Proofs.Tryz.isAgg4
 z4:=Proofs.Tryz.sizeOf4
 v4:=Proofs.Tryz.zeroValue4
 t22:=Proofs.Tryz.underlying37
 a22:=Proofs.Tryz.isAgg37
 z22:=Proofs.Tryz.sizeOf37
 v22:=Proofs.Tryz.zeroValue37
 i3:=by kernel_rfl
end Go.Proofs
namespace Go.Proofs.YtedjjkcihkmjgaaGreatDoor
section
open Go Go.Sx
theorem Ip(v:Value)(xs:List Int)(w:World)(i:Nat)(f:Own (ig .i64 v 3 xs) w)(hi:i<xs.length) :
 CR ya 130 #[v,.int .i64 (i:Int),.int .i64 ((i+1:Nat):Int)] w (fun r w' => fV (ig .i64 v 3 xs) w w' (ig .i64 r 3 (xs.eraseIdx i))) :=
 Wr f hi fun b a c d e=>Any.slices_Delete_int Tryz.aaS b 0 a i (i+1) xs w c d e o_ o_
theorem Jm(v:Value)(xs:List Int)(x:Int)(k:Nat)(w:World)(hv:Ints .i64 (fun _=>True) w v xs)(A:xs.length<=1000000)(hk:xs[k]? = some x)(t:∀ (j:Nat) (y:Int),j<k->xs[j]? = some y->y≠x) :
 CR ya 129 #[v,(Za x)] w (fun r w' => r = .int .i64 (k:Int)/\gw [] w w'):=by
 have z:=(zh.1 hk).1
 refine en Tryz.func129 Tryz.ntmps129 ?_
 have o:=yu w
 refine fR o 9 ?_
 refine j8 (v:=v) rfl rfl yd hv (gD o 4 ?_)
 refine lp (α:=Nat) (fun q=>[(0,v),(1,(Za x)),(7,(Za xs.length)),(8,(Za q))]) (fun q w1=>St [(w,[])] [] w1/\q<=k) (fun q=>k-q) 0 ⟨rfl,rfl,rfl,gj rO,trivial⟩ (⟨o,o_⟩) ?_
 rintro q d e ⟨m,B⟩
 obtain⟨y,n⟩:=nW (show q<xs.length by omega)
 refine fR m 2 ?_
 refine cmp rfl rfl rfl (pZ o_) (fK m 19 ?_)
 refine CC (i:=(q:Int)) (el:=y) rfl rfl rfl yd gr (St.EV m s_ hv) o_ (by rw[show ((q:Nat):Int).toNat=q by omega];exact n) ?_
 intro f g b c h
 have l:=c.i64
 refine ld rfl rfl yf rfl b ?_
 by_cases a:(x:Int)=(y:Int)
 . have u:q=k:=(BN q k).elim (fun p=>absurd (show y=x from by have s:=a;omega) (t q y p n)) (fun p=>by omega)
   refine fP m 16 ?_
   refine gq (v:=(Za q)) Tryz.results129 rfl ?_
   obtain rfl:q=k:=by omega
   exact⟨rfl,m.gA s_⟩
 . have u:q≠k:=by rintro rfl;rw[hk]at n;cases n;exact(by have s:=a;omega:False)
   refine fP m 11 ?_
   refine tN (?_)
   exact again (q+1) ⟨rfl,rfl,rfl,gj rO,trivial⟩ (⟨m,o_⟩) (by show (k-(q+1):Nat)<k-q;omega)
theorem Ud(fO fN ub:Nat)(s:fU)(w:World)(hO:Own (fU.R fO fN ub s) w)(i:Nat)(hi:s.A.gZ i) :
 CR ya 75 (Zm ub i) w (fun r w' => ∃ (s2:fU),r = .tuple #[(Ak (fJ s.live i)),.int .i64 0]/\((∀ y,s2.has y↔s.has y/\y.slot≠(i:Int))/\s2.last=s.last/\TW.Kp s.t s2.t)/\fV (fU.R fO fN ub s) w w' (fU.R fO fN ub s2)):=by
 have cb:s.t.A.used<=s.t.A.n:=hO.fact.tok.ul
 have b6:=hO.fact.n
 have b7:=hO.fact.tn
 have b5:=hO.fact.en
 have b8:=hO.fact.vn
 have b4:s.A.used<=s.A.begun:=by have T:=hO.fact.lE.used;omega
 have b3:=hO.fact.lE.le
 have ca:=hO.fact.ll
 have b9:=hi.1
 have bY:=hO.fact.ne i hi
 refine en Tryz.func75 Tryz.ntmps75 ?_
 have b2:=Own.of hO.un
 have F:s.ok fO fN:=hO.fact
 refine fR b2 2 ?_
 refine iE b2 (fun C aT bE bF an=>?_)
 have aU:=yg [1,2,3,4,5,6,0] an
 have ao:=yt (p:=s.ok fO fN) (yc [_,_,_,_,_,_] _ aU) F
 refine fK an 7 ?_
 refine cl AG (Bu fO fN ub s aT (ye ao 0 rfl)) ?_
 rintro _ aV ⟨rfl,ht⟩
 have aW:=yj 0 ao ht
 have Y:=(ku aW).unpack
 refine fK Y 14 ?_
 refine cl OP (Um s.jj s.aw aV (ye Y 4 rfl) i hi) ?_
 rintro _ bG ⟨g,rfl,S,ht⟩
 have Z:=yj 4 Y ht
 have bX:=(y8 Z (i:=4) rfl:g.A.ok)
 refine fK Z 21 ?_
 refine iE Z (fun D bH bI bJ aX=>?_)
 refine gI aX 10 fun bK ap=>?_
 refine jc (pvs:=[]) (v:=.agg Hl) rfl rfl (jo [] mU KB rfl trivial rfl) (fK ap 1 ?_)
 refine iz (f:=(fun _=>(⟨0,0,0,0,0,0,0⟩:Lv))) 2 ap (fun aY K=>?_)
 refine fK K 11 ?_
 refine jc (pvs:=[(0,(Zo ((fJ s.live i).u))),(1,(Zo ((fJ s.live i).v)))]) (v:=.agg (vI ((fJ s.live i).u) ((fJ s.live i).v))) rfl rfl (uJ [(0,(Zq ((fJ s.live i).u))),(1,(Zq ((fJ s.live i).v)))] uc oq jt rfl ⟨rfl,rfl,rfl,rfl,trivial⟩ rfl s_) (gD K 4 ?_)
 refine ry 3 (iG (fR K 13 ?_))
 refine mL (i:=0) rfl rfl rfl oq yn rfl jt d_ rfl ?_
 have aZ:=yg [4,0,1,2,3,5,6,7] K
 have L:=zG ((fJ s.live i).u) aZ
 refine fK K 10 ?_
 refine qZ (a:=(fJ s.live i).u) (mm:=s.im) (enc:=p_) (k:=.u64) 5 rfl rfl rfl yx yn j3 rfl L rfl (rS (v:=((pW s i).1)) rfl rfl (fK L 5 ?_))
 refine mv (v:=((pW s i).1)) rfl rfl ?_
 have a0:=((F.inc (fJ s.live i).u i).2 ⟨hi,.inl rfl⟩)
 obtain⟨b,aq,au,a1⟩:=Ji a0 (F.nd _)
 have a2:b<(gz (pW s i).2).length:=(zh.1 au).1
 have av:(gz (pW s i).2).length<=1000000:=by rw[gz,zq];exact kz (F.Jl _) d_
 refine fK L 1 ?_
 refine cl IA (Jm ((pW s i).1) (gz (pW s i).2) (i:Int) b aY (xm L (i:=0) rfl (J9 (by rw[gz,zq]at av;exact fun j hj=>Jk F (fun _ h=>h) hj))).any av au a1) ?_
 rintro _ a3 ⟨rfl,a4⟩
 have M:=yp L a4
 refine fK M 6 ?_
 refine cmp rfl rfl rfl (nG o_) (fK M 4 ?_)
 refine mv (v:=((pW s i).1)) rfl rfl (fK M 2 ?_)
 refine ar (e:=((b+1:Nat):Int)) rfl rfl rfl rfl iW (cl IB (Ip ((pW s i).1) (gz (pW s i).2) a3 b (ye M 0 rfl) a2) ?_)
 rintro d bL ht
 have bZ:=yj 0 M ht
 rw[J8]at bZ
 have E:=bZ
 refine fK E 7 ?_
 refine iM (m:=(gz ((pW s i).2.eraseIdx b)).length) 0 rfl rfl yd E rfl ?_
 by_cases ax:((((gz ((pW s i).2.eraseIdx b)).length:Nat):Int):Int)>(0:Int)
 . have a5:(pW s i).2.eraseIdx b≠[]:=by intro e9;have T:=@ax;rw[e9]at T;simp[gz]at T
   refine fK E 12 ?_
   refine ri (a:=(fJ s.live i).u) (c:=(d,(pW s i).2.eraseIdx b)) (mm:=s.im) (enc:=p_) (k:=.u64) (L' := (Nl d (gz ((gh s.im ((fJ s.live i).u)).2.eraseIdx b)) (je s.im ((fJ s.live i).u)) D (fJ s.live i) ub fO fN s (some s.mb) (fM s.live i (fun _=>(⟨0,0,0,0,0,0,0⟩:Lv))) (gF s.im ((fJ s.live i).u) (d,(gh s.im ((fJ s.live i).u)).2.eraseIdx b)) g C)) 5 rfl rfl rfl rfl yx yn E rfl rfl ?_
   intro a6 ay
   have aa:=zH ay
   have x:mE s.im s.t (uI s i d b) s.t (fJ s.live i).u i:=mE.keep (F.nd _) aq a5
   refine fP ay 10 ?_
   refine tN (?_)
   refine iG (fR aa 13 ?_)
   refine mL (i:=1) rfl rfl rfl oq yn rfl jt d_ rfl ?_
   have N:=zG ((fJ s.live i).v) aa
   refine fK aa 10 ?_
   refine qZ (a:=(fJ s.live i).v) (mm:=(uI s i d b)) (enc:=p_) (k:=.u64) 5 rfl rfl rfl yx yn j3 rfl N rfl (rS (v:=((pV s i d b).1)) rfl rfl (fK N 5 ?_))
   refine mv (v:=((pV s i d b).1)) rfl rfl ?_
   have a7:=((x.get (fJ s.live i).v i).2 ⟨(F.inc (fJ s.live i).v i).2 ⟨hi,.inr rfl⟩,fun e=>absurd e.symm bY⟩)
   obtain⟨l,az,aA,a8⟩:=Ji a7 (x.nd F.nd _)
   have a9:l<(gz (pV s i d b).2).length:=(zh.1 aA).1
   have aB:(gz (pV s i d b).2).length<=1000000:=by rw[gz,zq];exact kz (inc_le F x _) d_
   refine fK N 1 ?_
   refine cl IA (Jm ((pV s i d b).1) (gz (pV s i d b).2) (i:Int) l a6 (xm N (i:=0) rfl (J9 (by rw[gz,zq]at aB;exact fun j hj=>Jk F (fun _ h=>((x.get _ _).1 h).1) hj))).any aB aA a8) ?_
   rintro _ ba ⟨rfl,bb⟩
   have O:=yp N bb
   refine fK O 6 ?_
   refine cmp rfl rfl rfl (nG o_) (fK O 4 ?_)
   refine mv (v:=((pV s i d b).1)) rfl rfl (fK O 2 ?_)
   refine ar (e:=((l+1:Nat):Int)) rfl rfl rfl rfl iW (cl IB (Ip ((pV s i d b).1) (gz (pV s i d b).2) ba l (ye O 0 rfl) a9) ?_)
   rintro G bM ht
   have b0:=yj 0 O ht
   rw[J8]at b0
   have H:=b0
   refine fK H 7 ?_
   refine iM (m:=(gz ((pV s i d b).2.eraseIdx l)).length) 0 rfl rfl yd H rfl ?_
   by_cases aC:((((gz ((pV s i d b).2.eraseIdx l)).length:Nat):Int):Int)>(0:Int)
   . have bc:(pV s i d b).2.eraseIdx l≠[]:=by intro e9;have T:=@aC;rw[e9]at T;simp[gz]at T
     refine fK H 12 ?_
     refine ri (a:=(fJ s.live i).v) (c:=(G,(pV s i d b).2.eraseIdx l)) (mm:=(uI s i d b)) (enc:=p_) (k:=.u64) (L' := (Nl G (gz ((gh (gF s.im ((fJ s.live i).u) (d,(gh s.im ((fJ s.live i).u)).2.eraseIdx b)) ((fJ s.live i).v)).2.eraseIdx l)) (je (gF s.im ((fJ s.live i).u) (d,(gh s.im ((fJ s.live i).u)).2.eraseIdx b)) ((fJ s.live i).v)) D (fJ s.live i) ub fO fN s (some s.mb) (fM s.live i (fun _=>(⟨0,0,0,0,0,0,0⟩:Lv))) (gF (gF s.im ((fJ s.live i).u) (d,(gh s.im ((fJ s.live i).u)).2.eraseIdx b)) ((fJ s.live i).v) (G,(gh (gF s.im ((fJ s.live i).u) (d,(gh s.im ((fJ s.live i).u)).2.eraseIdx b)) ((fJ s.live i).v)).2.eraseIdx l)) g C)) 5 rfl rfl rfl rfl yx yn H rfl rfl ?_
     intro bN aD
     have aE:=zH aD
     have aF:mE (uI s i d b) s.t (HG s i d b G l) s.t (fJ s.live i).v i:=mE.keep (x.nd F.nd _) az bc
     refine fP aD 10 ?_
     refine tN (?_)
     refine iG (fR aE 15 ?_)
     refine jM 7 aE (fun bO ac=>?_)
     refine fP ac 4 ?_
     refine oO (v:=(Ak (fJ s.live i))) (v' := Zc) GI (oc (cs:=(Z6 (fJ s.live i))) rfl xg rfl mU rfl (me ac (i:=7) (o:=0) (vs:=(Z6 (fJ s.live i))) rfl rfl)) (pH rfl) ?_
     have aG:=yg [2,3,4,0,5,6,1,7] ac
     have bW:=(y8 aG (i:=5) rfl:s.t.ok)
     have bk:=F.rem hi S bX bW x aF (lv2:=s.lv) (ls:=fM s.live i (fun _=>(⟨0,0,0,0,0,0,0⟩:Lv))) rfl
     exact⟨(⟨s.jj,s.tb,s.ab,s.mb,s.lv,s.last,g,s.t,fM s.live i (fun _=>(⟨0,0,0,0,0,0,0⟩:Lv)),(HG s i d b G l)⟩:fU),rfl,⟨bk.2,rfl,aF.yA (TW.Kp.refl _) (TW.Kp.refl _)⟩,ym (yt (p:=fU.ok fO fN (⟨s.jj,s.tb,s.ab,s.mb,s.lv,s.last,g,s.t,fM s.live i (fun _=>(⟨0,0,0,0,0,0,0⟩:Lv)),(HG s i d b G l)⟩:fU)) (yc [_,_,_,_,_,_] _ aG) bk.1) za⟩
   . have bd:(pV s i d b).2.eraseIdx l=[]:=by have T:=@aC;simp only[gz,zq]at T;exact xo o_
     have be:=yg [1,2,3,4,5,6,7,8] H
     refine fK H 13 ?_
     refine Cs (a:=(fJ s.live i).v) (mm:=(uI s i d b)) (enc:=p_) (k:=.u64) (L' := (Ng (je (gF s.im ((fJ s.live i).u) (d,(gh s.im ((fJ s.live i).u)).2.eraseIdx b)) ((fJ s.live i).v)) D (fJ s.live i) ub fO fN s (some s.mb) (fM s.live i (fun _=>(⟨0,0,0,0,0,0,0⟩:Lv))) g C)) 4 rfl rfl rfl yx yn be rfl rfl ?_
     intro bf ad
     obtain⟨bg,bh,bi⟩:=((x.mem (fJ s.live i).v).2 ⟨(F.mem (fJ s.live i).v).2 ⟨i,hi,.inr rfl⟩,fun e=>absurd e.symm bY⟩)
     refine fK ad 8 ?_
     refine cl IC (Lw s.tb s.ab s.t bf (ye ad 6 rfl) (fJ s.live i).v bg bh bi) ?_
     rintro _ bP ⟨U,rfl,ae,ht⟩
     have af:=yj 6 ad ht
     have aH:mE (uI s i d b) s.t (Hi s i d b) U (fJ s.live i).v i:=mE.drop (x.keys F.keys) (x.nd F.nd _) az bd ae.1 ae.2.1
     refine fP af 7 ?_
     refine tN (?_)
     refine iG (fR af 15 ?_)
     refine jM 7 af (fun bQ ag=>?_)
     refine fP ag 4 ?_
     refine oO (v:=(Ak (fJ s.live i))) (v' := Zc) GI (oc (cs:=(Z6 (fJ s.live i))) rfl xg rfl mU rfl (me ag (i:=7) (o:=0) (vs:=(Z6 (fJ s.live i))) rfl rfl)) (pH rfl) ?_
     have aI:=yg [2,3,4,0,5,6,1,7] ag
     have bW:=(y8 aI (i:=5) rfl:U.ok)
     have bk:=F.rem hi S bX bW x aH (lv2:=s.lv) (ls:=fM s.live i (fun _=>(⟨0,0,0,0,0,0,0⟩:Lv))) rfl
     exact⟨(⟨s.jj,s.tb,s.ab,s.mb,s.lv,s.last,g,U,fM s.live i (fun _=>(⟨0,0,0,0,0,0,0⟩:Lv)),(Hi s i d b)⟩:fU),rfl,⟨bk.2,rfl,aH.yA (TW.Kp.refl _) ae.2.2.2.2⟩,ym (yt (p:=fU.ok fO fN (⟨s.jj,s.tb,s.ab,s.mb,s.lv,s.last,g,U,fM s.live i (fun _=>(⟨0,0,0,0,0,0,0⟩:Lv)),(Hi s i d b)⟩:fU)) (yc [_,_,_,_,_,_] _ aI) bk.1) za⟩
 . have bj:(pW s i).2.eraseIdx b=[]:=by have T:=@ax;simp only[gz,zq]at T;exact xo o_
   have bl:=yg [1,2,3,4,5,6,7,8] E
   refine fK E 13 ?_
   refine Cs (a:=(fJ s.live i).u) (mm:=s.im) (enc:=p_) (k:=.u64) (L' := (Ng (je s.im ((fJ s.live i).u)) D (fJ s.live i) ub fO fN s (some s.mb) (fM s.live i (fun _=>(⟨0,0,0,0,0,0,0⟩:Lv))) g C)) 4 rfl rfl rfl yx yn bl rfl rfl ?_
   intro bm ah
   obtain⟨bn,bo,bp⟩:=((F.mem (fJ s.live i).u).2 ⟨i,hi,.inl rfl⟩)
   refine fK ah 8 ?_
   refine cl IC (Lw s.tb s.ab s.t bm (ye ah 6 rfl) (fJ s.live i).u bn bo bp) ?_
   rintro _ bq ⟨z,rfl,V,ht⟩
   have W:=yj 6 ah ht
   have B:mE s.im s.t (uH s i) z (fJ s.live i).u i:=mE.drop F.keys (F.nd _) aq bj V.1 V.2.1
   refine fP W 7 ?_
   refine tN (?_)
   refine iG (fR W 13 ?_)
   refine mL (i:=1) rfl rfl rfl oq yn rfl jt d_ rfl ?_
   have P:=zG ((fJ s.live i).v) W
   refine fK W 10 ?_
   refine qZ (a:=(fJ s.live i).v) (mm:=(uH s i)) (enc:=p_) (k:=.u64) 5 rfl rfl rfl yx yn j3 rfl P rfl (rS (v:=((Z9 s i).1)) rfl rfl (fK P 5 ?_))
   refine mv (v:=((Z9 s i).1)) rfl rfl ?_
   have br:=((B.get (fJ s.live i).v i).2 ⟨(F.inc (fJ s.live i).v i).2 ⟨hi,.inr rfl⟩,fun e=>absurd e.symm bY⟩)
   obtain⟨q,aJ,aK,bs⟩:=Ji br (B.nd F.nd _)
   have bt:q<(gz (Z9 s i).2).length:=(zh.1 aK).1
   have aL:(gz (Z9 s i).2).length<=1000000:=by rw[gz,zq];exact kz (inc_le F B _) d_
   refine fK P 1 ?_
   refine cl IA (Jm ((Z9 s i).1) (gz (Z9 s i).2) (i:Int) q bq (xm P (i:=0) rfl (J9 (by rw[gz,zq]at aL;exact fun j hj=>Jk F (fun _ h=>((B.get _ _).1 h).1) hj))).any aL aK bs) ?_
   rintro _ bu ⟨rfl,bv⟩
   have Q:=yp P bv
   refine fK Q 6 ?_
   refine cmp rfl rfl rfl (nG o_) (fK Q 4 ?_)
   refine mv (v:=((Z9 s i).1)) rfl rfl (fK Q 2 ?_)
   refine ar (e:=((q+1:Nat):Int)) rfl rfl rfl rfl iW (cl IB (Ip ((Z9 s i).1) (gz (Z9 s i).2) bu q (ye Q 0 rfl) bt) ?_)
   rintro I bR ht
   have b1:=yj 0 Q ht
   rw[J8]at b1
   have J:=b1
   refine fK J 7 ?_
   refine iM (m:=(gz ((Z9 s i).2.eraseIdx q)).length) 0 rfl rfl yd J rfl ?_
   by_cases aM:((((gz ((Z9 s i).2.eraseIdx q)).length:Nat):Int):Int)>(0:Int)
   . have bw:(Z9 s i).2.eraseIdx q≠[]:=by intro e9;have T:=@aM;rw[e9]at T;simp[gz]at T
     refine fK J 12 ?_
     refine ri (a:=(fJ s.live i).v) (c:=(I,(Z9 s i).2.eraseIdx q)) (mm:=(uH s i)) (enc:=p_) (k:=.u64) (L' := [ig .i64 I 3 (gz ((Z9 s i).2.eraseIdx q)),jE 3 (Aj s i),blk D 43 (Z6 (fJ s.live i)),blk ub 174 (pY fO fN s (some s.mb)),fL Lv.cells s.lv 43 7 (fM s.live i (fun _=>(⟨0,0,0,0,0,0,0⟩:Lv))),ic s.mb .u64 p_ (DX s i I q),(AW.R s.jj g),(Ac s z),blk C 43 nD]) 5 rfl rfl rfl rfl yx yn J rfl rfl ?_
     intro bS aN
     have aO:=zH aN
     have aP:mE (uH s i) z (DX s i I q) z (fJ s.live i).v i:=mE.keep (B.nd F.nd _) aJ bw
     refine fP aN 10 ?_
     refine tN (?_)
     refine iG (fR aO 15 ?_)
     refine jM 7 aO (fun bT ai=>?_)
     refine fP ai 4 ?_
     refine oO (v:=(Ak (fJ s.live i))) (v' := Zc) GI (oc (cs:=(Z6 (fJ s.live i))) rfl xg rfl mU rfl (me ai (i:=7) (o:=0) (vs:=(Z6 (fJ s.live i))) rfl rfl)) (pH rfl) ?_
     have aQ:=yg [2,3,4,0,5,6,1,7] ai
     have bW:=(y8 aQ (i:=5) rfl:z.ok)
     have bk:=F.rem hi S bX bW B aP (lv2:=s.lv) (ls:=fM s.live i (fun _=>(⟨0,0,0,0,0,0,0⟩:Lv))) rfl
     exact⟨(⟨s.jj,s.tb,s.ab,s.mb,s.lv,s.last,g,z,fM s.live i (fun _=>(⟨0,0,0,0,0,0,0⟩:Lv)),(DX s i I q)⟩:fU),rfl,⟨bk.2,rfl,aP.yA V.2.2.2.2 (TW.Kp.refl _)⟩,ym (yt (p:=fU.ok fO fN (⟨s.jj,s.tb,s.ab,s.mb,s.lv,s.last,g,z,fM s.live i (fun _=>(⟨0,0,0,0,0,0,0⟩:Lv)),(DX s i I q)⟩:fU)) (yc [_,_,_,_,_,_] _ aQ) bk.1) za⟩
   . have bx:(Z9 s i).2.eraseIdx q=[]:=by have T:=@aM;simp only[gz,zq]at T;exact xo o_
     have bz:=yg [1,2,3,4,5,6,7,8] J
     refine fK J 13 ?_
     refine Cs (a:=(fJ s.live i).v) (mm:=(uH s i)) (enc:=p_) (k:=.u64) (L' := [jE 3 (Aj s i),blk D 43 (Z6 (fJ s.live i)),blk ub 174 (pY fO fN s (some s.mb)),fL Lv.cells s.lv 43 7 (fM s.live i (fun _=>(⟨0,0,0,0,0,0,0⟩:Lv))),ic s.mb .u64 p_ (Aj s i),(AW.R s.jj g),(Ac s z),blk C 43 nD]) 4 rfl rfl rfl yx yn bz rfl rfl ?_
     intro bA aj
     obtain⟨bB,bC,bD⟩:=((B.mem (fJ s.live i).v).2 ⟨(F.mem (fJ s.live i).v).2 ⟨i,hi,.inr rfl⟩,fun e=>absurd e.symm bY⟩)
     refine fK aj 8 ?_
     refine cl IC (Lw s.tb s.ab z bA (ye aj 6 rfl) (fJ s.live i).v bB bC bD) ?_
     rintro _ bU ⟨X,rfl,ak,ht⟩
     have al:=yj 6 aj ht
     have aR:mE (uH s i) z (Aj s i) X (fJ s.live i).v i:=mE.drop (B.keys F.keys) (B.nd F.nd _) aJ bx ak.1 ak.2.1
     refine fP al 7 ?_
     refine tN (?_)
     refine iG (fR al 15 ?_)
     refine jM 7 al (fun bV am=>?_)
     refine fP am 4 ?_
     refine oO (v:=(Ak (fJ s.live i))) (v' := Zc) GI (oc (cs:=(Z6 (fJ s.live i))) rfl xg rfl mU rfl (me am (i:=7) (o:=0) (vs:=(Z6 (fJ s.live i))) rfl rfl)) (pH rfl) ?_
     have aS:=yg [2,3,4,0,5,6,1,7] am
     have bW:=(y8 aS (i:=5) rfl:X.ok)
     have bk:=F.rem hi S bX bW B aR (lv2:=s.lv) (ls:=fM s.live i (fun _=>(⟨0,0,0,0,0,0,0⟩:Lv))) rfl
     exact⟨(⟨s.jj,s.tb,s.ab,s.mb,s.lv,s.last,g,X,fM s.live i (fun _=>(⟨0,0,0,0,0,0,0⟩:Lv)),(Aj s i)⟩:fU),rfl,⟨bk.2,rfl,aR.yA V.2.2.2.2 ak.2.2.2.2⟩,ym (yt (p:=fU.ok fO fN (⟨s.jj,s.tb,s.ab,s.mb,s.lv,s.last,g,X,fM s.live i (fun _=>(⟨0,0,0,0,0,0,0⟩:Lv)),(Aj s i)⟩:fU)) (yc [_,_,_,_,_,_] _ aS) bk.1) za⟩
end
section
open Go Go.Sx
theorem aga(fO fN:Nat)(w:World)(hv:fO<=4096)(I:fN<=16384) :
 CR ya 145 #[(Za fO),(Za fN),tH] w (fun r w' => ∃ (ub:Nat) (s:fU),r = .tuple (Z0 ub)/\((∀ y,¬ s.has y)/\s.last=0)/\fV (gm []) w w' (fU.R fO fN ub s)):=by
 refine en Tryz.func145 Tryz.ntmps145 ?_
 have F:=yu w
 refine fR F 10 ?_
 refine cmp rfl rfl rfl (lG o_) (fK F 2 ?_)
 refine cmp rfl rfl rfl (qx o_) (fK F 3 ?_)
 refine cmp rfl rfl rfl (lG o_) (fK F 3 ?_)
 refine cmp rfl rfl rfl (qx o_) (fK F 13 ?_)
 refine cl O8 (Uv fN w o_) ?_
 rintro _ o ⟨a,f,rfl,q,G⟩
 have h:=(jR F G)
 refine fK h 20 ?_
 refine cl XE (afV fO o o_) ?_
 rintro _ z ⟨b,d,e,rfl,j,G⟩
 have k:=(jR h G)
 refine fK k 24 ?_
 refine mkV p_ .u64 rfl rfl k (fun c A B C t=>jc (pvs:=[(0,(Za fO)),(1,(Za fN)),(2,tH),(3,(Zb a)),(4,(Zb b)),(6,(.map (some c)))]) (v:=.agg #[(Za fO),(Za fN),tH,(Zb a),(Zb b),Zg,(.map (some c))]) rfl rfl (jo [(0,(Zd fO)),(1,(Zd fN)),(2,B4),(3,(Zf a)),(4,(Zf b)),(6,[(.map (some c))])] TE adb rfl ⟨rfl,rfl,rfl,rfl,rfl,rfl,rfl,rfl,rfl,rfl,rfl,rfl,trivial⟩ rfl) (iC t (fun g l D E m=>?_)))
 refine fP m 5 ?_
 refine iD (v:=(Zb g)) (v' := Zc) Tryz.results145 rfl rfl ?_
 have u:St _ [fL Lv.cells Zg 43 7 ([]),blk g 174 (Np fO fN a b (some c)),ic c .u64 p_ ([]),(TW.R b d e),(AW.R a f)] l:=oQ m 43 7
 have x:St _ [jE 3 [],fL Lv.cells Zg 43 7 ([]),blk g 174 (Np fO fN a b (some c)),ic c .u64 p_ ([]),(TW.R b d e),(AW.R a f)] l:=St.IY u
 have n:=yg [2,1,3,0,5,4] x
 have J:=(y8 n (i:=5) rfl:e.ok)
 have H:=fU.tS q J j.1 j.2.1 I hv a b d c
 exact⟨g,(⟨a,b,d,c,.slice none 0 0,0,f,e,[],[]⟩:fU),rfl,⟨H.2,rfl⟩,vz (yt (p:=fU.ok fO fN (⟨a,b,d,c,.slice none 0 0,0,f,e,[],[]⟩:fU)) (yc [_,_,_,_,_,_] _ n) H.1) s_⟩
end
section
open Go Go.Sx
theorem aeP(fb nb m:Nat)(ed:Int)(xs:List Nd)(w:World)(g:(Ah fb nb m ed).holds w)(f:(blk nb 388 (xs.flatMap Nd.cells)).holds w)(hm:xs.length=m)(hb:m<=1000001)(e:fZ xs)(i:Nat)(hi:i<m) :
 CR ya 341 (Zm fb i) w (fun r w' => r = .tuple (qo ((jF xs i).1:Int) ((jF xs i).2))/\gw [] w w'):=by
 have h:=e.up i o_
 refine en Tryz.func341 Tryz.ntmps341 ?_
 have d:=yu w
 refine fR d 23 ?_
 by_cases a:(((fJ xs i).up:Int):Int)=(0:Int)
 . refine fP d 12 ?_
   refine iD (v:=Zc) (v' := Zp) Gu rfl rfl ?_
   exact⟨by simp only[jF];(repeat' split)<;>(first|rfl|omega),d.gA s_⟩
 . refine fK d 14 ?_
   refine jq (o' := ((fJ xs i).up)*9+0) (i:=((fJ xs i).up:Int)) rfl rfl rfl yh jk o_ o_ (gD d 6 ?_)
   refine ry 3 (iG (fR d 14 ?_))
   refine mL (i:=0) rfl rfl rfl yo yf rfl gr d_ rfl (fK d 8 ?_)
   by_cases b:(((fJ xs ((fJ xs i).up)).k0:Int):Int)=((i:Int):Int)
   . refine fP d 17 ?_
     refine iD (v:=Zc) (v' := Zh) Gu rfl rfl ?_
     exact⟨by simp only[jF];(repeat' split)<;>(first|rfl|omega),d.gA s_⟩
   . refine fP d 11 ?_
     refine tN (?_)
     refine iG (fR d 14 ?_)
     refine mL (i:=1) rfl rfl rfl yo yf rfl gr d_ rfl (fK d 8 ?_)
     by_cases c:(((fJ xs ((fJ xs i).up)).k1:Int):Int)=((i:Int):Int)
     . refine fP d 17 ?_
       refine iD (v:=qn) (v' := Zh) Gu rfl rfl ?_
       exact⟨by simp only[jF];(repeat' split)<;>(first|rfl|omega),d.gA s_⟩
     . refine fP d 11 ?_
       refine tN (?_)
       refine iG (iO d 19 ?_)
       refine iD (v:=Zc) (v' := Zp) Gu rfl rfl ?_
       exact⟨by simp only[jF];(repeat' split)<;>(first|rfl|omega),d.gA s_⟩
theorem Ek(fb nb m:Nat)(ed:Int)(xs:List Nd)(w:World)(k:(Ah fb nb m ed).holds w)(h:(blk nb 388 (xs.flatMap Nd.cells)).holds w)(hm:xs.length=m)(hb:m<=1000001)(g:fZ xs)(i j:Nat)(hi:i<m)(l:j<m) :
 CR ya 325 (Zu fb i j) w (fun r w' => r = .bool (lK xs i j)/\gw [] w w'):=by
 refine en Tryz.func325 Tryz.ntmps325 ?_
 have f:=yu w
 refine nN f 31 fun b a=>?_
 by_cases c:((fJ xs i).key:Int)<((fJ xs j).key:Int)
 . refine fP a 15 ?_
   refine gq (v:=Zh) Gt rfl ?_
   exact⟨EH ((decide_eq_true o_).symm),a.gA s_⟩
 . refine fK a 4 ?_
   by_cases d:((fJ xs i).key:Int)=((fJ xs j).key:Int)
   . refine fK a 4 ?_
     by_cases e:((i:Int):Int)<((j:Int):Int)
     . refine fP a 7 ?_
       refine gq (v:=Zh) Gt rfl ?_
       exact⟨EH ((decide_eq_true o_).symm),a.gA s_⟩
     . refine fP a 7 ?_
       refine gq (v:=Zp) Gt rfl ?_
       exact⟨EH ((decide_eq_false o_).symm),a.gA s_⟩
   . refine fP a 11 ?_
     refine gq (v:=Zp) Gt rfl ?_
     exact⟨EH ((decide_eq_false o_).symm),a.gA s_⟩
theorem rX(fb nb m:Nat)(ed:Int)(xs:List Nd)(w:World)(p:Own (Zk fb nb m ed xs) w)(hm:xs.length=m)(hb:m<=1000001)(q:fZ xs)(i k:Nat)(hi:i<m)(hk:k<m) :
 CR ya 359 #[(Zb fb),(Za i),Zc,(Za k)] w (fun r w' => r = .tuple #[]/\fV (Zk fb nb m ed xs) w w' (Zk fb nb m ed (i7 xs i 0 k))):=by
 refine en Tryz.func359 Tryz.ntmps359 ?_
 have n:=(yq p).unpack
 refine fR n 11 ?_
 refine jL (o:=i*9+0) (o' := i*9+0) (i:=0) rfl rfl rfl yo gr d_ rfl (jZ (f:=(fun x:Nd=>{ x with k0:=k })) 1 n (fun c a d=>?_))
 refine fK a 5 ?_
 by_cases e:((k:Int):Int)=(0:Int)
 . refine fP a 5 ?_
   refine iS Gv ?_
   have l:i7 xs i 0 k=fM xs i (fun x=>{ x with k0:=k }):=by simp only[i7,reduceIte,Dv];(repeat' split)<;>(first|rfl|omega)
   have j:=a
   rw[<-l]at j
   exact⟨rfl,yi (yc [_,_] [] j)⟩
 . refine fK a 13 ?_
   refine jZ (f:=(fun x:Nd=>{ x with up:=i })) 1 a (fun g b h=>?_)
   refine fP b 1 ?_
   refine iS Gv ?_
   have l:i7 xs i 0 k=fM (fM xs i (fun x=>{ x with k0:=k })) k (fun x=>{ x with up:=i }):=by simp only[i7,reduceIte,Dv];(repeat' split)<;>(first|rfl|omega)
   have j:=b
   rw[<-l]at j
   exact⟨rfl,yi (yc [_,_] [] j)⟩
theorem rY(fb nb m:Nat)(ed:Int)(xs:List Nd)(w:World)(p:Own (Zk fb nb m ed xs) w)(hm:xs.length=m)(hb:m<=1000001)(q:fZ xs)(i k:Nat)(hi:i<m)(hk:k<m) :
 CR ya 359 #[(Zb fb),(Za i),qn,(Za k)] w (fun r w' => r = .tuple #[]/\fV (Zk fb nb m ed xs) w w' (Zk fb nb m ed (i7 xs i 1 k))):=by
 refine en Tryz.func359 Tryz.ntmps359 ?_
 have n:=(yq p).unpack
 refine fR n 11 ?_
 refine jL (o:=i*9+0) (o' := i*9+1) (i:=1) rfl rfl rfl yo gr d_ rfl (jZ (f:=(fun x:Nd=>{ x with k1:=k })) 1 n (fun c a d=>?_))
 refine fK a 5 ?_
 by_cases e:((k:Int):Int)=(0:Int)
 . refine fP a 5 ?_
   refine iS Gv ?_
   have l:i7 xs i 1 k=fM xs i (fun x=>{ x with k1:=k }):=by simp only[i7,reduceIte,Dv];(repeat' split)<;>(first|rfl|omega)
   have j:=a
   rw[<-l]at j
   exact⟨rfl,yi (yc [_,_] [] j)⟩
 . refine fK a 13 ?_
   refine jZ (f:=(fun x:Nd=>{ x with up:=i })) 1 a (fun g b h=>?_)
   refine fP b 1 ?_
   refine iS Gv ?_
   have l:i7 xs i 1 k=fM (fM xs i (fun x=>{ x with k1:=k })) k (fun x=>{ x with up:=i }):=by simp only[i7,reduceIte,Dv];(repeat' split)<;>(first|rfl|omega)
   have j:=b
   rw[<-l]at j
   exact⟨rfl,yi (yc [_,_] [] j)⟩
theorem KE(fb nb m:Nat)(ed:Int)(xs:List Nd)(w:World)(hO:Own (Zk fb nb m ed xs) w)(hm:xs.length=m)(hb:m<=1000001)(hI:fZ xs)(i:Nat)(hi:i<m) :
 CR ya 343 (Zm fb i) w (fun r w' => r = .tuple #[]/\fV (Zk fb nb m ed xs) w w' (Zk fb nb m ed (kf xs i))):=by
 refine en Tryz.func343 Tryz.ntmps343 ?_
 have aq:=(yq hO).unpack
 refine fR aq 7 ?_
 refine jq (o' := i*9+0) (i:=(i:Int)) rfl rfl rfl yh jk om o_ (gD aq 13 ?_)
 cases P:((fJ xs i).flip:Bool)
 . skip
   refine iO aq 3 ?_
   refine wN Dp ?_
   have T:kf xs i=xs:=by simp only[kf];(repeat' split)<;>(first|rfl|omega|simp_all)
   have F:=aq
   rw[<-T]at F
   exact⟨rfl,yi (yc [_,_] [] F)⟩
 . skip
   refine fR aq 8 ?_
   refine jZ (f:=(fun x:Nd=>{ x with flip:=false })) 1 aq (fun Q C R=>?_)
   have n:fZ (fM xs i (fun x=>{ x with flip:=false })):=fZ.iR hI om (fun x a b c d e=>⟨a,b,c,d,e⟩)
   obtain⟨p,y,S,n,C⟩:=iI (m:=m) n C
   refine gI C 9 fun U D=>?_
   refine jL (o:=i*9+0) (o' := i*9+1) (i:=1) rfl rfl rfl yo gr d_ rfl (fK D 4 ?_)
   refine jL (o:=i*9+0) (o' := i*9+0) (i:=0) rfl rfl rfl yo gr d_ rfl (fK D 3 ?_)
   refine jL (o:=i*9+0) (o' := i*9+0) (i:=0) rfl rfl rfl yo gr d_ rfl (jZ (f:=(fun x:Nd=>{ x with k0:=((fJ p i).k1) })) 1 D (fun V z W=>?_))
   have E:fZ (fM p i (fun x=>{ x with k0:=((fJ p i).k1) })):=fZ.iR n om (fun x a b c d e=>⟨(o9 (n.k1 i om)),b,c,d,e⟩)
   obtain⟨K,A,X,E,z⟩:=iI (m:=m) E z
   refine fK z 2 ?_
   refine jL (o:=i*9+0) (o' := i*9+1) (i:=1) rfl rfl rfl yo gr d_ rfl (jZ (f:=(fun x:Nd=>{ x with k1:=((fJ p i).k0) })) 1 z (fun Y j Z=>?_))
   have h:fZ (fM K i (fun x=>{ x with k1:=((fJ p i).k0) })):=fZ.iR E om (fun x a b c d e=>⟨a,(o9 (n.k0 i om)),c,d,e⟩)
   obtain⟨g,B,aa,h,j⟩:=iI (m:=m) h j
   refine gD j 12 ?_
   refine ry 3 (iG (fR j 13 ?_))
   refine mL (i:=0) rfl rfl rfl yo yf rfl gr d_ rfl (fK j 6 ?_)
   by_cases ab:(((fJ g i).k0:Int):Int)=(0:Int)
   . refine fP j 11 ?_
     refine tN (?_)
     refine iG (fR j 13 ?_)
     refine mL (i:=1) rfl rfl rfl yo yf rfl gr d_ rfl (fK j 6 ?_)
     by_cases ac:(((fJ g i).k1:Int):Int)=(0:Int)
     . refine fP j 11 ?_
       refine tN (?_)
       refine iG (iO j 11 ?_)
       refine iS Dp ?_
       have T:kf xs i=g:=by subst B;subst A;subst y;simp only[kf];(repeat' split)<;>(first|rfl|omega|simp_all)
       have F:=j
       rw[<-T]at F
       exact⟨rfl,yi (yc [_,_] [] F)⟩
     . refine gI j 15 fun ad q=>?_
       refine jq (o' := ((fJ g i).k1)*9+0) (i:=((fJ g i).k1:Int)) rfl rfl rfl yh jk (o9 (show ((fJ g i).k1)<(g).length from(o9 (h.k1 i om)))) o_ (fK q 1 ?_)
       refine ld rfl rfl y9 rfl (mV q (i:=1) rfl f_ (o9 (h.k1 i om)) rfl) (fK q 1 ?_)
       refine jq (o' := ((fJ g i).k1)*9+0) (i:=((fJ g i).k1:Int)) rfl rfl rfl yh jk (o9 (show ((fJ g i).k1)<(g).length from(o9 (h.k1 i om)))) o_ (fK q 1 ?_)
       refine jZ (f:=(fun x:Nd=>{ x with flip := !((fJ g ((fJ g i).k1)).flip) })) 1 q (fun ae s af=>?_) (hk:=(o9 (h.k1 i om)))
       have H:fZ (fM g ((fJ g i).k1) (fun x=>{ x with flip := !((fJ g ((fJ g i).k1)).flip) })):=fZ.iR h (o9 (h.k1 i om)) (fun x a b c d e=>⟨a,b,c,d,e⟩)
       obtain⟨L,M,ag,H,s⟩:=iI (m:=m) H s
       refine fP s 7 ?_
       refine tN (?_)
       refine iG (iO s 11 ?_)
       refine iS Dp ?_
       have T:kf xs i=L:=by subst M;subst B;subst A;subst y;simp only[kf];(repeat' split)<;>(first|rfl|omega|simp_all)
       have F:=s
       rw[<-T]at F
       exact⟨rfl,yi (yc [_,_] [] F)⟩
   . refine gI j 15 fun ah t=>?_
     refine jq (o' := ((fJ g i).k0)*9+0) (i:=((fJ g i).k0:Int)) rfl rfl rfl yh jk (o9 (show ((fJ g i).k0)<(g).length from(o9 (h.k0 i om)))) o_ (fK t 1 ?_)
     refine ld rfl rfl y9 rfl (mV t (i:=1) rfl f_ (o9 (h.k0 i om)) rfl) (fK t 1 ?_)
     refine jq (o' := ((fJ g i).k0)*9+0) (i:=((fJ g i).k0:Int)) rfl rfl rfl yh jk (o9 (show ((fJ g i).k0)<(g).length from(o9 (h.k0 i om)))) o_ (fK t 1 ?_)
     refine jZ (f:=(fun x:Nd=>{ x with flip := !((fJ g ((fJ g i).k0)).flip) })) 1 t (fun ai k aj=>?_) (hk:=(o9 (h.k0 i om)))
     have G:fZ (fM g ((fJ g i).k0) (fun x=>{ x with flip := !((fJ g ((fJ g i).k0)).flip) })):=fZ.iR h (o9 (h.k0 i om)) (fun x a b c d e=>⟨a,b,c,d,e⟩)
     obtain⟨l,I,ak,G,k⟩:=iI (m:=m) G k
     refine fP k 7 ?_
     refine tN (?_)
     refine iG (fR k 13 ?_)
     refine mL (i:=1) rfl rfl rfl yo yf rfl gr d_ rfl (fK k 6 ?_)
     by_cases al:(((fJ g i).k1:Int):Int)=(0:Int)
     . refine fP k 11 ?_
       refine tN (?_)
       refine iG (iO k 11 ?_)
       refine iS Dp ?_
       have T:kf xs i=l:=by subst I;subst B;subst A;subst y;simp only[kf];(repeat' split)<;>(first|rfl|omega|simp_all)
       have F:=k
       rw[<-T]at F
       exact⟨rfl,yi (yc [_,_] [] F)⟩
     . refine gI k 15 fun am u=>?_
       refine jq (o' := ((fJ g i).k1)*9+0) (i:=((fJ g i).k1:Int)) rfl rfl rfl yh jk (o9 (show ((fJ g i).k1)<(l).length from(o9 (h.k1 i om)))) o_ (fK u 1 ?_)
       refine ld rfl rfl y9 rfl (mV u (i:=1) rfl f_ (o9 (h.k1 i om)) rfl) (fK u 1 ?_)
       refine jq (o' := ((fJ g i).k1)*9+0) (i:=((fJ g i).k1:Int)) rfl rfl rfl yh jk (o9 (show ((fJ g i).k1)<(l).length from(o9 (h.k1 i om)))) o_ (fK u 1 ?_)
       refine jZ (f:=(fun x:Nd=>{ x with flip := !((fJ l ((fJ g i).k1)).flip) })) 1 u (fun an v ao=>?_) (hk:=(o9 (h.k1 i om)))
       have J:fZ (fM l ((fJ g i).k1) (fun x=>{ x with flip := !((fJ l ((fJ g i).k1)).flip) })):=fZ.iR G (o9 (h.k1 i om)) (fun x a b c d e=>⟨a,b,c,d,e⟩)
       obtain⟨N,O,ap,J,v⟩:=iI (m:=m) J v
       refine fP v 7 ?_
       refine tN (?_)
       refine iG (iO v 11 ?_)
       refine iS Dp ?_
       have T:kf xs i=N:=by subst O;subst I;subst B;subst A;subst y;simp only[kf];(repeat' split)<;>(first|rfl|omega|simp_all)
       have F:=v
       rw[<-T]at F
       exact⟨rfl,yi (yc [_,_] [] F)⟩
end
section
open Go Go.Sx
theorem mc(fb nb m:Nat)(ed:Int)(xs:List Nd)(w:World)(hO:Own (Zk fb nb m ed xs) w)(hm:xs.length=m)(hb:m<=1000001)(hI:fZ xs)(i:Nat)(hi:i<m) :
 CR ya 275 (Zm fb i) w (fun r w' => r = .tuple #[]/\fV (Zk fb nb m ed xs) w w' (Zk fb nb m ed (iQ xs i))):=by
 refine en Tryz.func275 Tryz.ntmps275 ?_
 have bU:=(yq hO).unpack
 refine fR bU 7 ?_
 refine jq (o' := i*9+0) (i:=(i:Int)) rfl rfl rfl yh jk om o_ (fK bU 13 ?_)
 refine ar (e:=(IntKind.i64.wrap (1+(fJ xs i).iX))) rfl rfl rfl rfl rfl (fK bU 2 ?_)
 refine jZ (f:=(fun x:Nd=>{ x with size:=1 })) 1 bU (fun aW az aX=>?_)
 have aH:fZ (fM xs i (fun x=>{ x with size:=1 })):=fZ.iR hI om (fun x a b c d e=>⟨a,b,c,d,e⟩)
 refine fK az 2 ?_
 refine jZ (f:=(fun x:Nd=>{ x with first:=i })) 1 az (fun aY aA aZ=>?_)
 have aI:fZ (fM (fM xs i (fun x=>{ x with size:=1 })) i (fun x=>{ x with first:=i })):=fZ.iR aH om (fun x a b c d e=>⟨a,b,c,om,e⟩)
 refine fK aA 2 ?_
 refine jZ (f:=(fun x:Nd=>{ x with total:=(IntKind.i64.wrap (1+(fJ xs i).iX)) })) 1 aA (fun a0 aB a1=>?_)
 have aJ:fZ (fM (fM (fM xs i (fun x=>{ x with size:=1 })) i (fun x=>{ x with first:=i })) i (fun x=>{ x with total:=(IntKind.i64.wrap (1+(fJ xs i).iX)) })):=fZ.iR aI om (fun x a b c d e=>⟨a,b,c,d,e⟩)
 obtain⟨y,hy⟩:∃ y,y=fM xs i (fun x=>{ x with size:=1,first:=i,total:=IntKind.i64.wrap (1+x.iX) }):=⟨_,rfl⟩
 have bk:=aB
 have F:=aJ
 refine fK aB 4 ?_
 rw[adR o_,<-hy]at bk F
 have bV:y.length=m:=by rw[hy,gx,hm]
 refine gD bk 8 ?_
 refine ry 3 (iG (fR bk 13 ?_))
 refine mL (i:=0) rfl rfl rfl yo yf rfl gr d_ rfl (fK bk 7 ?_)
 by_cases a2:(((fJ y i).k0:Int):Int)=(0:Int)
 . refine fP bk 12 ?_
   refine tN (?_)
   refine iG (fR bk 13 ?_)
   refine mL (i:=1) rfl rfl rfl yo yf rfl gr d_ rfl (fK bk 7 ?_)
   by_cases a3:(((fJ y i).k1:Int):Int)=(0:Int)
   . refine fP bk 12 ?_
     refine tN (?_)
     refine iG (iO bk 11 ?_)
     refine iS vp ?_
     have e9:iQ xs i=y:=by rw[vg hy o_];first|(rw[tY (k:=(fJ y i).k0) o_];rw[tY (k:=(fJ y i).k1) o_])
     have T:=bk
     rw[<-e9]at T
     exact⟨rfl,yi (yc [_,_] [] T)⟩
   . refine fK bk 13 ?_
     refine jq (o' := ((fJ y i).k1)*9+0) (i:=((fJ y i).k1:Int)) rfl rfl rfl yh jk (o9 (show ((fJ y i).k1)<(y).length from(o9 (F.k1 i om)))) o_ (gI bk 12 fun a4 V=>?_)
     refine ld rfl rfl yf rfl (mV V (i:=1) rfl f_ (o9 (F.k1 i om)) rfl) (ar (e:=(IntKind.i64.wrap ((fJ y i).size+(fJ y ((fJ y i).k1)).size))) rfl rfl rfl rfl rfl (fK V 2 ?_))
     refine jZ (f:=(fun x:Nd=>{ x with size:=(IntKind.i64.wrap ((fJ y i).size+(fJ y ((fJ y i).k1)).size)) })) 1 V (fun a5 W a6=>?_)
     have X:fZ (fM y i (fun x=>{ x with size:=(IntKind.i64.wrap ((fJ y i).size+(fJ y ((fJ y i).k1)).size)) })):=fZ.iR F om (fun x a b c d e=>⟨a,b,c,d,e⟩)
     obtain⟨B,R,a7,X,W⟩:=iI (m:=m) X W
     refine gI W 11 fun a8 Y=>?_
     refine ld rfl rfl yf rfl (mV Y (i:=1) rfl f_ (o9 (F.k1 i om)) rfl) (ar (e:=(IntKind.i64.wrap ((fJ B i).total+(fJ B ((fJ y i).k1)).total))) rfl rfl rfl rfl rfl (fK Y 2 ?_))
     refine jZ (f:=(fun x:Nd=>{ x with total:=(IntKind.i64.wrap ((fJ B i).total+(fJ B ((fJ y i).k1)).total)) })) 1 Y (fun a9 Z ba=>?_)
     have C:fZ (fM B i (fun x=>{ x with total:=(IntKind.i64.wrap ((fJ B i).total+(fJ B ((fJ y i).k1)).total)) })):=fZ.iR X om (fun x a b c d e=>⟨a,b,c,d,e⟩)
     obtain⟨j,S,bb,C,Z⟩:=iI (m:=m) C Z
     refine gI Z 8 fun aK J=>?_
     refine ld rfl rfl yf rfl (mV J (i:=1) rfl f_ (o9 (F.k1 i om)) rfl) (fK J 4 ?_)
     refine cl EC (Ek fb nb m ed j aK (J.at (i:=0) rfl) (J.at (i:=1) rfl) oa hb C ((fJ j ((fJ y i).k1)).first) ((fJ j i).first) (o9 (C.first ((fJ y i).k1) (o9 (F.k1 i om)))) (o9 (C.first i om))) ?_
     rintro _ bc ⟨rfl,aL⟩
     have u:=yp J aL
     refine gD u 2 ?_
     cases U:(lK j ((fJ j ((fJ y i).k1)).first) ((fJ j i).first):Bool)
     . skip
       refine iO u 8 ?_
       refine tN (?_)
       refine iG (iO u 11 ?_)
       refine iS vp ?_
       have e9:iQ xs i=j:=by rw[vg hy o_];first|(rw[tY (k:=(fJ y i).k0) o_];rw[tV (k:=(fJ y i).k1) o_ R S U])|(rw[tV (k:=(fJ y i).k0) o_ R S U];rw[tY (k:=(fJ y i).k1) o_])
       have T:=u
       rw[<-e9]at T
       exact⟨rfl,yi (yc [_,_] [] T)⟩
     . skip
       refine fR u 6 ?_
       refine ld rfl rfl yf rfl (mV u (i:=1) rfl f_ (o9 (F.k1 i om)) rfl) (fK u 2 ?_)
       refine jZ (f:=(fun x:Nd=>{ x with first:=((fJ j ((fJ y i).k1)).first) })) 1 u (fun bd K be=>?_)
       have aC:fZ (fM j i (fun x=>{ x with first:=((fJ j ((fJ y i).k1)).first) })):=fZ.iR C om (fun x a b c d e=>⟨a,b,c,(o9 (C.first ((fJ y i).k1) (o9 (F.k1 i om)))),e⟩)
       obtain⟨aM,aD,bf,aC,K⟩:=iI (m:=m) aC K
       refine fP K 7 ?_
       refine tN (?_)
       refine iG (iO K 11 ?_)
       refine iS vp ?_
       have e9:iQ xs i=aM:=by rw[vg hy o_];first|(rw[tY (k:=(fJ y i).k0) o_];rw[tW (k:=(fJ y i).k1) o_ R S U aD])|(rw[tW (k:=(fJ y i).k0) o_ R S U aD];rw[tY (k:=(fJ y i).k1) o_])
       have T:=K
       rw[<-e9]at T
       exact⟨rfl,yi (yc [_,_] [] T)⟩
 . refine fK bk 13 ?_
   refine jq (o' := ((fJ y i).k0)*9+0) (i:=((fJ y i).k0:Int)) rfl rfl rfl yh jk (o9 (show ((fJ y i).k0)<(y).length from(o9 (F.k0 i om)))) o_ (gI bk 12 fun bg aa=>?_)
   refine ld rfl rfl yf rfl (mV aa (i:=1) rfl f_ (o9 (F.k0 i om)) rfl) (ar (e:=(IntKind.i64.wrap ((fJ y i).size+(fJ y ((fJ y i).k0)).size))) rfl rfl rfl rfl rfl (fK aa 2 ?_))
   refine jZ (f:=(fun x:Nd=>{ x with size:=(IntKind.i64.wrap ((fJ y i).size+(fJ y ((fJ y i).k0)).size)) })) 1 aa (fun bh ab bi=>?_)
   have ac:fZ (fM y i (fun x=>{ x with size:=(IntKind.i64.wrap ((fJ y i).size+(fJ y ((fJ y i).k0)).size)) })):=fZ.iR F om (fun x a b c d e=>⟨a,b,c,d,e⟩)
   obtain⟨D,l,bj,ac,ab⟩:=iI (m:=m) ac ab
   refine gI ab 11 fun bl ad=>?_
   refine ld rfl rfl yf rfl (mV ad (i:=1) rfl f_ (o9 (F.k0 i om)) rfl) (ar (e:=(IntKind.i64.wrap ((fJ D i).total+(fJ D ((fJ y i).k0)).total))) rfl rfl rfl rfl rfl (fK ad 2 ?_))
   refine jZ (f:=(fun x:Nd=>{ x with total:=(IntKind.i64.wrap ((fJ D i).total+(fJ D ((fJ y i).k0)).total)) })) 1 ad (fun bm ae bn=>?_)
   have v:fZ (fM D i (fun x=>{ x with total:=(IntKind.i64.wrap ((fJ D i).total+(fJ D ((fJ y i).k0)).total)) })):=fZ.iR ac om (fun x a b c d e=>⟨a,b,c,d,e⟩)
   obtain⟨g,n,bo,v,ae⟩:=iI (m:=m) v ae
   refine gI ae 8 fun aN L=>?_
   refine ld rfl rfl yf rfl (mV L (i:=1) rfl f_ (o9 (F.k0 i om)) rfl) (fK L 4 ?_)
   refine cl EC (Ek fb nb m ed g aN (L.at (i:=0) rfl) (L.at (i:=1) rfl) oa hb v ((fJ g ((fJ y i).k0)).first) ((fJ g i).first) (o9 (v.first ((fJ y i).k0) (o9 (F.k0 i om)))) (o9 (v.first i om))) ?_
   rintro _ bp ⟨rfl,aO⟩
   have h:=yp L aO
   refine gD h 2 ?_
   cases o:(lK g ((fJ g ((fJ y i).k0)).first) ((fJ g i).first):Bool)
   . skip
     refine iO h 8 ?_
     refine tN (?_)
     refine iG (fR h 13 ?_)
     refine mL (i:=1) rfl rfl rfl yo yf rfl gr d_ rfl (fK h 7 ?_)
     by_cases bq:(((fJ y i).k1:Int):Int)=(0:Int)
     . refine fP h 12 ?_
       refine tN (?_)
       refine iG (iO h 11 ?_)
       refine iS vp ?_
       have e9:iQ xs i=g:=by rw[vg hy o_];first|(rw[tY (k:=(fJ y i).k0) o_];rw[tV (k:=(fJ y i).k1) o_ l n o])|(rw[tV (k:=(fJ y i).k0) o_ l n o];rw[tY (k:=(fJ y i).k1) o_])
       have T:=h
       rw[<-e9]at T
       exact⟨rfl,yi (yc [_,_] [] T)⟩
     . refine fK h 13 ?_
       refine jq (o' := ((fJ y i).k1)*9+0) (i:=((fJ y i).k1:Int)) rfl rfl rfl yh jk (o9 (show ((fJ y i).k1)<(g).length from(o9 (F.k1 i om)))) o_ (gI h 12 fun br af=>?_)
       refine ld rfl rfl yf rfl (mV af (i:=1) rfl f_ (o9 (F.k1 i om)) rfl) (ar (e:=(IntKind.i64.wrap ((fJ g i).size+(fJ g ((fJ y i).k1)).size))) rfl rfl rfl rfl rfl (fK af 2 ?_))
       refine jZ (f:=(fun x:Nd=>{ x with size:=(IntKind.i64.wrap ((fJ g i).size+(fJ g ((fJ y i).k1)).size)) })) 1 af (fun bs ag bt=>?_)
       have ah:fZ (fM g i (fun x=>{ x with size:=(IntKind.i64.wrap ((fJ g i).size+(fJ g ((fJ y i).k1)).size)) })):=fZ.iR v om (fun x a b c d e=>⟨a,b,c,d,e⟩)
       obtain⟨E,ai,bu,ah,ag⟩:=iI (m:=m) ah ag
       refine gI ag 11 fun bv aj=>?_
       refine ld rfl rfl yf rfl (mV aj (i:=1) rfl f_ (o9 (F.k1 i om)) rfl) (ar (e:=(IntKind.i64.wrap ((fJ E i).total+(fJ E ((fJ y i).k1)).total))) rfl rfl rfl rfl rfl (fK aj 2 ?_))
       refine jZ (f:=(fun x:Nd=>{ x with total:=(IntKind.i64.wrap ((fJ E i).total+(fJ E ((fJ y i).k1)).total)) })) 1 aj (fun bw ak bx=>?_)
       have G:fZ (fM E i (fun x=>{ x with total:=(IntKind.i64.wrap ((fJ E i).total+(fJ E ((fJ y i).k1)).total)) })):=fZ.iR ah om (fun x a b c d e=>⟨a,b,c,d,e⟩)
       obtain⟨p,al,bz,G,ak⟩:=iI (m:=m) G ak
       refine gI ak 8 fun aP M=>?_
       refine ld rfl rfl yf rfl (mV M (i:=1) rfl f_ (o9 (F.k1 i om)) rfl) (fK M 4 ?_)
       refine cl EC (Ek fb nb m ed p aP (M.at (i:=0) rfl) (M.at (i:=1) rfl) oa hb G ((fJ p ((fJ y i).k1)).first) ((fJ p i).first) (o9 (G.first ((fJ y i).k1) (o9 (F.k1 i om)))) (o9 (G.first i om))) ?_
       rintro _ bA ⟨rfl,aQ⟩
       have z:=yp M aQ
       refine gD z 2 ?_
       cases am:(lK p ((fJ p ((fJ y i).k1)).first) ((fJ p i).first):Bool)
       . skip
         refine iO z 8 ?_
         refine tN (?_)
         refine iG (iO z 11 ?_)
         refine iS vp ?_
         have e9:iQ xs i=p:=by rw[vg hy o_];first|(rw[tV (k:=(fJ y i).k0) o_ l n o];rw[tV (k:=(fJ y i).k1) o_ ai al am])
         have T:=z
         rw[<-e9]at T
         exact⟨rfl,yi (yc [_,_] [] T)⟩
       . skip
         refine fR z 6 ?_
         refine ld rfl rfl yf rfl (mV z (i:=1) rfl f_ (o9 (F.k1 i om)) rfl) (fK z 2 ?_)
         refine jZ (f:=(fun x:Nd=>{ x with first:=((fJ p ((fJ y i).k1)).first) })) 1 z (fun bB N bC=>?_)
         have aE:fZ (fM p i (fun x=>{ x with first:=((fJ p ((fJ y i).k1)).first) })):=fZ.iR G om (fun x a b c d e=>⟨a,b,c,(o9 (G.first ((fJ y i).k1) (o9 (F.k1 i om)))),e⟩)
         obtain⟨aR,aF,bD,aE,N⟩:=iI (m:=m) aE N
         refine fP N 7 ?_
         refine tN (?_)
         refine iG (iO N 11 ?_)
         refine iS vp ?_
         have e9:iQ xs i=aR:=by rw[vg hy o_];first|(rw[tV (k:=(fJ y i).k0) o_ l n o];rw[tW (k:=(fJ y i).k1) o_ ai al am aF])|(rw[tW (k:=(fJ y i).k0) o_ l n o ai];rw[tV (k:=(fJ y i).k1) o_ al aF am])
         have T:=N
         rw[<-e9]at T
         exact⟨rfl,yi (yc [_,_] [] T)⟩
   . skip
     refine fR h 6 ?_
     refine ld rfl rfl yf rfl (mV h (i:=1) rfl f_ (o9 (F.k0 i om)) rfl) (fK h 2 ?_)
     refine jZ (f:=(fun x:Nd=>{ x with first:=((fJ g ((fJ y i).k0)).first) })) 1 h (fun bE q bF=>?_)
     have an:fZ (fM g i (fun x=>{ x with first:=((fJ g ((fJ y i).k0)).first) })):=fZ.iR v om (fun x a b c d e=>⟨a,b,c,(o9 (v.first ((fJ y i).k0) (o9 (F.k0 i om)))),e⟩)
     obtain⟨t,O,bG,an,q⟩:=iI (m:=m) an q
     refine fP q 7 ?_
     refine tN (?_)
     refine iG (fR q 13 ?_)
     refine mL (i:=1) rfl rfl rfl yo yf rfl gr d_ rfl (fK q 7 ?_)
     by_cases bH:(((fJ y i).k1:Int):Int)=(0:Int)
     . refine fP q 12 ?_
       refine tN (?_)
       refine iG (iO q 11 ?_)
       refine iS vp ?_
       have e9:iQ xs i=t:=by rw[vg hy o_];first|(rw[tY (k:=(fJ y i).k0) o_];rw[tW (k:=(fJ y i).k1) o_ l n o O])|(rw[tW (k:=(fJ y i).k0) o_ l n o O];rw[tY (k:=(fJ y i).k1) o_])
       have T:=q
       rw[<-e9]at T
       exact⟨rfl,yi (yc [_,_] [] T)⟩
     . refine fK q 13 ?_
       refine jq (o' := ((fJ y i).k1)*9+0) (i:=((fJ y i).k1:Int)) rfl rfl rfl yh jk (o9 (show ((fJ y i).k1)<(t).length from(o9 (F.k1 i om)))) o_ (gI q 12 fun bI ao=>?_)
       refine ld rfl rfl yf rfl (mV ao (i:=1) rfl f_ (o9 (F.k1 i om)) rfl) (ar (e:=(IntKind.i64.wrap ((fJ t i).size+(fJ t ((fJ y i).k1)).size))) rfl rfl rfl rfl rfl (fK ao 2 ?_))
       refine jZ (f:=(fun x:Nd=>{ x with size:=(IntKind.i64.wrap ((fJ t i).size+(fJ t ((fJ y i).k1)).size)) })) 1 ao (fun bJ ap bK=>?_)
       have aq:fZ (fM t i (fun x=>{ x with size:=(IntKind.i64.wrap ((fJ t i).size+(fJ t ((fJ y i).k1)).size)) })):=fZ.iR an om (fun x a b c d e=>⟨a,b,c,d,e⟩)
       obtain⟨H,au,bL,aq,ap⟩:=iI (m:=m) aq ap
       refine gI ap 11 fun bM av=>?_
       refine ld rfl rfl yf rfl (mV av (i:=1) rfl f_ (o9 (F.k1 i om)) rfl) (ar (e:=(IntKind.i64.wrap ((fJ H i).total+(fJ H ((fJ y i).k1)).total))) rfl rfl rfl rfl rfl (fK av 2 ?_))
       refine jZ (f:=(fun x:Nd=>{ x with total:=(IntKind.i64.wrap ((fJ H i).total+(fJ H ((fJ y i).k1)).total)) })) 1 av (fun bN aw bO=>?_)
       have I:fZ (fM H i (fun x=>{ x with total:=(IntKind.i64.wrap ((fJ H i).total+(fJ H ((fJ y i).k1)).total)) })):=fZ.iR aq om (fun x a b c d e=>⟨a,b,c,d,e⟩)
       obtain⟨s,ax,bP,I,aw⟩:=iI (m:=m) I aw
       refine gI aw 8 fun aS P=>?_
       refine ld rfl rfl yf rfl (mV P (i:=1) rfl f_ (o9 (F.k1 i om)) rfl) (fK P 4 ?_)
       refine cl EC (Ek fb nb m ed s aS (P.at (i:=0) rfl) (P.at (i:=1) rfl) oa hb I ((fJ s ((fJ y i).k1)).first) ((fJ s i).first) (o9 (I.first ((fJ y i).k1) (o9 (F.k1 i om)))) (o9 (I.first i om))) ?_
       rintro _ bQ ⟨rfl,aT⟩
       have A:=yp P aT
       refine gD A 2 ?_
       cases ay:(lK s ((fJ s ((fJ y i).k1)).first) ((fJ s i).first):Bool)
       . skip
         refine iO A 8 ?_
         refine tN (?_)
         refine iG (iO A 11 ?_)
         refine iS vp ?_
         have e9:iQ xs i=s:=by rw[vg hy o_];first|(rw[tV (k:=(fJ y i).k0) o_ l n o];rw[tW (k:=(fJ y i).k1) o_ O au ay ax])|(rw[tW (k:=(fJ y i).k0) o_ l n o O];rw[tV (k:=(fJ y i).k1) o_ au ax ay])
         have T:=A
         rw[<-e9]at T
         exact⟨rfl,yi (yc [_,_] [] T)⟩
       . skip
         refine fR A 6 ?_
         refine ld rfl rfl yf rfl (mV A (i:=1) rfl f_ (o9 (F.k1 i om)) rfl) (fK A 2 ?_)
         refine jZ (f:=(fun x:Nd=>{ x with first:=((fJ s ((fJ y i).k1)).first) })) 1 A (fun bR Q bS=>?_)
         have aG:fZ (fM s i (fun x=>{ x with first:=((fJ s ((fJ y i).k1)).first) })):=fZ.iR I om (fun x a b c d e=>⟨a,b,c,(o9 (I.first ((fJ y i).k1) (o9 (F.k1 i om)))),e⟩)
         obtain⟨aU,aV,bT,aG,Q⟩:=iI (m:=m) aG Q
         refine fP Q 7 ?_
         refine tN (?_)
         refine iG (iO Q 11 ?_)
         refine iS vp ?_
         have e9:iQ xs i=aU:=by rw[vg hy o_];first|(rw[tW (k:=(fJ y i).k0) o_ l n o O];rw[tW (k:=(fJ y i).k1) o_ au ax ay aV])
         have T:=Q
         rw[<-e9]at T
         exact⟨rfl,yi (yc [_,_] [] T)⟩
end
section
open Go Go.Sx
theorem nr(fb nb m:Nat)(ed:Int)(xs:List Nd)(w:World)(c:(Ah fb nb m ed).holds w)(b:(blk nb 388 (xs.flatMap Nd.cells)).holds w)(hm:xs.length=m)(hb:m<=1000001)(a:fZ xs)(i:Nat)(hi:i<m){s:Nat}{o:Bool}(d:jF xs i=(s,o)):CR ya 341 (Zm fb i) w (fun r w' => r = .tuple (qo s o)/\gw [] w w'):=by
 have h:=aeP fb nb m ed xs w c b hm hb a i hi
 rw[d]at h
 exact h
theorem yN(fb nb m:Nat)(ed:Int)(xs:List Nd)(w:World)(hO:Own (Zk fb nb m ed xs) w)(hm:xs.length=m)(hb:m<=1000001)(F:fZ xs)(i:Nat)(hi:i<m) :
 CR ya 344 (Zm fb i) w (fun r w' => r = .tuple #[]/\fV (Zk fb nb m ed xs) w w' (Zk fb nb m ed (iP xs i))):=by
 have fL:=F.up i o_
 have fN:=F.up _ fL
 refine en Tryz.func344 Tryz.ntmps344 ?_
 have eT:=(yq hO).unpack
 refine fR eT 7 ?_
 refine jq (o' := i*9+0) (i:=(i:Int)) rfl rfl rfl yh jk om o_ (fK eT 12 ?_)
 refine jq (o' := ((fJ xs i).up)*9+0) (i:=((fJ xs i).up:Int)) rfl rfl rfl yh jk (o9 (show ((fJ xs i).up)<(xs).length from(o9 (F.up i om)))) o_ (fK eT 1 ?_)
 refine ld rfl rfl yf rfl (mV eT (i:=1) rfl f_ (o9 (F.up i om)) rfl) ?_
 obtain⟨cN,eE⟩:∃ q,C1 xs i=q:=⟨_,rfl⟩
 refine fK eT 7 ?_
 rcases cN with J|K|L
 . skip
   refine cl mZ (nr fb nb m ed xs w (eT.at (i:=0) rfl) (eT.at (i:=1) rfl) oa hb F i o_ J) ?_
   rintro _ a9 ⟨rfl,cO⟩
   have g:=yp eT cO
   obtain⟨cP,eF⟩:∃ q,C1 xs ((fJ xs i).up)=q:=⟨_,rfl⟩
   refine fK g 12 ?_
   rcases cP with bf|bg|bh
   . skip
     refine cl mZ (nr fb nb m ed xs a9 (g.at (i:=0) rfl) (g.at (i:=1) rfl) oa hb F ((fJ xs i).up) (o9 (F.up i om)) bf) ?_
     rintro _ eG ⟨rfl,cQ⟩
     have ba:=yp g cQ
     refine fK ba 20 ?_
     refine jq (o' := i*9+0) (i:=(i:Int)) rfl rfl rfl yh jk om o_ (fK ba 1 ?_)
     refine jZ (f:=(fun x:Nd=>{ x with up:=((fJ xs ((fJ xs i).up)).up) })) 1 ba (fun cR k eH=>?_)
     have l:fZ (fM xs i (fun x=>{ x with up:=((fJ xs ((fJ xs i).up)).up) })):=fZ.iR F om (fun x a b c d e=>⟨a,b,(o9 (F.up ((fJ xs i).up) (o9 (F.up i om)))),d,e⟩)
     obtain⟨M,cS,eI,l,k⟩:=iI (m:=m) l k
     refine fK k 14 ?_
     refine jq (o' := i*9+0) (i:=(i:Int)) rfl rfl rfl yh jk om o_ (fK k 1 ?_)
     refine jL (o:=i*9+0) (o' := i*9+1) (i:=1) rfl rfl rfl yo gr d_ rfl ?_
     have bi:=yc [_,_] _ k
     refine fK k 1 ?_
     refine cl lR (rX fb nb m ed M cR (ye bi 0 rfl) oa hb l ((fJ xs i).up) ((fJ M i).k1) (o9 (F.up i om)) (o9 (l.k1 i om))) ?_
     rintro _ cT ⟨rfl,T⟩
     have N:=(yk bi T)
     have O:fZ (i7 M ((fJ xs i).up) 0 ((fJ M i).k1)):=fZ.kP l (o9 (F.up i om)) (o9 (l.k1 i om))
     obtain⟨bj,cU,eJ,O,N⟩:=iI (m:=m) O N
     have bl:=yc [_,_] _ N
     refine fK N 9 ?_
     refine cl lR (rY fb nb m ed bj cT (ye bl 0 rfl) oa hb O i ((fJ xs i).up) o_ (o9 (F.up i om))) ?_
     rintro _ cV ⟨rfl,T⟩
     have P:=(yk bl T)
     have Q:fZ (i7 bj i 1 ((fJ xs i).up)):=fZ.kP O o_ (o9 (F.up i om))
     obtain⟨bm,cW,eK,Q,P⟩:=iI (m:=m) Q P
     have bn:=yc [_,_] _ P
     refine fK P 6 ?_
     refine cl l7 (mc fb nb m ed bm cV (ye bn 0 rfl) oa hb Q ((fJ xs i).up) (o9 (F.up i om))) ?_
     rintro _ cX ⟨rfl,T⟩
     have R:=(yk bn T)
     have S:fZ (iQ bm ((fJ xs i).up)):=fZ.lS Q (o9 (F.up i om))
     obtain⟨bo,cY,eL,S,R⟩:=iI (m:=m) S R
     have bp:=yc [_,_] _ R
     refine fK R 5 ?_
     refine cl l7 (mc fb nb m ed bo cX (ye bp 0 rfl) oa hb S i o_) ?_
     rintro _ eM ⟨rfl,T⟩
     have U:=(yk bp T)
     have bq:fZ (iQ bo i):=fZ.lS S o_
     obtain⟨cZ,c0,eN,bq,U⟩:=iI (m:=m) bq U
     refine fP U 1 ?_
     refine iS vq ?_
     have e9:iP xs i=cZ:=by subst c0;subst cY;subst cW;subst cU;subst cS;simp only[iP,J,bf];rfl
     have bk:=U
     rw[<-e9]at bk
     exact⟨rfl,yi (yc [_,_] [] bk)⟩
   . skip
     refine cl mZ (nr fb nb m ed xs a9 (g.at (i:=0) rfl) (g.at (i:=1) rfl) oa hb F ((fJ xs i).up) (o9 (F.up i om)) bg) ?_
     rintro _ c1 ⟨rfl,c2⟩
     have br:=yp g c2
     have bs:=yc [_,_] _ br
     refine fK br 18 ?_
     refine cl lR (rX fb nb m ed xs c1 (ye bs 0 rfl) oa hb F ((fJ xs ((fJ xs i).up)).up) i (o9 (F.up ((fJ xs i).up) (o9 (F.up i om)))) o_) ?_
     rintro _ c3 ⟨rfl,T⟩
     have n:=(yk bs T)
     have p:fZ (i7 xs ((fJ xs ((fJ xs i).up)).up) 0 i):=fZ.kP F (o9 (F.up ((fJ xs i).up) (o9 (F.up i om)))) o_
     obtain⟨V,c4,eO,p,n⟩:=iI (m:=m) p n
     refine fK n 14 ?_
     refine jq (o' := i*9+0) (i:=(i:Int)) rfl rfl rfl yh jk om o_ (fK n 1 ?_)
     refine jL (o:=i*9+0) (o' := i*9+1) (i:=1) rfl rfl rfl yo gr d_ rfl ?_
     have bt:=yc [_,_] _ n
     refine fK n 1 ?_
     refine cl lR (rX fb nb m ed V c3 (ye bt 0 rfl) oa hb p ((fJ xs i).up) ((fJ V i).k1) (o9 (F.up i om)) (o9 (p.k1 i om))) ?_
     rintro _ c5 ⟨rfl,T⟩
     have W:=(yk bt T)
     have X:fZ (i7 V ((fJ xs i).up) 0 ((fJ V i).k1)):=fZ.kP p (o9 (F.up i om)) (o9 (p.k1 i om))
     obtain⟨bu,c6,eP,X,W⟩:=iI (m:=m) X W
     have bv:=yc [_,_] _ W
     refine fK W 9 ?_
     refine cl lR (rY fb nb m ed bu c5 (ye bv 0 rfl) oa hb X i ((fJ xs i).up) o_ (o9 (F.up i om))) ?_
     rintro _ c7 ⟨rfl,T⟩
     have Y:=(yk bv T)
     have Z:fZ (i7 bu i 1 ((fJ xs i).up)):=fZ.kP X o_ (o9 (F.up i om))
     obtain⟨bw,c8,eQ,Z,Y⟩:=iI (m:=m) Z Y
     have bx:=yc [_,_] _ Y
     refine fK Y 6 ?_
     refine cl l7 (mc fb nb m ed bw c7 (ye bx 0 rfl) oa hb Z ((fJ xs i).up) (o9 (F.up i om))) ?_
     rintro _ c9 ⟨rfl,T⟩
     have aa:=(yk bx T)
     have ab:fZ (iQ bw ((fJ xs i).up)):=fZ.lS Z (o9 (F.up i om))
     obtain⟨bz,da,eR,ab,aa⟩:=iI (m:=m) ab aa
     have bA:=yc [_,_] _ aa
     refine fK aa 5 ?_
     refine cl l7 (mc fb nb m ed bz c9 (ye bA 0 rfl) oa hb ab i o_) ?_
     rintro _ eS ⟨rfl,T⟩
     have ac:=(yk bA T)
     have bB:fZ (iQ bz i):=fZ.lS ab o_
     obtain⟨db,dc,eU,bB,ac⟩:=iI (m:=m) bB ac
     refine fP ac 1 ?_
     refine iS vq ?_
     have e9:iP xs i=db:=by subst dc;subst da;subst c8;subst c6;subst c4;simp only[iP,J,bg];rfl
     have bk:=ac
     rw[<-e9]at bk
     exact⟨rfl,yi (yc [_,_] [] bk)⟩
   . skip
     refine cl mZ (nr fb nb m ed xs a9 (g.at (i:=0) rfl) (g.at (i:=1) rfl) oa hb F ((fJ xs i).up) (o9 (F.up i om)) bh) ?_
     rintro _ dd ⟨rfl,de⟩
     have bC:=yp g de
     have bD:=yc [_,_] _ bC
     refine fK bC 18 ?_
     refine cl lR (rY fb nb m ed xs dd (ye bD 0 rfl) oa hb F ((fJ xs ((fJ xs i).up)).up) i (o9 (F.up ((fJ xs i).up) (o9 (F.up i om)))) o_) ?_
     rintro _ df ⟨rfl,T⟩
     have s:=(yk bD T)
     have t:fZ (i7 xs ((fJ xs ((fJ xs i).up)).up) 1 i):=fZ.kP F (o9 (F.up ((fJ xs i).up) (o9 (F.up i om)))) o_
     obtain⟨ad,dg,eV,t,s⟩:=iI (m:=m) t s
     refine fK s 14 ?_
     refine jq (o' := i*9+0) (i:=(i:Int)) rfl rfl rfl yh jk om o_ (fK s 1 ?_)
     refine jL (o:=i*9+0) (o' := i*9+1) (i:=1) rfl rfl rfl yo gr d_ rfl ?_
     have bE:=yc [_,_] _ s
     refine fK s 1 ?_
     refine cl lR (rX fb nb m ed ad df (ye bE 0 rfl) oa hb t ((fJ xs i).up) ((fJ ad i).k1) (o9 (F.up i om)) (o9 (t.k1 i om))) ?_
     rintro _ dh ⟨rfl,T⟩
     have ae:=(yk bE T)
     have af:fZ (i7 ad ((fJ xs i).up) 0 ((fJ ad i).k1)):=fZ.kP t (o9 (F.up i om)) (o9 (t.k1 i om))
     obtain⟨bF,di,eW,af,ae⟩:=iI (m:=m) af ae
     have bG:=yc [_,_] _ ae
     refine fK ae 9 ?_
     refine cl lR (rY fb nb m ed bF dh (ye bG 0 rfl) oa hb af i ((fJ xs i).up) o_ (o9 (F.up i om))) ?_
     rintro _ dj ⟨rfl,T⟩
     have ag:=(yk bG T)
     have ah:fZ (i7 bF i 1 ((fJ xs i).up)):=fZ.kP af o_ (o9 (F.up i om))
     obtain⟨bH,dk,eX,ah,ag⟩:=iI (m:=m) ah ag
     have bI:=yc [_,_] _ ag
     refine fK ag 6 ?_
     refine cl l7 (mc fb nb m ed bH dj (ye bI 0 rfl) oa hb ah ((fJ xs i).up) (o9 (F.up i om))) ?_
     rintro _ dl ⟨rfl,T⟩
     have ai:=(yk bI T)
     have aj:fZ (iQ bH ((fJ xs i).up)):=fZ.lS ah (o9 (F.up i om))
     obtain⟨bJ,dm,eY,aj,ai⟩:=iI (m:=m) aj ai
     have bK:=yc [_,_] _ ai
     refine fK ai 5 ?_
     refine cl l7 (mc fb nb m ed bJ dl (ye bK 0 rfl) oa hb aj i o_) ?_
     rintro _ eZ ⟨rfl,T⟩
     have ak:=(yk bK T)
     have bL:fZ (iQ bJ i):=fZ.lS aj o_
     obtain⟨dn,dp,e0,bL,ak⟩:=iI (m:=m) bL ak
     refine fP ak 1 ?_
     refine iS vq ?_
     have e9:iP xs i=dn:=by subst dp;subst dm;subst dk;subst di;subst dg;simp only[iP,J,bh];rfl
     have bk:=ak
     rw[<-e9]at bk
     exact⟨rfl,yi (yc [_,_] [] bk)⟩
 . skip
   refine cl mZ (nr fb nb m ed xs w (eT.at (i:=0) rfl) (eT.at (i:=1) rfl) oa hb F i o_ K) ?_
   rintro _ bb ⟨rfl,dq⟩
   have h:=yp eT dq
   obtain⟨dr,e1⟩:∃ q,C1 xs ((fJ xs i).up)=q:=⟨_,rfl⟩
   refine fK h 12 ?_
   rcases dr with bM|bN|bO
   . skip
     refine cl mZ (nr fb nb m ed xs bb (h.at (i:=0) rfl) (h.at (i:=1) rfl) oa hb F ((fJ xs i).up) (o9 (F.up i om)) bM) ?_
     rintro _ e2 ⟨rfl,ds⟩
     have bc:=yp h ds
     refine fK bc 20 ?_
     refine jq (o' := i*9+0) (i:=(i:Int)) rfl rfl rfl yh jk om o_ (fK bc 1 ?_)
     refine jZ (f:=(fun x:Nd=>{ x with up:=((fJ xs ((fJ xs i).up)).up) })) 1 bc (fun dt u e3=>?_)
     have v:fZ (fM xs i (fun x=>{ x with up:=((fJ xs ((fJ xs i).up)).up) })):=fZ.iR F om (fun x a b c d e=>⟨a,b,(o9 (F.up ((fJ xs i).up) (o9 (F.up i om)))),d,e⟩)
     obtain⟨al,du,e4,v,u⟩:=iI (m:=m) v u
     refine fK u 14 ?_
     refine jq (o' := i*9+0) (i:=(i:Int)) rfl rfl rfl yh jk om o_ (fK u 1 ?_)
     refine jL (o:=i*9+0) (o' := i*9+1) (i:=1) rfl rfl rfl yo gr d_ rfl ?_
     have bP:=yc [_,_] _ u
     refine fK u 1 ?_
     refine cl lR (rX fb nb m ed al dt (ye bP 0 rfl) oa hb v ((fJ xs i).up) ((fJ al i).k1) (o9 (F.up i om)) (o9 (v.k1 i om))) ?_
     rintro _ dv ⟨rfl,T⟩
     have am:=(yk bP T)
     have an:fZ (i7 al ((fJ xs i).up) 0 ((fJ al i).k1)):=fZ.kP v (o9 (F.up i om)) (o9 (v.k1 i om))
     obtain⟨bQ,dw,e5,an,am⟩:=iI (m:=m) an am
     have bR:=yc [_,_] _ am
     refine fK am 9 ?_
     refine cl lR (rY fb nb m ed bQ dv (ye bR 0 rfl) oa hb an i ((fJ xs i).up) o_ (o9 (F.up i om))) ?_
     rintro _ dx ⟨rfl,T⟩
     have ao:=(yk bR T)
     have ap:fZ (i7 bQ i 1 ((fJ xs i).up)):=fZ.kP an o_ (o9 (F.up i om))
     obtain⟨bS,dy,e6,ap,ao⟩:=iI (m:=m) ap ao
     have bT:=yc [_,_] _ ao
     refine fK ao 6 ?_
     refine cl l7 (mc fb nb m ed bS dx (ye bT 0 rfl) oa hb ap ((fJ xs i).up) (o9 (F.up i om))) ?_
     rintro _ dz ⟨rfl,T⟩
     have aq:=(yk bT T)
     have ar:fZ (iQ bS ((fJ xs i).up)):=fZ.lS ap (o9 (F.up i om))
     obtain⟨bU,dA,e7,ar,aq⟩:=iI (m:=m) ar aq
     have bV:=yc [_,_] _ aq
     refine fK aq 5 ?_
     refine cl l7 (mc fb nb m ed bU dz (ye bV 0 rfl) oa hb ar i o_) ?_
     rintro _ e8 ⟨rfl,T⟩
     have au:=(yk bV T)
     have bW:fZ (iQ bU i):=fZ.lS ar o_
     obtain⟨dB,dC,fa,bW,au⟩:=iI (m:=m) bW au
     refine fP au 1 ?_
     refine iS vq ?_
     have e9:iP xs i=dB:=by subst dC;subst dA;subst dy;subst dw;subst du;simp only[iP,K,bM];rfl
     have bk:=au
     rw[<-e9]at bk
     exact⟨rfl,yi (yc [_,_] [] bk)⟩
   . skip
     refine cl mZ (nr fb nb m ed xs bb (h.at (i:=0) rfl) (h.at (i:=1) rfl) oa hb F ((fJ xs i).up) (o9 (F.up i om)) bN) ?_
     rintro _ dD ⟨rfl,dE⟩
     have bX:=yp h dE
     have bY:=yc [_,_] _ bX
     refine fK bX 18 ?_
     refine cl lR (rX fb nb m ed xs dD (ye bY 0 rfl) oa hb F ((fJ xs ((fJ xs i).up)).up) i (o9 (F.up ((fJ xs i).up) (o9 (F.up i om)))) o_) ?_
     rintro _ dF ⟨rfl,T⟩
     have y:=(yk bY T)
     have z:fZ (i7 xs ((fJ xs ((fJ xs i).up)).up) 0 i):=fZ.kP F (o9 (F.up ((fJ xs i).up) (o9 (F.up i om)))) o_
     obtain⟨av,dG,fc,z,y⟩:=iI (m:=m) z y
     refine fK y 14 ?_
     refine jq (o' := i*9+0) (i:=(i:Int)) rfl rfl rfl yh jk om o_ (fK y 1 ?_)
     refine jL (o:=i*9+0) (o' := i*9+1) (i:=1) rfl rfl rfl yo gr d_ rfl ?_
     have bZ:=yc [_,_] _ y
     refine fK y 1 ?_
     refine cl lR (rX fb nb m ed av dF (ye bZ 0 rfl) oa hb z ((fJ xs i).up) ((fJ av i).k1) (o9 (F.up i om)) (o9 (z.k1 i om))) ?_
     rintro _ dH ⟨rfl,T⟩
     have aw:=(yk bZ T)
     have ax:fZ (i7 av ((fJ xs i).up) 0 ((fJ av i).k1)):=fZ.kP z (o9 (F.up i om)) (o9 (z.k1 i om))
     obtain⟨b0,dI,fd,ax,aw⟩:=iI (m:=m) ax aw
     have b1:=yc [_,_] _ aw
     refine fK aw 9 ?_
     refine cl lR (rY fb nb m ed b0 dH (ye b1 0 rfl) oa hb ax i ((fJ xs i).up) o_ (o9 (F.up i om))) ?_
     rintro _ dJ ⟨rfl,T⟩
     have ay:=(yk b1 T)
     have az:fZ (i7 b0 i 1 ((fJ xs i).up)):=fZ.kP ax o_ (o9 (F.up i om))
     obtain⟨b2,dK,fe,az,ay⟩:=iI (m:=m) az ay
     have b3:=yc [_,_] _ ay
     refine fK ay 6 ?_
     refine cl l7 (mc fb nb m ed b2 dJ (ye b3 0 rfl) oa hb az ((fJ xs i).up) (o9 (F.up i om))) ?_
     rintro _ dL ⟨rfl,T⟩
     have aA:=(yk b3 T)
     have aB:fZ (iQ b2 ((fJ xs i).up)):=fZ.lS az (o9 (F.up i om))
     obtain⟨b4,dM,ff,aB,aA⟩:=iI (m:=m) aB aA
     have b5:=yc [_,_] _ aA
     refine fK aA 5 ?_
     refine cl l7 (mc fb nb m ed b4 dL (ye b5 0 rfl) oa hb aB i o_) ?_
     rintro _ fg ⟨rfl,T⟩
     have aC:=(yk b5 T)
     have b6:fZ (iQ b4 i):=fZ.lS aB o_
     obtain⟨dN,dO,fh,b6,aC⟩:=iI (m:=m) b6 aC
     refine fP aC 1 ?_
     refine iS vq ?_
     have e9:iP xs i=dN:=by subst dO;subst dM;subst dK;subst dI;subst dG;simp only[iP,K,bN];rfl
     have bk:=aC
     rw[<-e9]at bk
     exact⟨rfl,yi (yc [_,_] [] bk)⟩
   . skip
     refine cl mZ (nr fb nb m ed xs bb (h.at (i:=0) rfl) (h.at (i:=1) rfl) oa hb F ((fJ xs i).up) (o9 (F.up i om)) bO) ?_
     rintro _ dP ⟨rfl,dQ⟩
     have b7:=yp h dQ
     have b8:=yc [_,_] _ b7
     refine fK b7 18 ?_
     refine cl lR (rY fb nb m ed xs dP (ye b8 0 rfl) oa hb F ((fJ xs ((fJ xs i).up)).up) i (o9 (F.up ((fJ xs i).up) (o9 (F.up i om)))) o_) ?_
     rintro _ dR ⟨rfl,T⟩
     have A:=(yk b8 T)
     have B:fZ (i7 xs ((fJ xs ((fJ xs i).up)).up) 1 i):=fZ.kP F (o9 (F.up ((fJ xs i).up) (o9 (F.up i om)))) o_
     obtain⟨aD,dS,fi,B,A⟩:=iI (m:=m) B A
     refine fK A 14 ?_
     refine jq (o' := i*9+0) (i:=(i:Int)) rfl rfl rfl yh jk om o_ (fK A 1 ?_)
     refine jL (o:=i*9+0) (o' := i*9+1) (i:=1) rfl rfl rfl yo gr d_ rfl ?_
     have b9:=yc [_,_] _ A
     refine fK A 1 ?_
     refine cl lR (rX fb nb m ed aD dR (ye b9 0 rfl) oa hb B ((fJ xs i).up) ((fJ aD i).k1) (o9 (F.up i om)) (o9 (B.k1 i om))) ?_
     rintro _ dT ⟨rfl,T⟩
     have aE:=(yk b9 T)
     have aF:fZ (i7 aD ((fJ xs i).up) 0 ((fJ aD i).k1)):=fZ.kP B (o9 (F.up i om)) (o9 (B.k1 i om))
     obtain⟨ca,dU,fj,aF,aE⟩:=iI (m:=m) aF aE
     have cb:=yc [_,_] _ aE
     refine fK aE 9 ?_
     refine cl lR (rY fb nb m ed ca dT (ye cb 0 rfl) oa hb aF i ((fJ xs i).up) o_ (o9 (F.up i om))) ?_
     rintro _ dV ⟨rfl,T⟩
     have aG:=(yk cb T)
     have aH:fZ (i7 ca i 1 ((fJ xs i).up)):=fZ.kP aF o_ (o9 (F.up i om))
     obtain⟨cc,dW,fk,aH,aG⟩:=iI (m:=m) aH aG
     have cd:=yc [_,_] _ aG
     refine fK aG 6 ?_
     refine cl l7 (mc fb nb m ed cc dV (ye cd 0 rfl) oa hb aH ((fJ xs i).up) (o9 (F.up i om))) ?_
     rintro _ dX ⟨rfl,T⟩
     have aI:=(yk cd T)
     have aJ:fZ (iQ cc ((fJ xs i).up)):=fZ.lS aH (o9 (F.up i om))
     obtain⟨ce,dY,fl,aJ,aI⟩:=iI (m:=m) aJ aI
     have cf:=yc [_,_] _ aI
     refine fK aI 5 ?_
     refine cl l7 (mc fb nb m ed ce dX (ye cf 0 rfl) oa hb aJ i o_) ?_
     rintro _ fm ⟨rfl,T⟩
     have aK:=(yk cf T)
     have cg:fZ (iQ ce i):=fZ.lS aJ o_
     obtain⟨dZ,d0,fn,cg,aK⟩:=iI (m:=m) cg aK
     refine fP aK 1 ?_
     refine iS vq ?_
     have e9:iP xs i=dZ:=by subst d0;subst dY;subst dW;subst dU;subst dS;simp only[iP,K,bO];rfl
     have bk:=aK
     rw[<-e9]at bk
     exact⟨rfl,yi (yc [_,_] [] bk)⟩
 . skip
   refine cl mZ (nr fb nb m ed xs w (eT.at (i:=0) rfl) (eT.at (i:=1) rfl) oa hb F i o_ L) ?_
   rintro _ bd ⟨rfl,d1⟩
   have j:=yp eT d1
   obtain⟨d2,fo⟩:∃ q,C1 xs ((fJ xs i).up)=q:=⟨_,rfl⟩
   refine fK j 12 ?_
   rcases d2 with ch|ci|cj
   . skip
     refine cl mZ (nr fb nb m ed xs bd (j.at (i:=0) rfl) (j.at (i:=1) rfl) oa hb F ((fJ xs i).up) (o9 (F.up i om)) ch) ?_
     rintro _ fp ⟨rfl,d3⟩
     have be:=yp j d3
     refine fK be 20 ?_
     refine jq (o' := i*9+0) (i:=(i:Int)) rfl rfl rfl yh jk om o_ (fK be 1 ?_)
     refine jZ (f:=(fun x:Nd=>{ x with up:=((fJ xs ((fJ xs i).up)).up) })) 1 be (fun d4 C fq=>?_)
     have D:fZ (fM xs i (fun x=>{ x with up:=((fJ xs ((fJ xs i).up)).up) })):=fZ.iR F om (fun x a b c d e=>⟨a,b,(o9 (F.up ((fJ xs i).up) (o9 (F.up i om)))),d,e⟩)
     obtain⟨aL,d5,fr,D,C⟩:=iI (m:=m) D C
     refine fK C 14 ?_
     refine jq (o' := i*9+0) (i:=(i:Int)) rfl rfl rfl yh jk om o_ (fK C 1 ?_)
     refine jL (o:=i*9+0) (o' := i*9+0) (i:=0) rfl rfl rfl yo gr d_ rfl ?_
     have ck:=yc [_,_] _ C
     refine fK C 1 ?_
     refine cl lR (rY fb nb m ed aL d4 (ye ck 0 rfl) oa hb D ((fJ xs i).up) ((fJ aL i).k0) (o9 (F.up i om)) (o9 (D.k0 i om))) ?_
     rintro _ d6 ⟨rfl,T⟩
     have aM:=(yk ck T)
     have aN:fZ (i7 aL ((fJ xs i).up) 1 ((fJ aL i).k0)):=fZ.kP D (o9 (F.up i om)) (o9 (D.k0 i om))
     obtain⟨cm,d7,fs,aN,aM⟩:=iI (m:=m) aN aM
     have cn:=yc [_,_] _ aM
     refine fK aM 9 ?_
     refine cl lR (rX fb nb m ed cm d6 (ye cn 0 rfl) oa hb aN i ((fJ xs i).up) o_ (o9 (F.up i om))) ?_
     rintro _ d8 ⟨rfl,T⟩
     have aO:=(yk cn T)
     have aP:fZ (i7 cm i 0 ((fJ xs i).up)):=fZ.kP aN o_ (o9 (F.up i om))
     obtain⟨co,d9,ft,aP,aO⟩:=iI (m:=m) aP aO
     have cp:=yc [_,_] _ aO
     refine fK aO 6 ?_
     refine cl l7 (mc fb nb m ed co d8 (ye cp 0 rfl) oa hb aP ((fJ xs i).up) (o9 (F.up i om))) ?_
     rintro _ ea ⟨rfl,T⟩
     have aQ:=(yk cp T)
     have aR:fZ (iQ co ((fJ xs i).up)):=fZ.lS aP (o9 (F.up i om))
     obtain⟨cq,eb,fu,aR,aQ⟩:=iI (m:=m) aR aQ
     have cr:=yc [_,_] _ aQ
     refine fK aQ 5 ?_
     refine cl l7 (mc fb nb m ed cq ea (ye cr 0 rfl) oa hb aR i o_) ?_
     rintro _ fv ⟨rfl,T⟩
     have aS:=(yk cr T)
     have cs:fZ (iQ cq i):=fZ.lS aR o_
     obtain⟨ec,ee,fw,cs,aS⟩:=iI (m:=m) cs aS
     refine fP aS 1 ?_
     refine iS vq ?_
     have e9:iP xs i=ec:=by subst ee;subst eb;subst d9;subst d7;subst d5;simp only[iP,L,ch];rfl
     have bk:=aS
     rw[<-e9]at bk
     exact⟨rfl,yi (yc [_,_] [] bk)⟩
   . skip
     refine cl mZ (nr fb nb m ed xs bd (j.at (i:=0) rfl) (j.at (i:=1) rfl) oa hb F ((fJ xs i).up) (o9 (F.up i om)) ci) ?_
     rintro _ ef ⟨rfl,eg⟩
     have ct:=yp j eg
     have cu:=yc [_,_] _ ct
     refine fK ct 18 ?_
     refine cl lR (rX fb nb m ed xs ef (ye cu 0 rfl) oa hb F ((fJ xs ((fJ xs i).up)).up) i (o9 (F.up ((fJ xs i).up) (o9 (F.up i om)))) o_) ?_
     rintro _ eh ⟨rfl,T⟩
     have E:=(yk cu T)
     have G:fZ (i7 xs ((fJ xs ((fJ xs i).up)).up) 0 i):=fZ.kP F (o9 (F.up ((fJ xs i).up) (o9 (F.up i om)))) o_
     obtain⟨aT,ei,fx,G,E⟩:=iI (m:=m) G E
     refine fK E 14 ?_
     refine jq (o' := i*9+0) (i:=(i:Int)) rfl rfl rfl yh jk om o_ (fK E 1 ?_)
     refine jL (o:=i*9+0) (o' := i*9+0) (i:=0) rfl rfl rfl yo gr d_ rfl ?_
     have cv:=yc [_,_] _ E
     refine fK E 1 ?_
     refine cl lR (rY fb nb m ed aT eh (ye cv 0 rfl) oa hb G ((fJ xs i).up) ((fJ aT i).k0) (o9 (F.up i om)) (o9 (G.k0 i om))) ?_
     rintro _ ej ⟨rfl,T⟩
     have aU:=(yk cv T)
     have aV:fZ (i7 aT ((fJ xs i).up) 1 ((fJ aT i).k0)):=fZ.kP G (o9 (F.up i om)) (o9 (G.k0 i om))
     obtain⟨cw,ek,fy,aV,aU⟩:=iI (m:=m) aV aU
     have cx:=yc [_,_] _ aU
     refine fK aU 9 ?_
     refine cl lR (rX fb nb m ed cw ej (ye cx 0 rfl) oa hb aV i ((fJ xs i).up) o_ (o9 (F.up i om))) ?_
     rintro _ el ⟨rfl,T⟩
     have aW:=(yk cx T)
     have aX:fZ (i7 cw i 0 ((fJ xs i).up)):=fZ.kP aV o_ (o9 (F.up i om))
     obtain⟨cy,em,fz,aX,aW⟩:=iI (m:=m) aX aW
     have cz:=yc [_,_] _ aW
     refine fK aW 6 ?_
     refine cl l7 (mc fb nb m ed cy el (ye cz 0 rfl) oa hb aX ((fJ xs i).up) (o9 (F.up i om))) ?_
     rintro _ eo ⟨rfl,T⟩
     have aY:=(yk cz T)
     have aZ:fZ (iQ cy ((fJ xs i).up)):=fZ.lS aX (o9 (F.up i om))
     obtain⟨cA,ep,fA,aZ,aY⟩:=iI (m:=m) aZ aY
     have cB:=yc [_,_] _ aY
     refine fK aY 5 ?_
     refine cl l7 (mc fb nb m ed cA eo (ye cB 0 rfl) oa hb aZ i o_) ?_
     rintro _ fB ⟨rfl,T⟩
     have a0:=(yk cB T)
     have cC:fZ (iQ cA i):=fZ.lS aZ o_
     obtain⟨eq,er,fC,cC,a0⟩:=iI (m:=m) cC a0
     refine fP a0 1 ?_
     refine iS vq ?_
     have e9:iP xs i=eq:=by subst er;subst ep;subst em;subst ek;subst ei;simp only[iP,L,ci];rfl
     have bk:=a0
     rw[<-e9]at bk
     exact⟨rfl,yi (yc [_,_] [] bk)⟩
   . skip
     refine cl mZ (nr fb nb m ed xs bd (j.at (i:=0) rfl) (j.at (i:=1) rfl) oa hb F ((fJ xs i).up) (o9 (F.up i om)) cj) ?_
     rintro _ es ⟨rfl,et⟩
     have cD:=yp j et
     have cE:=yc [_,_] _ cD
     refine fK cD 18 ?_
     refine cl lR (rY fb nb m ed xs es (ye cE 0 rfl) oa hb F ((fJ xs ((fJ xs i).up)).up) i (o9 (F.up ((fJ xs i).up) (o9 (F.up i om)))) o_) ?_
     rintro _ eu ⟨rfl,T⟩
     have H:=(yk cE T)
     have I:fZ (i7 xs ((fJ xs ((fJ xs i).up)).up) 1 i):=fZ.kP F (o9 (F.up ((fJ xs i).up) (o9 (F.up i om)))) o_
     obtain⟨a1,ev,fD,I,H⟩:=iI (m:=m) I H
     refine fK H 14 ?_
     refine jq (o' := i*9+0) (i:=(i:Int)) rfl rfl rfl yh jk om o_ (fK H 1 ?_)
     refine jL (o:=i*9+0) (o' := i*9+0) (i:=0) rfl rfl rfl yo gr d_ rfl ?_
     have cF:=yc [_,_] _ H
     refine fK H 1 ?_
     refine cl lR (rY fb nb m ed a1 eu (ye cF 0 rfl) oa hb I ((fJ xs i).up) ((fJ a1 i).k0) (o9 (F.up i om)) (o9 (I.k0 i om))) ?_
     rintro _ ew ⟨rfl,T⟩
     have a2:=(yk cF T)
     have a3:fZ (i7 a1 ((fJ xs i).up) 1 ((fJ a1 i).k0)):=fZ.kP I (o9 (F.up i om)) (o9 (I.k0 i om))
     obtain⟨cG,ex,fE,a3,a2⟩:=iI (m:=m) a3 a2
     have cH:=yc [_,_] _ a2
     refine fK a2 9 ?_
     refine cl lR (rX fb nb m ed cG ew (ye cH 0 rfl) oa hb a3 i ((fJ xs i).up) o_ (o9 (F.up i om))) ?_
     rintro _ ey ⟨rfl,T⟩
     have a4:=(yk cH T)
     have a5:fZ (i7 cG i 0 ((fJ xs i).up)):=fZ.kP a3 o_ (o9 (F.up i om))
     obtain⟨cI,ez,fF,a5,a4⟩:=iI (m:=m) a5 a4
     have cJ:=yc [_,_] _ a4
     refine fK a4 6 ?_
     refine cl l7 (mc fb nb m ed cI ey (ye cJ 0 rfl) oa hb a5 ((fJ xs i).up) (o9 (F.up i om))) ?_
     rintro _ eA ⟨rfl,T⟩
     have a6:=(yk cJ T)
     have a7:fZ (iQ cI ((fJ xs i).up)):=fZ.lS a5 (o9 (F.up i om))
     obtain⟨cK,eB,fG,a7,a6⟩:=iI (m:=m) a7 a6
     have cL:=yc [_,_] _ a6
     refine fK a6 5 ?_
     refine cl l7 (mc fb nb m ed cK eA (ye cL 0 rfl) oa hb a7 i o_) ?_
     rintro _ fH ⟨rfl,T⟩
     have a8:=(yk cL T)
     have cM:fZ (iQ cK i):=fZ.lS a7 o_
     obtain⟨eC,eD,fI,cM,a8⟩:=iI (m:=m) cM a8
     refine fP a8 1 ?_
     refine iS vq ?_
     have e9:iP xs i=eC:=by subst eD;subst eB;subst ez;subst ex;subst ev;simp only[iP,L,cj];rfl
     have bk:=a8
     rw[<-e9]at bk
     exact⟨rfl,yi (yc [_,_] [] bk)⟩
end
section
open Go Go.Sx
theorem Vg(v:Value)(w:World)(h1:v.oneCell' = true) :
 CR ya 342 #[v] w (fun r w' => ∃ g,w.heap.size<=g/\r = .func (.func 358) #[] (Zi g)/\(blk g 37 [v]).holds w' /\ gw [] w w'):=by
 refine en Tryz.func342 Tryz.ntmps342 ?_
 have f:=yu w
 refine fR f 2 ?_
 refine iC f (fun b d c e a=>?_) (hcs:=(cells_one h1))
 refine fK a 5 ?_
 refine mO (vf:=[]) (vc:=(Zf b)) rfl rfl rfl (fP a 4 ?_)
 refine gq (v:=(.func (.func 358) #[] (Zi b))) Tryz.results342 rfl ?_
 exact⟨_,kz (f.size za) c,rfl,a.at (i:=0) rfl,a.gA s_⟩
theorem Vf(s:Nat->fT)(l u:Nat)(v:Value)(xs:List Int)(ok:Nat->Prop)(w:World)(E:∀ (k:Nat) (x:Int) (bs:List (World×List Nat)) (L:List fT) (w:World),k<xs.length->xs[xs.length-1-k]? = some x->St bs (s k :: L) w->YR ya l (Zn ((xs.length:Int)-1-(k:Int)) x) w (fun v w' => v = .bool true/\St bs (s (k+1) :: L) w'))(C:Own (s 0) w)(A:(blk u 37 [v]).holds w)(D:u∉(s 0).gH)(hv:Ints .i64 ok w v xs)(y:∀ b,ok b->b∉(s 0).gH)(G:xs.length<=1000000000000) :
 CR ya 358 (G6 (.func (.yield l) #[] #[]) u) w (fun r w' => r = .tuple #[]/\fV (s 0) w w' (s xs.length)):=by
 have hv:=hv.old d_
 have y:∀ b,(ok b/\b<w.heap.size)->b∉(s 0).gH:=fun b hb=>y b hb.1
 refine en Tryz.func358 Tryz.ntmps358 ?_
 have z:=yq C
 refine fR z 2 ?_
 refine ld rfl rfl yd rfl (Cn A (o:=0) rfl) (j8 (v:=v) rfl rfl yd hv (gD z 5 ?_))
 refine lp (α:=Nat) (fun k=>[(0,(.func (.yield l) #[] #[])),(1,(Zb u)),(3,(Za ((xs.length:Int)-1-(k:Int))))]) (fun k w1=>St [(w,(s 0).gH)] [s k] w1/\k<=xs.length) (fun k=>xs.length-k) 0 ⟨rfl,rfl,gj rO,trivial⟩ (⟨z,o_⟩) ?_
 rintro k f g ⟨t,F⟩
 refine fR t 4 ?_
 by_cases h:((xs.length:Int)-1-(k:Int):Int)≥(0:Int)
 . obtain⟨x,B⟩:=nW (show xs.length-1-k<xs.length by omega)
   refine fK t 12 ?_
   refine ld rfl rfl yd rfl (St.HZ t (X:=(s 0).gH) s_ (Cn A (o:=0) rfl) D) (fK t 1 ?_)
   refine CC (i:=(xs.length:Int)-1-(k:Int)) (el:=x) rfl rfl rfl yd gr (St.ints t (X:=(s 0).gH) s_ hv y) o_ (by rw[show ((xs.length:Int)-1-(k:Int)).toNat=xs.length-1-k by omega];exact B) ?_
   intro j m c d n
   have p:=d.i64
   refine ld rfl rfl yf rfl c (yl (vl:=(Zn ((xs.length:Int)-1-(k:Int)) x)) rfl rfl rfl (E k x _ _ _ o_ B t) ?_)
   rintro _ q ⟨rfl,a⟩
   refine fK a 9 ?_
   refine ar (e:=(xs.length:Int)-1-((k+1:Nat):Int)) rfl rfl rfl rfl iW (fP a 2 ?_)
   refine tN (?_)
   exact again (k+1) ⟨rfl,rfl,gj rO,trivial⟩ (⟨a,o_⟩) (by show (xs.length-(k+1):Nat)<xs.length-k;omega)
 . refine fP t 8 ?_
   refine iS Tryz.results358 ?_
   obtain rfl:k=xs.length:=by omega
   exact⟨rfl,ym (R:=s 0) t s_⟩
end
section
open Go Go.Sx
theorem Tj(fb nb m:Nat)(ed:Int)(xs:List Nd)(w:World)(hO:Own (Zk fb nb m ed xs) w)(hm:xs.length=m)(hb:m<=1000001)(hI:fZ xs)(i q:Nat)(T:Tr)(hR:gP xs T q)(hT:i∈T.mem)(hn:T.mem.Nodup)(bI:T.mem.length<=1000000)(hq:Out xs q T.mem) :
 CR ya 327 (Zm fb i) w (fun r w' => r = .tuple #[]/\∃ ys a' b', jG xs ys T [] (.nd a' i b') q/\(fJ ys i).flip=false/\fZ ys/\fV (Zk fb nb m ed xs) w w' (Zk fb nb m ed ys)):=by
 have b9:i<m:=by have h7:=hR.qz i hT;omega
 obtain⟨c,a,b,rfl⟩:=Fj hT
 have bH:=At.start hR hn
 have bK:Out xs q (lP c (Tr.nd a i b).mem):=by rw[<-p7];exact hq
 have bE:=acT hR
 have bY:=acS (c:=c) (a:=a) (b:=b) (i:=i)
 have bA:=hI.lQ bE
 have bR:=Fq (m:=m) (fun j hj=>by have:=bE j hj;omega) hb
 refine xU (vs:=(tF fb i)) Tryz.func327 rfl Tryz.ntmps327 rfl ?_
 have bO:=(yq hO).unpack
 refine fR bO 2 ?_
 refine iC bO (fun e aj a7 a8 I=>?_)
 have ak:St _ [ig .i64 Zg 3 ([]),blk e 208 (Zf fb),blk fb 391 (vP fb nb m ed),blk nb 388 (xs.flatMap Nd.cells)] aj:=oQ I 3 1
 have al:=ak
 have am:=al
 refine gD I 19 ?_
 refine lp (α:=Nat×Nat×Value) (fun(k,j,pv)=>[(1,(Za i)),(2,(Zb e)),(4,pv),(5,(Za j))]) (fun(k,j,pv) w1=>St [(w,(Zk fb nb m ed xs).gH)] [ig .i64 pv 3 (gz ((js c i).take k)),blk e 208 (Zf fb),blk fb 391 (vP fb nb m ed),blk nb 388 (xs.flatMap Nd.cells)] w1/\(js c i)[k]? = some j) (fun(k,j,pv)=>c.length+1-k) (0,i,Zg) ⟨rfl,rfl,rfl,gj rO,trivial⟩ (⟨am,rfl⟩) ?_
 rintro⟨k,j,pv⟩ a9 ba hC
 have bU:j<m:=by have h7:=bE j (zd hC.2);omega
 refine fR hC.1 5 ?_
 refine jJ (vs:=(Zd j)) (cs:=(Zd j)) rfl rfl yd gr rfl (by simp[Value.cells]) rfl rfl rfl hC.1 (fun an bb bc bd J=>vQ (k:=.i64) (ys:=gz ((js c i).take k)) (zs:=[(j:Int)]) (LL:=fun f=>[ig .i64 (Zy an) 3 ([(j:Int)]),ig .i64 f 3 ((gz ((js c i).take k))++([(j:Int)])),blk e 208 (Zf fb),blk fb 391 (vP fb nb m ed),blk nb 388 (xs.flatMap Nd.cells)]) 1 rfl rfl rfl yd gr rfl J rfl (kG J (i:=0) rfl) (by simp only[gz,zq,zw,zb,zg];omega) (by simp only[gz,zq,zw,zb,zg];omega) f_ ?_)
 intro f t K be
 have ao:=yg [1,2,3,4] K
 have g:=yg [3,4,1,2] K
 obtain⟨ap,bf⟩:∃ q,C1 xs j=q:=⟨_,rfl⟩
 refine fK ao 8 ?_
 rcases ap with M|N|P
 . skip
   have b8:=VN bH bK hC.2 M
   have bQ:gz ((js c i).take k)++[(j:Int)]=gz (js c i):=by rw[Ka hC.2,BG (by rw[bY.1];omega)]
   refine cl mZ (nr fb nb m ed xs t (g.at (i:=0) rfl) (g.at (i:=1) rfl) oa hb hI j o_ M) ?_
   rintro _ aq ⟨rfl,ar⟩
   have u:=yp g ar
   refine fK u 24 ?_
   refine cl Yc (Vg f aq (yr u (i:=2) rfl)) ?_
   rintro _ au ⟨kb,bW,rfl,bV,bZ⟩
   have Q:=St.NG u bZ bW bV
   have av:=yg [4,1,2,3,0] Q
   have aw:St [(w,(Zk fb nb m ed xs).gH)] (M0 e fb nb m ed (lQ xs (js c i) 0) f (gz (js c i)) kb) au:=by rw[Sy];have h9:=av;rw[bQ]at h9;exact h9
   refine gD Q 3 ?_
   refine rf (α:=Nat) (ps:=[38,39]) (fi:=[]) (ca:=(Zf kb)) (fun z=>(M0 e fb nb m ed (lQ xs (js c i) z) f (gz (js c i)) kb)) (fun z=>z=(js c i).length) aw rfl Yf ?_ ?_
   . intro fn dd l wl rc bL b6
     have ax:=yg [0,2,3,4,1,5,6] b6
     have bC:=yc (zY (iT l rc) e fb nb m ed (lQ xs (js c i) 0)) [jK dd (some []),ig .i64 f 3 (gz (js c i)),blk kb 37 [f]] ax
     have bM:rc.state = .ready:=by rw[bL]
     have b1:rc.pending=none:=by rw[bL]
     have b3:∀ (k:Nat) (x:Int) (bs:List (World×List Nat)) (L:List fT) (w:World),k<(gz (js c i)).length->(gz (js c i))[(gz (js c i)).length-1-k]? = some x->St bs ((fun(z:Nat)=>gm (zY (iT l rc) e fb nb m ed (lQ xs (js c i) z))) k :: L) w->YR ya l (Zn (((gz (js c i)).length:Int)-1-(k:Int)) x) w (fun v w' => v = .bool true/\St bs ((fun(z:Nat)=>gm (zY (iT l rc) e fb nb m ed (lQ xs (js c i) z))) (k+1) :: L) w'):=by
      intro k x bs LT wr bX hx bD
      have bD:=bD.unpack
      obtain⟨j,hj,rfl⟩:=ab7 bX hx
      have bU:j<m:=by have:=bE j (by simpa using zd hj);omega
      have cb:=(bA k).2
      refine wO (vl:=(Zn (((gz (js c i)).length:Int)-1-(k:Int)) j)) 0 bL bD rfl rfl rfl (iO bD 3 ?_)
      refine tN (?_)
      refine xN 0 bD rfl bM rfl ?_
      intro ay R
      have az:=lC R (List.Perm.cons _ (List.Perm.swap _ _ _))
      have aA:=lC az (List.Perm.swap _ _ _)
      have aB:=lC aA (List.Perm.cons _ (List.Perm.cons _ (List.Perm.swap _ _ _)))
      have aC:=lC aB (List.Perm.cons _ (List.Perm.swap _ _ _))
      have S:=yc [_,_] _ aC
      refine fR R 4 ?_
      refine cl Yd (KE fb nb m ed (lQ xs (js c i) k) ay (ye S 0 rfl) oa hb (bA k).1 j o_) ?_
      rintro _ bg ⟨rfl,ht⟩
      have U:=(yk S ht)
      have bh:fZ (kf (lQ xs (js c i) k) j):=(fZ.push (bA k).1 o_).1
      refine fP U 2 ?_
      refine xR 2 U rfl bM b1 rfl ?_
      intro bi aD
      have aE:=lC aD (List.Perm.cons _ (List.Perm.swap _ _ _))
      have aF:=lC aE (List.Perm.swap _ _ _)
      have aG:=lC aF (List.Perm.cons _ (List.Perm.cons _ (List.Perm.swap _ _ _)))
      have aH:=lC aG (List.Perm.cons _ (List.Perm.swap _ _ _))
      have bN:=aH
      rw[<-Sw hj]at bN
      exact⟨_,rfl,rfl,yc [_,_,_,_] _ bN⟩
     refine CR.mono (Vf (fun(z:Nat)=>gm (zY (iT l rc) e fb nb m ed (lQ xs (js c i) z))) l kb f (gz (js c i)) (fun b=>b∉((fun(z:Nat)=>gm (zY (iT l rc) e fb nb m ed (lQ xs (js c i) z))) 0).gH) wl b3 (ye bC 0 rfl) (bC.at (i:=3) rfl) (bC.RC (by simp[iZ,blk,jK])) (St.aej bC (i:=2) (j:=0) rfl bR rfl d_) (fun _ h=>h) (by simp only[gz,zq];omega)) ?_
     rintro _ w9 ⟨-,b7⟩
     have b5:=(yk bC b7)
     have aI:=yg [0,4,1,2,3,5,6] b5
     exact⟨_,by simp[gz],aI⟩
   . rintro z dd bj hC aJ
     have V:=yg [0,1,2,3] aJ
     obtain⟨O0,a0,b0,bP,bT⟩:=adx hR hn hC
     refine Kv tt none V 3 ?_
     refine lp (α:=List Nd×Cx×Tr×Tr) (fun(ys,O,a', b')=>[(1,(Za i)),(2,(Zb e))]) (fun(ys,O,a', b') w1=>St [(w,(Zk fb nb m ed xs).gH)] (zY (jK dd (some [])) e fb nb m ed ys) w1/\jG xs ys (j9 c (.nd a i b)) O (.nd a' i b') q/\(fJ ys i).flip=false/\fZ ys/\ys.length=m) (fun(ys,O,a', b')=>O.length) ((lQ xs (js c i) z),O0,a0,b0) ⟨rfl,rfl,trivial⟩ (⟨V,bP,bT,(bA z).1,by have:=(bA z).2;omega⟩) ?_
     rintro⟨ys,O,a', b'⟩ bl y ⟨bz,hM,bF,F,cc⟩
     refine fR bz 3 ?_
     rcases hM.sides hn hq with ⟨hO,hS⟩|⟨d,p,s2,hO,hS,hU,bG⟩|⟨d,p,s2,d', g2,s3,c2,hO,hS,hU,bG⟩
     . skip
       subst hO
       have A:=yg [2,3,0,1] bz
       refine fK bz 2 ?_
       refine cl mZ (nr fb nb m ed ys y (A.at (i:=0) rfl) (A.at (i:=1) rfl) oa hb F i o_ hS) ?_
       rintro _ bm ⟨rfl,aK⟩
       have W:=yp A aK
       refine fP W 21 ?_
       refine AT 2 W rfl rfl ?_
       intro w8 b4
       exact⟨_,results_none Tryz.results327 _ _ _,_,rfl,rfl,ys,a', b', hM,bF,F,yi (yc [_,_] _ b4)⟩
     . skip
       subst hO
       subst hU
       have B:=yg [2,3,0,1] bz
       refine fK bz 2 ?_
       refine cl mZ (nr fb nb m ed ys y (B.at (i:=0) rfl) (B.at (i:=1) rfl) oa hb F i o_ hS) ?_
       rintro _ aL ⟨rfl,aM⟩
       have n:=yp B aM
       refine fK n 24 ?_
       refine jq (o' := i*9+0) (i:=(i:Int)) rfl rfl rfl yh jk (o9 (show i<(ys).length from om)) o_ (fK n 10 ?_)
       refine cl mZ (nr fb nb m ed ys aL (n.at (i:=0) rfl) (n.at (i:=1) rfl) oa hb F ((fJ ys i).up) (o9 (F.up i om)) bG) ?_
       rintro _ aN ⟨rfl,aO⟩
       have X:=yp n aO
       have Y:=yc [_,_] _ X
       refine fK X 18 ?_
       refine cl Cz (yN fb nb m ed ys aN (ye Y 0 rfl) oa hb F i o_) ?_
       rintro _ bn ⟨rfl,ht⟩
       have Z:=(yk Y ht)
       have aP:fZ (iP ys i):=(fZ.rotate F o_).1
       have bo:(iP ys i).length=m:=(CY F o_).trans o_
       refine fP Z 2 ?_
       refine tN (?_)
       have aQ:=yg [2,3,0,1] Z
       obtain⟨a2,b2,bk,bB⟩:=hM.zig hn o_ bI hq bF
       exact again (iP ys i,[],a2,b2) ⟨rfl,rfl,trivial⟩ (⟨aQ,bk,bB,aP,by have:=bk.kl.len;omega⟩) (by simp only[zb,zg];omega)
     . skip
       subst hO
       subst hU
       have C:=yg [2,3,0,1] bz
       refine fK bz 2 ?_
       refine cl mZ (nr fb nb m ed ys y (C.at (i:=0) rfl) (C.at (i:=1) rfl) oa hb F i o_ hS) ?_
       rintro _ aR ⟨rfl,aS⟩
       have o:=yp C aS
       refine fK o 24 ?_
       refine jq (o' := i*9+0) (i:=(i:Int)) rfl rfl rfl yh jk (o9 (show i<(ys).length from om)) o_ (fK o 10 ?_)
       refine cl mZ (nr fb nb m ed ys aR (o.at (i:=0) rfl) (o.at (i:=1) rfl) oa hb F ((fJ ys i).up) (o9 (F.up i om)) bG) ?_
       rintro _ aa ⟨rfl,aT⟩
       have s:=yp o aT
       refine fK s 17 ?_
       by_cases aU:((sd d:Int):Int)=((sd d' : Int):Int)
       . have ab:=yc [_,_] _ s
         refine fK s 7 ?_
         refine cl Cz (yN fb nb m ed ys aa (ye ab 0 rfl) oa hb F ((fJ ys i).up) (o9 (F.up i om))) ?_
         rintro _ aV ⟨rfl,ht⟩
         have ac:=(yk ab ht)
         have D:fZ (iP ys ((fJ ys i).up)):=(fZ.rotate F (o9 (F.up i om))).1
         have bp:(iP ys ((fJ ys i).up)).length=m:=(CY F (o9 (F.up i om))).trans o_
         have ad:=yc [_,_] _ ac
         refine fK ac 5 ?_
         refine cl Cz (yN fb nb m ed (iP ys ((fJ ys i).up)) aV (ye ad 0 rfl) oa hb D i o_) ?_
         rintro _ bq ⟨rfl,ht⟩
         have ae:=(yk ad ht)
         have aW:fZ (iP (iP ys ((fJ ys i).up)) i):=(fZ.rotate D o_).1
         have br:(iP (iP ys ((fJ ys i).up)) i).length=m:=(CY D o_).trans o_
         refine fP ae 2 ?_
         refine tN (?_)
         have aX:=yg [2,3,0,1] ae
         have bS:=aeD (Int.ofNat.inj aU)
         subst bS
         obtain⟨a2,b2,bk,bB⟩:=hM.ag5 hn o_ bI hq bF
         exact again (iP (iP ys ((fJ ys i).up)) i,c2,a2,b2) ⟨rfl,rfl,trivial⟩ (⟨aX,bk,bB,aW,by have:=bk.kl.len;omega⟩) (by simp only[zb,zg];omega)
       . have af:=yc [_,_] _ s
         refine fK s 7 ?_
         refine cl Cz (yN fb nb m ed ys aa (ye af 0 rfl) oa hb F i o_) ?_
         rintro _ aY ⟨rfl,ht⟩
         have ag:=(yk af ht)
         have E:fZ (iP ys i):=(fZ.rotate F o_).1
         have bt:(iP ys i).length=m:=(CY F o_).trans o_
         have ah:=yc [_,_] _ ag
         refine fK ag 5 ?_
         refine cl Cz (yN fb nb m ed (iP ys i) aY (ye ah 0 rfl) oa hb E i o_) ?_
         rintro _ bu ⟨rfl,ht⟩
         have ai:=(yk ah ht)
         have aZ:fZ (iP (iP ys i) i):=(fZ.rotate E o_).1
         have bv:(iP (iP ys i) i).length=m:=(CY E o_).trans o_
         refine fP ai 2 ?_
         refine tN (?_)
         have a1:=yg [2,3,0,1] ai
         obtain⟨a2,b2,bk,bB⟩:=hM.ag4 hn o_ bI hq bF
         exact again (iP (iP ys i) i,c2,a2,b2) ⟨rfl,rfl,trivial⟩ (⟨a1,bk,bB,aZ,by have:=bk.kl.len;omega⟩) (by simp only[zb,zg];omega)
 . skip
   have bJ:=Oi bH bK hC.2 N
   refine cl mZ (nr fb nb m ed xs t (g.at (i:=0) rfl) (g.at (i:=1) rfl) oa hb hI j o_ N) ?_
   rintro _ bw ⟨rfl,a3⟩
   have G:=yp g a3
   refine fK G 22 ?_
   refine jq (o' := j*9+0) (i:=(j:Int)) rfl rfl rfl yh jk om o_ (fP G 5 ?_)
   refine tN (?_)
   have a4:=yg [2,3,0,1] G
   exact again ((k+1),(fJ xs j).up,f) ⟨rfl,rfl,rfl,gj rO,trivial⟩ (⟨by rw[<-Ka hC.2];exact a4,bJ.2⟩) (by show (c.length+1-(k+1):Nat)<c.length+1-k;omega)
 . skip
   have bJ:=Oi bH bK hC.2 P
   refine cl mZ (nr fb nb m ed xs t (g.at (i:=0) rfl) (g.at (i:=1) rfl) oa hb hI j o_ P) ?_
   rintro _ bx ⟨rfl,a5⟩
   have H:=yp g a5
   refine fK H 22 ?_
   refine jq (o' := j*9+0) (i:=(j:Int)) rfl rfl rfl yh jk om o_ (fP H 5 ?_)
   refine tN (?_)
   have a6:=yg [2,3,0,1] H
   exact again ((k+1),(fJ xs j).up,f) ⟨rfl,rfl,rfl,gj rO,trivial⟩ (⟨by rw[<-Ka hC.2];exact a6,bJ.2⟩) (by show (c.length+1-(k+1):Nat)<c.length+1-k;omega)
end
end Go.Proofs.YtedjjkcihkmjgaaGreatDoor
