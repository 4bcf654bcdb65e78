/- What the functions that the statements reach do: walks through the code of the program and of the references, one theorem a function; under what is said of its arguments. -/
import Derived.Test.YtjhkmopeagfnlaaGreatDoorFc
import Derived.Test.YtjhkmopeagfnlaaGreatDoorVa
import Derived.Test.YtjhkmopeagfnlaaGreatDoorFa
import Derived.Ground.Names2Prog
import Derived.Shelf.Slices.Delete
import Derived.Test.YtjhkmopeagfnlaaGreatDoorFd
import Derived.Test.YtjhkmopeagfnlaaGreatDoorFb
set_option linter.unusedVariables false
set_option linter.unusedSimpArgs false
set_option maxRecDepth 100000
set_option maxHeartbeats 4000000
namespace Go.Proofs.YtjhkmopeagfnlaaGreatDoor
section
open Go Go.Sx
theorem Sp(fQ fN ub:Nat)(s:fW)(w:World)(hO:Own (fW.R fQ fN ub s) w)(x:Lv)(hc:s.gH fQ fN x.u x.v=0) :
 CR ya 65 (BU ub x) w (fun r w' => r = .int .i64 0/\gp (fW.R fQ fN ub s) w w' (fW.R fQ fN ub s)):=by
 have h:=Gs fQ fN ub s w hO x
 rw[hc]at h
 exact h
theorem Da(tb ab:Nat)(t:TW)(w:World)(hO:Own (TW.R tb ab t) w)(id:Int)(hr:t.mem id\/t.A.used<t.A.n)(hid:iC .u64 id) :
 CR ya 113 (p7 tb id) w (fun r w' => ∃ (z:Nat) (b:Bool) (t2:TW),r = .tuple #[.int .i64 (z:Int),.bool b,.int .i64 0]/\TW.Jx t t2 id/\gp (TW.R tb ab t) w w' (TW.R tb ab t2)):=by
 by_cases hm:t.mem id
 . obtain⟨i,hi,hx⟩:=hm
   exact CR.mono (VD tb ab t w hO id i hi hx) fun r w' ⟨h1,h2⟩=>⟨i,false,t,h1,⟨fun x=>⟨.inl,fun h=>h.elim (fun h=>h) (fun h=>h▸⟨i,hi,hx⟩)⟩,rfl,by rw[TW.xX ⟨i,hi,hx⟩];rfl⟩,h2⟩
 . exact CR.mono (Uz tb ab t w hO id hm hid (hr.resolve_left hm)) fun r w' ⟨i,t2,h1,⟨h2,h3,h4⟩,h5⟩=>⟨i,true,t2,h1,⟨h2,h3,by rw[TW.uC hm];exact h4⟩,h5⟩
theorem KU(fQ fN ub:Nat)(s:fW)(w:World)(hO:Own (fW.R fQ fN ub s) w)(x:Lv)(hxo:x.ok)(hc:s.gH fQ fN x.u x.v=0)(hl1:s.last<=9000000000000000000) :
 CR ya 70 #[(Zb ub),(sU x),(Za x.exp)] w (fun r w' => ∃ (i:Nat) (s2:fW),r = .tuple #[(Fu i (s.last+1) x),.int .i64 0]/\((∀ y,s2.has y↔s.has y\/y=⟨(i:Int),s.last+1,x.u,x.v,x.wt,x.t,x.exp⟩)/\s2.last=s.last+1)/\gp (fW.R fQ fN ub s) w w' (fW.R fQ fN ub s2)):=by
 have htu:s.t.A.used<=s.t.A.n:=hO.fact.tok.ul
 have hUn:=hO.fact.n
 have hUt:=hO.fact.tn
 have hUe:=hO.fact.en
 have hUv:=hO.fact.vn
 have hAu:s.A.used<=s.A.begun:=by have h7:=hO.fact.lH.used;omega
 have hAl:=hO.fact.lH.le
 have hAw1:s.aw.A.used=s.A.used:=rfl
 have hAw2:s.aw.A.n=s.A.n:=rfl
 have hAw3:s.aw.A.begun=s.A.begun:=rfl
 have hla:(s.live++[(⟨0,0,0,0,0,0,0⟩:Lv)]).length=s.live.length+1:=by simp
 have hc3:=fW.MO hc
 have hl0:=hO.fact.sv
 have hll:=hO.fact.ll
 have hnl2:∀ id,(fU s.im id).2.length<=65536:=fun id=>hO.fact.Je id
 refine en Tryz.func70 Tryz.ntmps70 ?_
 have hst0:=Own.of hO.un
 have hU:s.ok fQ fN:=hO.fact
 refine gh hst0 2 ?_
 refine bx (v:=(sU x)) (cs:=(Zo x)) rfl rfl rfl hst0 (fun H a7 a8 a9 av=>al (cs:=Zu) rfl jq rfl av ?_)
 intro I ax ba bb ak
 have ay:=ym [2,3,4,5,6,7,0,1] ak
 have am:=yx (p:=s.ok fQ fN) (yc [_,_,_,_,_,_] _ ay) hU
 refine fP ak 8 ?_
 refine cl IX (Sp fQ fN ub s ax (yd am (i:=0) rfl) x hc) ?_
 rintro _ az ⟨rfl,ht⟩
 have aA:=yt 0 am ht
 have X:=(jV aA).unpack
 refine fP X 18 ?_
 refine cl NT (LV s.iN s.aw az (yd X (i:=4) rfl) o_) ?_
 rintro _ bc ⟨b,B,rfl,Y,ht⟩
 have an:=yt 4 X ht
 have hA9:=(y0 an (i:=4) rfl:B.A.ok)
 have hib:b<=s.live.length:=by rcases Y.oG with h9|h9<;>omega
 have hib2:b<=65536:=by omega
 refine vp an 30 fun bd aB=>?_
 refine oE (Γ:=Nat) mixed [[],[],[1],[1,2],[1,2,3],[],[],[0,1,2,3,4,5,6],[],[0,1,2,3,4,5,6,7,8]] [8,9] d_ [fun _=>(Za ((b:Nat):Int)),fun _=>(Zb ub),fun _=>(Zb ub),fun _=>(rJ ub),fun _=>(Zd (s.last+1)),fun _=>(sU x),fun _=>(Za x.exp),fun _=>(Fu ((b:Nat):Int) (s.last+1) x),fun j=>(Zb j),fun _=>undef] [(fun j=>[blk ub 101 (rH fQ fN (s.last+1) s (some s.mb)),fV Lv.cells s.lv 42 7 s.live,gR s.mb .u64 p_ s.im,iM 3 s.im,(AW.R s.iN B),(Z6 s),blk I 42 Zu,blk H 40 (Zo x)],fun _ _=>True),(fun j=>[blk j 42 Zu,blk ub 101 (rH fQ fN (s.last+1) s (some s.mb)),fV Lv.cells s.lv 42 7 s.live,gR s.mb .u64 p_ s.im,iM 3 s.im,(AW.R s.iN B),(Z6 s),blk I 42 Zu,blk H 40 (Zo x)],fun _ _=>True),(fun j=>(QU j ((b:Nat):Int) (s.last+1) x ub fQ fN s (some s.mb) B I H),fun _ _=>True)] 0 _ rfl aB (fun _ _=>trivial) ?_ (fun j=>rfl) rfl ?_
 . skip
   refine gC (fun j _=>iD (v:=(Za ((b:Nat):Int))) rfl) ?_
   refine gC (fun j _=>iD (v:=(Zb ub)) rfl) ?_
   refine gC (fun j _=>jY rfl) ?_
   refine gC (fun j _=>jL (o' := 2) rfl qB rfl iK rfl) ?_
   refine nZ rfl rfl rfl rfl rfl (fun j wq hM hF=>qv rfl rfl (gZ rfl yg rfl (yo hM (i:=0) rfl rfl))) (fun j wq hM hF=>qv rfl rfl (gZ rfl yg rfl (yo hM (i:=1) rfl rfl))) (nZ rfl rfl rfl rfl rfl (fun j wq hM hF=>qv rfl rfl (uF (cs:=(Zo x)) rfl ry rfl rm rfl (mW hM (i:=7) (o:=0) (vs:=(Zo x)) rfl rfl))) (fun j wq hM hF=>qv rfl rfl (uF (cs:=(Zo x)) rfl ry rfl rm rfl (mW hM (i:=8) (o:=0) (vs:=(Zo x)) rfl rfl))) (gC (fun j _=>iD (v:=(Za x.exp)) rfl) ?_))
   refine gC (fun j _=>uI (pvs:=[(0,(Za ((b:Nat):Int))),(1,(Zd (s.last+1))),(2,(sU x)),(3,(Za x.exp))]) (v:=.agg #[(Za ((b:Nat):Int)),(Zd (s.last+1)),(Zd x.u),(Zd x.v),(Za x.wt),(Za x.t),(Za x.exp)]) rfl (kV [(0,(Zf ((b:Nat):Int))),(1,(Zt (s.last+1))),(2,(Zo x)),(3,(Zf x.exp))] jq I9 rfl ⟨rfl,rfl,rfl,rfl,rfl,rfl,rfl,rfl,trivial⟩ rfl)) ?_
   refine kg rfl rfl rfl rfl (fun j wq hM hF=>Jg (cs:=Zu) rfl jq rfl hM (fun aC _ h=>⟨aC,⟨h,trivial⟩,rfl,fS rfl (fS rfl (fS rfl (fS rfl (fS rfl (fS rfl (fS rfl (fS rfl (fS trivial (fS trivial (kM))))))))))⟩)) (kg rfl rfl rfl rfl (fun j wq hM hF=>ni (L' := (QU j ((b:Nat):Int) (s.last+1) x ub fQ fN s (some s.mb) B I H)) 0 rfl rfl rfl rfl jq rfl rfl hM rfl rfl rfl rfl (fun _ h=>⟨j,⟨h,trivial⟩,rfl,jR.refl _ _ _⟩)) ?_)
   exact og
 rintro j be O -
 refine kT tt none O 3 ?_
 refine sO 3 (iL (gh O 7 ?_))
 refine kZ (m:=s.live.length) 2 rfl rfl y9 O rfl (fP O 1 ?_)
 by_cases bf:((s.live.length:Int):Int)<=(((b:Nat):Int):Int)
 . refine fP O 13 ?_
   refine lX (pvs:=[]) (v:=.agg JL) rfl rfl (kV [] jq I9 rfl trivial rfl) (nk (vs:=[(.agg JL)]) (cs:=Zu) rfl rfl y9 jq rfl (by simp[Value.cells]) rfl rfl rfl O (fun aD bg bh bi ao=>ri (cf:=Lv.cells) (ys:=s.live) (zs:=[(⟨0,0,0,0,0,0,0⟩:Lv)]) (LL:=fun J=>[row (Zx aD) 42 7 1 (Zu),blk j 42 (Z9 ((b:Nat):Int) (s.last+1) x),blk ub 101 (rH fQ fN (s.last+1) s (some s.mb)),fV Lv.cells J 42 7 (s.live++[(⟨0,0,0,0,0,0,0⟩:Lv)]),gR s.mb .u64 p_ s.im,iM 3 s.im,(AW.R s.iN B),(Z6 s),blk I 42 Zu,blk H 40 (Zo x)]) 3 rfl rfl rfl y9 jq rfl d_ ao rfl (oU ao (i:=0) rfl) (fun x hx=>zz.1 (show List.all _ _=true from rfl) x hx) (by simp only[zw,zp,zx,maxLen];omega) (by simp only[zw,zp,zx,maxLen];omega) f_ ?_))
   intro J bj aE bl
   have W:=ym [1,2,3,4,5,6,7,8,9] aE
   refine fP W 2 ?_
   refine mD (L' := (Qw j ((b:Nat):Int) (s.last+1) x ub fQ fN s J (some s.mb) (s.live++[(⟨0,0,0,0,0,0,0⟩:Lv)]) B I H)) 1 rfl rfl rfl (cells_one (mg W (i:=2) rfl)) EA rfl (oe (mg W (i:=2) rfl) tC) W rfl rfl rfl rfl (fun bm S=>gf S 2 ?_)
   refine tN (?_)
   refine iL (gh S 7 ?_)
   refine kZ (m:=(s.live++[(⟨0,0,0,0,0,0,0⟩:Lv)]).length) 2 rfl rfl y9 S rfl (fP S 1 ?_)
   refine cmp rfl rfl rfl (It (by simp only[zw,zp,zx];omega)) (gX S 9 ?_)
   refine jD S 7 ?_
   intro wq hM
   refine v8 (f:=(fun _=>(⟨((b:Nat):Int),s.last+1,x.u,x.v,x.wt,x.t,x.exp⟩:Lv))) (L' := (Qw j ((b:Nat):Int) (s.last+1) x ub fQ fN s J (some s.mb) (fR (s.live++[(⟨0,0,0,0,0,0,0⟩:Lv)]) b (fun _=>(⟨((b:Nat):Int),s.last+1,x.u,x.v,x.wt,x.t,x.exp⟩:Lv))) B I H)) 2 rfl rfl rfl rfl jq rfl rfl hM rfl f_ om rfl rfl rfl (fun _ h=>(jC h (fun aF M=>?_)))
   refine oZ tt none M 5 ?_
   refine ld rfl rfl yg rfl (yo M (i:=8) rfl rfl) (fP M 1 ?_)
   refine ld rfl rfl yg rfl (yo M (i:=8) rfl rfl) (lX (pvs:=[(0,(Zd x.u)),(1,(Zd x.v))]) (v:=.agg (Ar x.u x.v)) rfl rfl (Bc [(0,(Zt x.u)),(1,(Zt x.v))] BI oS iK rfl ⟨rfl,rfl,rfl,rfl,trivial⟩ rfl s_) (gX M 4 ?_))
   refine sO 3 (iL (gh M 13 ?_))
   refine mF (i:=0) rfl rfl rfl oS yg rfl iK d_ rfl (fP M 10 ?_)
   refine cl DG (Da s.tb s.ab s.t aF (yd M (i:=6) rfl) x.u (TW.OJ o_) hxo.u) ?_
   rintro _ bn ⟨bo,bp,P,rfl,Z,ht⟩
   have aa:=yt 6 M ht
   have hT9:=(y0 aa (i:=6) rfl:P.ok)
   refine gX aa 2 ?_
   have aG:=ym [4,0,1,2,3,5,6,7,8] aa
   have aH:=xk x.u aG
   refine oE (Γ:=Nat×Value) mixed [[],[0],[0,1],[0,1,2],[],[],[5],[5,6],[5,6,7],[],[5,6,7,8,9],[],[11],[5,6,7,8,9,10,11,12],[0,1,2,3,4,5,6,7,8,9,10,11,12,13]] [12,13,14] d_ [fun _=>(Zb ub),fun _=>(Zb ub),fun _=>(Z0 ub),fun _=>(.map (some s.mb)),fun _=>(Zd x.u),fun _=>(Zb ub),fun _=>(Zb ub),fun _=>(Z0 ub),fun _=>(.map (some s.mb)),fun _=>(Zd x.u),fun _=>((fU s.im x.u).1),fun _=>(Za ((b:Nat):Int)),fun(C,d)=>(Zx C),fun(C,d)=>d,fun _=>undef] [(fun(C,d)=>[iA .i64 ((fU s.im x.u).1) 3 (gx (fU s.im x.u).2),iM 3 (gK s.im x.u),blk j 42 (Z9 ((b:Nat):Int) (s.last+1) x),blk ub 101 (wK fQ fN (s.last+1) s J (some s.mb)),fV Lv.cells J 42 7 (fR (s.live++[(⟨0,0,0,0,0,0,0⟩:Lv)]) b (fun _=>(⟨((b:Nat):Int),s.last+1,x.u,x.v,x.wt,x.t,x.exp⟩:Lv))),gR s.mb .u64 p_ s.im,(AW.R s.iN B),(vF s P),blk I 42 Zu,blk H 40 (Zo x)],fun _ _=>True),(fun(C,d)=>(QV C ([((b:Nat):Int)]) ((fU s.im x.u).1) (gx (fU s.im x.u).2) (gK s.im x.u) j ((b:Nat):Int) (s.last+1) x ub fQ fN s J (some s.mb) (fR (s.live++[(⟨0,0,0,0,0,0,0⟩:Lv)]) b (fun _=>(⟨((b:Nat):Int),s.last+1,x.u,x.v,x.wt,x.t,x.exp⟩:Lv))) B P I H),fun _ _=>True),(fun(C,d)=>(QV C ([((b:Nat):Int)]) d ((gx (fU s.im x.u).2)++([((b:Nat):Int)])) (gK s.im x.u) j ((b:Nat):Int) (s.last+1) x ub fQ fN s J (some s.mb) (fR (s.live++[(⟨0,0,0,0,0,0,0⟩:Lv)]) b (fun _=>(⟨((b:Nat):Int),s.last+1,x.u,x.v,x.wt,x.t,x.exp⟩:Lv))) B P I H),fun _ _=>True),(fun(C,d)=>(Au C ([((b:Nat):Int)]) d ((gx (fU s.im x.u).2)++([((b:Nat):Int)])) (gK s.im x.u) j ((b:Nat):Int) (s.last+1) x ub fQ fN s J (some s.mb) (fR (s.live++[(⟨0,0,0,0,0,0,0⟩:Lv)]) b (fun _=>(⟨((b:Nat):Int),s.last+1,x.u,x.v,x.wt,x.t,x.exp⟩:Lv))) (gm s.im x.u (d,(fU s.im x.u).2++[b])) B P I H),fun _ _=>True)] (0,Zk) (fun(C,d)=>(99,d) :: (98,(Zx C)) :: (97,(Za ((b:Nat):Int))) :: (96,((fU s.im x.u).1)) :: (95,(Zd x.u)) :: (94,(.map (some s.mb))) :: (93,(Z0 ub)) :: (92,(Zb ub)) :: (91,(Zb ub)) :: (90,(Zd x.u)) :: (89,(.map (some s.mb))) :: (88,(Z0 ub)) :: (87,(Zb ub)) :: (86,(Zb ub)) :: _) rfl aH (fun _ _=>trivial) ?_ (fun(C,d)=>rfl) rfl ?_
   . skip
     refine gC (fun(C,d) _=>iD (v:=(Zb ub)) rfl) ?_
     refine gC (fun(C,d) _=>jY rfl) ?_
     refine gC (fun(C,d) _=>jL (o' := 6) rfl qB rfl qx rfl) ?_
     refine Bl rfl rfl rfl rfl rfl rfl (fun(C,d) wq hM hF=>qv rfl rfl (gZ rfl yn rfl (yo hM (i:=3) rfl rfl))) (fun(C,d) wq hM hF=>qv rfl rfl (gZ rfl yn rfl (yo hM (i:=4) rfl rfl))) (fun(C,d) wq hM hF=>qv rfl rfl (gZ rfl yn rfl (yo hM (i:=4) rfl rfl))) (gC (fun(C,d) _=>iD (v:=(Zd x.u)) rfl) ?_)
     refine gC (fun(C,d) _=>iD (v:=(Zb ub)) rfl) ?_
     refine gC (fun(C,d) _=>jY rfl) ?_
     refine gC (fun(C,d) _=>jL (o' := 6) rfl qB rfl qx rfl) ?_
     refine nZ rfl rfl rfl rfl rfl (fun(C,d) wq hM hF=>qv rfl rfl (gZ rfl yn rfl (yo hM (i:=3) rfl rfl))) (fun(C,d) wq hM hF=>qv rfl rfl (gZ rfl yn rfl (yo hM (i:=4) rfl rfl))) (gC (fun(C,d) _=>iD (v:=(Zd x.u)) rfl) ?_)
     refine nZ rfl rfl rfl rfl rfl (fun(C,d) wq hM hF=>qv rfl rfl (sx (a:=x.u) (mm:=s.im) (enc:=p_) (k:=.u64) 5 rfl rfl yn yg nH rfl hM rfl)) (fun(C,d) wq hM hF=>qv rfl rfl (sx (a:=x.u) (mm:=s.im) (enc:=p_) (k:=.u64) 6 rfl rfl yn yg nH rfl hM rfl)) (gC (fun(C,d) _=>iD (v:=(Za ((b:Nat):Int))) rfl) ?_)
     refine kg rfl rfl rfl rfl (fun(C,d) wq hM hF=>Bq (vs:=(Zf ((b:Nat):Int))) (cs:=(Zf ((b:Nat):Int))) rfl rfl yh gq rfl (by simp[Value.cells]) rfl rfl rfl hM (fun aI _ h=>⟨(aI,d),⟨h,trivial⟩,rfl,fS rfl (fS rfl (fS rfl (fS rfl (fS rfl (fS rfl (fS rfl (fS rfl (fS rfl (fS rfl (fS rfl (fS rfl (fS trivial (fS trivial (fS trivial (kM)))))))))))))))⟩)) (kg rfl rfl rfl rfl (fun(C,d) wq hM hF=>DZ (k:=.i64) (ys:=gx (fU s.im x.u).2) (zs:=[((b:Nat):Int)]) 1 rfl rfl rfl yh gq rfl hM rfl (oU hM (i:=0) rfl) (by simp only[zw,zp,zx,gx,zr,maxLen];have h7:=hnl2 x.u;have h8:=hnl2 x.v;first|omega|(rw[rR hc3.1];omega)) (by simp only[zw,zp,zx,gx,zr,maxLen];have h7:=hnl2 x.u;have h8:=hnl2 x.v;first|omega|(rw[rR hc3.1];omega)) (fun aJ _ h=>⟨(C,aJ),⟨h,trivial⟩,rfl,fS rfl (fS rfl (fS rfl (fS rfl (fS rfl (fS rfl (fS rfl (fS rfl (fS rfl (fS rfl (fS rfl (fS rfl (fS rfl (fS trivial (fS trivial (kM)))))))))))))))⟩)) (kg rfl rfl rfl rfl (fun(C,d) wq hM hF=>wj (a:=x.u) (c:=(d,(fU s.im x.u).2++[b])) (mm:=s.im) (enc:=p_) (k:=.u64) (L' := (Au C ([((b:Nat):Int)]) d ((gx (fU s.im x.u).2)++([((b:Nat):Int)])) (gK s.im x.u) j ((b:Nat):Int) (s.last+1) x ub fQ fN s J (some s.mb) (fR (s.live++[(⟨0,0,0,0,0,0,0⟩:Lv)]) b (fun _=>(⟨((b:Nat):Int),s.last+1,x.u,x.v,x.wt,x.t,x.exp⟩:Lv))) (gm s.im x.u (d,(fU s.im x.u).2++[b])) B P I H)) 6 rfl rfl rfl rfl yn yg hM rfl rfl (fun _ h=>⟨(C,d),⟨h,trivial⟩,rfl,jR.refl _ _ _⟩)) ?_))
     exact og
   rintro⟨C,d⟩ ap aK -
   have aL:=ym [1,2,3,4,5,6,7,8,9,10] aK
   have U:St _ (Qg (gm s.im x.u (d,(fU s.im x.u).2++[b])) j ((b:Nat):Int) (s.last+1) x ub fQ fN s J (some s.mb) (fR (s.live++[(⟨0,0,0,0,0,0,0⟩:Lv)]) b (fun _=>(⟨((b:Nat):Int),s.last+1,x.u,x.v,x.wt,x.t,x.exp⟩:Lv))) B P I H) ap:=xd (by have h9:=aL;rw[<-CY]at h9;exact h9)
   refine jE tt none U 6 ?_
   refine tN (?_)
   refine iL (gh U 13 ?_)
   refine mF (i:=1) rfl rfl rfl oS yg rfl iK d_ rfl (fP U 10 ?_)
   refine cl DG (Da s.tb s.ab P ap (yd U (i:=6) rfl) x.v (Z.room o_) hxo.v) ?_
   rintro _ bq ⟨br,bs,K,rfl,aq,ht⟩
   have ac:=yt 6 U ht
   have hT9:=(y0 ac (i:=6) rfl:K.ok)
   refine gX ac 2 ?_
   have aM:=xk x.v ac
   refine oE (Γ:=Nat×Value) mixed [[],[0],[0,1],[0,1,2],[],[],[5],[5,6],[5,6,7],[],[5,6,7,8,9],[],[11],[5,6,7,8,9,10,11,12],[0,1,2,3,4,5,6,7,8,9,10,11,12,13]] [12,13,14] d_ [fun _=>(Zb ub),fun _=>(Zb ub),fun _=>(Z0 ub),fun _=>(.map (some s.mb)),fun _=>(Zd x.v),fun _=>(Zb ub),fun _=>(Zb ub),fun _=>(Z0 ub),fun _=>(.map (some s.mb)),fun _=>(Zd x.v),fun _=>((fU (gm s.im x.u (d,(fU s.im x.u).2++[b])) x.v).1),fun _=>(Za ((b:Nat):Int)),fun(D,l)=>(Zx D),fun(D,l)=>l,fun _=>undef] [(fun(D,l)=>[iA .i64 ((fU (gm s.im x.u (d,(fU s.im x.u).2++[b])) x.v).1) 3 (gx (fU (gm s.im x.u (d,(fU s.im x.u).2++[b])) x.v).2),iM 3 (gK (gm s.im x.u (d,(fU s.im x.u).2++[b])) x.v),blk j 42 (Z9 ((b:Nat):Int) (s.last+1) x),blk ub 101 (wK fQ fN (s.last+1) s J (some s.mb)),fV Lv.cells J 42 7 (fR (s.live++[(⟨0,0,0,0,0,0,0⟩:Lv)]) b (fun _=>(⟨((b:Nat):Int),s.last+1,x.u,x.v,x.wt,x.t,x.exp⟩:Lv))),gR s.mb .u64 p_ (gm s.im x.u (d,(fU s.im x.u).2++[b])),(AW.R s.iN B),(vF s K),blk I 42 Zu,blk H 40 (Zo x)],fun _ _=>True),(fun(D,l)=>(Au D ([((b:Nat):Int)]) ((fU (gm s.im x.u (d,(fU s.im x.u).2++[b])) x.v).1) (gx (fU (gm s.im x.u (d,(fU s.im x.u).2++[b])) x.v).2) (gK (gm s.im x.u (d,(fU s.im x.u).2++[b])) x.v) j ((b:Nat):Int) (s.last+1) x ub fQ fN s J (some s.mb) (fR (s.live++[(⟨0,0,0,0,0,0,0⟩:Lv)]) b (fun _=>(⟨((b:Nat):Int),s.last+1,x.u,x.v,x.wt,x.t,x.exp⟩:Lv))) (gm s.im x.u (d,(fU s.im x.u).2++[b])) B K I H),fun _ _=>True),(fun(D,l)=>(Au D ([((b:Nat):Int)]) l ((gx (fU (gm s.im x.u (d,(fU s.im x.u).2++[b])) x.v).2)++([((b:Nat):Int)])) (gK (gm s.im x.u (d,(fU s.im x.u).2++[b])) x.v) j ((b:Nat):Int) (s.last+1) x ub fQ fN s J (some s.mb) (fR (s.live++[(⟨0,0,0,0,0,0,0⟩:Lv)]) b (fun _=>(⟨((b:Nat):Int),s.last+1,x.u,x.v,x.wt,x.t,x.exp⟩:Lv))) (gm s.im x.u (d,(fU s.im x.u).2++[b])) B K I H),fun _ _=>True),(fun(D,l)=>(Au D ([((b:Nat):Int)]) l ((gx (fU (gm s.im x.u (d,(fU s.im x.u).2++[b])) x.v).2)++([((b:Nat):Int)])) (gK (gm s.im x.u (d,(fU s.im x.u).2++[b])) x.v) j ((b:Nat):Int) (s.last+1) x ub fQ fN s J (some s.mb) (fR (s.live++[(⟨0,0,0,0,0,0,0⟩:Lv)]) b (fun _=>(⟨((b:Nat):Int),s.last+1,x.u,x.v,x.wt,x.t,x.exp⟩:Lv))) (gm (gm s.im x.u (d,(fU s.im x.u).2++[b])) x.v (l,(fU (gm s.im x.u (d,(fU s.im x.u).2++[b])) x.v).2++[b])) B K I H),fun _ _=>True)] (0,Zk) (fun(D,l)=>(99,l) :: (98,(Zx D)) :: (97,(Za ((b:Nat):Int))) :: (96,((fU (gm s.im x.u (d,(fU s.im x.u).2++[b])) x.v).1)) :: (95,(Zd x.v)) :: (94,(.map (some s.mb))) :: (93,(Z0 ub)) :: (92,(Zb ub)) :: (91,(Zb ub)) :: (90,(Zd x.v)) :: (89,(.map (some s.mb))) :: (88,(Z0 ub)) :: (87,(Zb ub)) :: (86,(Zb ub)) :: _) rfl aM (fun _ _=>trivial) ?_ (fun(D,l)=>rfl) rfl ?_
   . skip
     refine gC (fun(D,l) _=>iD (v:=(Zb ub)) rfl) ?_
     refine gC (fun(D,l) _=>jY rfl) ?_
     refine gC (fun(D,l) _=>jL (o' := 6) rfl qB rfl qx rfl) ?_
     refine Bl rfl rfl rfl rfl rfl rfl (fun(D,l) wq hM hF=>qv rfl rfl (gZ rfl yn rfl (yo hM (i:=3) rfl rfl))) (fun(D,l) wq hM hF=>qv rfl rfl (gZ rfl yn rfl (yo hM (i:=4) rfl rfl))) (fun(D,l) wq hM hF=>qv rfl rfl (gZ rfl yn rfl (yo hM (i:=4) rfl rfl))) (gC (fun(D,l) _=>iD (v:=(Zd x.v)) rfl) ?_)
     refine gC (fun(D,l) _=>iD (v:=(Zb ub)) rfl) ?_
     refine gC (fun(D,l) _=>jY rfl) ?_
     refine gC (fun(D,l) _=>jL (o' := 6) rfl qB rfl qx rfl) ?_
     refine nZ rfl rfl rfl rfl rfl (fun(D,l) wq hM hF=>qv rfl rfl (gZ rfl yn rfl (yo hM (i:=3) rfl rfl))) (fun(D,l) wq hM hF=>qv rfl rfl (gZ rfl yn rfl (yo hM (i:=4) rfl rfl))) (gC (fun(D,l) _=>iD (v:=(Zd x.v)) rfl) ?_)
     refine nZ rfl rfl rfl rfl rfl (fun(D,l) wq hM hF=>qv rfl rfl (sx (a:=x.v) (mm:=(gm s.im x.u (d,(fU s.im x.u).2++[b]))) (enc:=p_) (k:=.u64) 5 rfl rfl yn yg nH rfl hM rfl)) (fun(D,l) wq hM hF=>qv rfl rfl (sx (a:=x.v) (mm:=(gm s.im x.u (d,(fU s.im x.u).2++[b]))) (enc:=p_) (k:=.u64) 6 rfl rfl yn yg nH rfl hM rfl)) (gC (fun(D,l) _=>iD (v:=(Za ((b:Nat):Int))) rfl) ?_)
     refine kg rfl rfl rfl rfl (fun(D,l) wq hM hF=>Bq (vs:=(Zf ((b:Nat):Int))) (cs:=(Zf ((b:Nat):Int))) rfl rfl yh gq rfl (by simp[Value.cells]) rfl rfl rfl hM (fun aN _ h=>⟨(aN,l),⟨h,trivial⟩,rfl,fS rfl (fS rfl (fS rfl (fS rfl (fS rfl (fS rfl (fS rfl (fS rfl (fS rfl (fS rfl (fS rfl (fS rfl (fS trivial (fS trivial (fS trivial (kM)))))))))))))))⟩)) (kg rfl rfl rfl rfl (fun(D,l) wq hM hF=>DZ (k:=.i64) (ys:=gx (fU (gm s.im x.u (d,(fU s.im x.u).2++[b])) x.v).2) (zs:=[((b:Nat):Int)]) 1 rfl rfl rfl yh gq rfl hM rfl (oU hM (i:=0) rfl) (by simp only[zw,zp,zx,gx,zr,maxLen];have h7:=hnl2 x.u;have h8:=hnl2 x.v;first|omega|(rw[rR hc3.1];omega)) (by simp only[zw,zp,zx,gx,zr,maxLen];have h7:=hnl2 x.u;have h8:=hnl2 x.v;first|omega|(rw[rR hc3.1];omega)) (fun aO _ h=>⟨(D,aO),⟨h,trivial⟩,rfl,fS rfl (fS rfl (fS rfl (fS rfl (fS rfl (fS rfl (fS rfl (fS rfl (fS rfl (fS rfl (fS rfl (fS rfl (fS rfl (fS trivial (fS trivial (kM)))))))))))))))⟩)) (kg rfl rfl rfl rfl (fun(D,l) wq hM hF=>wj (a:=x.v) (c:=(l,(fU (gm s.im x.u (d,(fU s.im x.u).2++[b])) x.v).2++[b])) (mm:=(gm s.im x.u (d,(fU s.im x.u).2++[b]))) (enc:=p_) (k:=.u64) (L' := (Au D ([((b:Nat):Int)]) l ((gx (fU (gm s.im x.u (d,(fU s.im x.u).2++[b])) x.v).2)++([((b:Nat):Int)])) (gK (gm s.im x.u (d,(fU s.im x.u).2++[b])) x.v) j ((b:Nat):Int) (s.last+1) x ub fQ fN s J (some s.mb) (fR (s.live++[(⟨0,0,0,0,0,0,0⟩:Lv)]) b (fun _=>(⟨((b:Nat):Int),s.last+1,x.u,x.v,x.wt,x.t,x.exp⟩:Lv))) (gm (gm s.im x.u (d,(fU s.im x.u).2++[b])) x.v (l,(fU (gm s.im x.u (d,(fU s.im x.u).2++[b])) x.v).2++[b])) B K I H)) 6 rfl rfl rfl rfl yn yg hM rfl rfl (fun _ h=>⟨(D,l),⟨h,trivial⟩,rfl,jR.refl _ _ _⟩)) ?_))
     exact og
   rintro⟨D,l⟩ aP aQ -
   have aR:=ym [1,2,3,4,5,6,7,8,9,10] aQ
   have ad:St _ (Qg (gm (gm s.im x.u (d,(fU s.im x.u).2++[b])) x.v (l,(fU (gm s.im x.u (d,(fU s.im x.u).2++[b])) x.v).2++[b])) j ((b:Nat):Int) (s.last+1) x ub fQ fN s J (some s.mb) (fR (s.live++[(⟨0,0,0,0,0,0,0⟩:Lv)]) b (fun _=>(⟨((b:Nat):Int),s.last+1,x.u,x.v,x.wt,x.t,x.exp⟩:Lv))) B K I H) aP:=xd (by have h9:=aR;rw[<-CY]at h9;exact h9)
   refine jE tt none ad 6 ?_
   refine tN (?_)
   refine iL (gh ad 15 ?_)
   refine mD (L' := [iM 3 (gm (gm s.im x.u (d,(fU s.im x.u).2++[b])) x.v (l,(fU (gm s.im x.u (d,(fU s.im x.u).2++[b])) x.v).2++[b])),blk j 42 (Z9 ((b:Nat):Int) (s.last+1) x),blk ub 101 (wK fQ fN (s.last+1) s J (some s.mb)),fV Lv.cells J 42 7 (fR (s.live++[(⟨0,0,0,0,0,0,0⟩:Lv)]) b (fun _=>(⟨((b:Nat):Int),s.last+1,x.u,x.v,x.wt,x.t,x.exp⟩:Lv))),gR s.mb .u64 p_ (gm (gm s.im x.u (d,(fU s.im x.u).2++[b])) x.v (l,(fU (gm s.im x.u (d,(fU s.im x.u).2++[b])) x.v).2++[b])),(AW.R s.iN B),(vF s K),blk I 42 (Z9 ((b:Nat):Int) (s.last+1) x),blk H 40 (Zo x)]) 7 rfl rfl rfl rfl jq rfl rfl ad rfl rfl rfl rfl (fun bt ae=>gf ae 4 ?_)
   refine qw (v:=(Fu ((b:Nat):Int) (s.last+1) x)) (v' := Zc) Tryz.results70 (p5 (cs:=(Z9 ((b:Nat):Int) (s.last+1) x)) rfl oW rfl jq rfl (mW ae (i:=7) (o:=0) (vs:=(Z9 ((b:Nat):Int) (s.last+1) x)) rfl rfl)) (qO rfl) ?_
   have aS:=ym [2,3,4,0,5,6,1,7,8] ae
   have hins:=hU.ins (e:=(⟨(b:Int),s.last+1,x.u,x.v,x.wt,x.t,x.exp⟩:Lv)) Y hA9 hT9 rfl rfl ⟨lE (by show _/\_;dsimp only;omega),pP (by show _/\_;dsimp only;omega),hxo.u,hxo.v,hxo.wt,hxo.t,hxo.exp⟩ hc3.1 (fun z=>by rw[aq.mem,Z.mem]) (by rw[aq.n,Z.n]) (lv2:=J) (ls:=fR (s.live++[(⟨0,0,0,0,0,0,0⟩:Lv)]) b (fun _=>(⟨((b:Nat):Int),s.last+1,x.u,x.v,x.wt,x.t,x.exp⟩:Lv))) (by unfold wv;rw[if_pos o_]<;>rfl) (im2:=(gm (gm s.im x.u (d,(fU s.im x.u).2++[b])) x.v (l,(fU (gm s.im x.u (d,(fU s.im x.u).2++[b])) x.v).2++[b]))) (by rw[rR hc3.1];rfl)
   exact⟨b,(⟨s.iN,s.tb,s.ab,s.mb,J,s.last+1,B,K,fR (s.live++[(⟨0,0,0,0,0,0,0⟩:Lv)]) b (fun _=>(⟨((b:Nat):Int),s.last+1,x.u,x.v,x.wt,x.t,x.exp⟩:Lv)),(gm (gm s.im x.u (d,(fU s.im x.u).2++[b])) x.v (l,(fU (gm s.im x.u (d,(fU s.im x.u).2++[b])) x.v).2++[b]))⟩:fW),rfl,⟨hins.2,rfl⟩,yv (yx (p:=fW.ok fQ fN (⟨s.iN,s.tb,s.ab,s.mb,J,s.last+1,B,K,fR (s.live++[(⟨0,0,0,0,0,0,0⟩:Lv)]) b (fun _=>(⟨((b:Nat):Int),s.last+1,x.u,x.v,x.wt,x.t,x.exp⟩:Lv)),(gm (gm s.im x.u (d,(fU s.im x.u).2++[b])) x.v (l,(fU (gm s.im x.u (d,(fU s.im x.u).2++[b])) x.v).2++[b]))⟩:fW)) (yc [_,_,_,_,_,_] _ aS) hins.1) zg⟩
 . refine gX O 10 ?_
   refine jD O 7 ?_
   intro wq hM
   refine v8 (f:=(fun _=>(⟨((b:Nat):Int),s.last+1,x.u,x.v,x.wt,x.t,x.exp⟩:Lv))) (L' := [blk j 42 (Z9 ((b:Nat):Int) (s.last+1) x),blk ub 101 (rH fQ fN (s.last+1) s (some s.mb)),fV Lv.cells s.lv 42 7 (fR s.live b (fun _=>(⟨((b:Nat):Int),s.last+1,x.u,x.v,x.wt,x.t,x.exp⟩:Lv))),gR s.mb .u64 p_ s.im,iM 3 s.im,(AW.R s.iN B),(Z6 s),blk I 42 Zu,blk H 40 (Zo x)]) 2 rfl rfl rfl rfl jq rfl rfl hM rfl f_ om rfl rfl rfl (fun _ h=>(jC h (fun aT N=>?_)))
   refine oZ tt none N 5 ?_
   refine ld rfl rfl yg rfl (yo N (i:=8) rfl rfl) (fP N 1 ?_)
   refine ld rfl rfl yg rfl (yo N (i:=8) rfl rfl) (lX (pvs:=[(0,(Zd x.u)),(1,(Zd x.v))]) (v:=.agg (Ar x.u x.v)) rfl rfl (Bc [(0,(Zt x.u)),(1,(Zt x.v))] BI oS iK rfl ⟨rfl,rfl,rfl,rfl,trivial⟩ rfl s_) (gX N 4 ?_))
   refine sO 3 (iL (gh N 13 ?_))
   refine mF (i:=0) rfl rfl rfl oS yg rfl iK d_ rfl (fP N 10 ?_)
   refine cl DG (Da s.tb s.ab s.t aT (yd N (i:=6) rfl) x.u (TW.OJ o_) hxo.u) ?_
   rintro _ bu ⟨bv,bw,Q,rfl,af,ht⟩
   have ag:=yt 6 N ht
   have hT9:=(y0 ag (i:=6) rfl:Q.ok)
   refine gX ag 2 ?_
   have aU:=ym [4,0,1,2,3,5,6,7,8] ag
   have aV:=xk x.u aU
   refine oE (Γ:=Nat×Value) mixed [[],[0],[0,1],[0,1,2],[],[],[5],[5,6],[5,6,7],[],[5,6,7,8,9],[],[11],[5,6,7,8,9,10,11,12],[0,1,2,3,4,5,6,7,8,9,10,11,12,13]] [12,13,14] d_ [fun _=>(Zb ub),fun _=>(Zb ub),fun _=>(Z0 ub),fun _=>(.map (some s.mb)),fun _=>(Zd x.u),fun _=>(Zb ub),fun _=>(Zb ub),fun _=>(Z0 ub),fun _=>(.map (some s.mb)),fun _=>(Zd x.u),fun _=>((fU s.im x.u).1),fun _=>(Za ((b:Nat):Int)),fun(E,g)=>(Zx E),fun(E,g)=>g,fun _=>undef] [(fun(E,g)=>[iA .i64 ((fU s.im x.u).1) 3 (gx (fU s.im x.u).2),iM 3 (gK s.im x.u),blk j 42 (Z9 ((b:Nat):Int) (s.last+1) x),blk ub 101 (rH fQ fN (s.last+1) s (some s.mb)),fV Lv.cells s.lv 42 7 (fR s.live b (fun _=>(⟨((b:Nat):Int),s.last+1,x.u,x.v,x.wt,x.t,x.exp⟩:Lv))),gR s.mb .u64 p_ s.im,(AW.R s.iN B),(vF s Q),blk I 42 Zu,blk H 40 (Zo x)],fun _ _=>True),(fun(E,g)=>(Q2 E ([((b:Nat):Int)]) ((fU s.im x.u).1) (gx (fU s.im x.u).2) (gK s.im x.u) j ((b:Nat):Int) (s.last+1) x ub fQ fN s (some s.mb) (fR s.live b (fun _=>(⟨((b:Nat):Int),s.last+1,x.u,x.v,x.wt,x.t,x.exp⟩:Lv))) B Q I H),fun _ _=>True),(fun(E,g)=>(Q2 E ([((b:Nat):Int)]) g ((gx (fU s.im x.u).2)++([((b:Nat):Int)])) (gK s.im x.u) j ((b:Nat):Int) (s.last+1) x ub fQ fN s (some s.mb) (fR s.live b (fun _=>(⟨((b:Nat):Int),s.last+1,x.u,x.v,x.wt,x.t,x.exp⟩:Lv))) B Q I H),fun _ _=>True),(fun(E,g)=>(Ab E ([((b:Nat):Int)]) g ((gx (fU s.im x.u).2)++([((b:Nat):Int)])) (gK s.im x.u) j ((b:Nat):Int) (s.last+1) x ub fQ fN s (some s.mb) (fR s.live b (fun _=>(⟨((b:Nat):Int),s.last+1,x.u,x.v,x.wt,x.t,x.exp⟩:Lv))) (gm s.im x.u (g,(fU s.im x.u).2++[b])) B Q I H),fun _ _=>True)] (0,Zk) (fun(E,g)=>(99,g) :: (98,(Zx E)) :: (97,(Za ((b:Nat):Int))) :: (96,((fU s.im x.u).1)) :: (95,(Zd x.u)) :: (94,(.map (some s.mb))) :: (93,(Z0 ub)) :: (92,(Zb ub)) :: (91,(Zb ub)) :: (90,(Zd x.u)) :: (89,(.map (some s.mb))) :: (88,(Z0 ub)) :: (87,(Zb ub)) :: (86,(Zb ub)) :: _) rfl aV (fun _ _=>trivial) ?_ (fun(E,g)=>rfl) rfl ?_
   . skip
     refine gC (fun(E,g) _=>iD (v:=(Zb ub)) rfl) ?_
     refine gC (fun(E,g) _=>jY rfl) ?_
     refine gC (fun(E,g) _=>jL (o' := 6) rfl qB rfl qx rfl) ?_
     refine Bl rfl rfl rfl rfl rfl rfl (fun(E,g) wq hM hF=>qv rfl rfl (gZ rfl yn rfl (yo hM (i:=3) rfl rfl))) (fun(E,g) wq hM hF=>qv rfl rfl (gZ rfl yn rfl (yo hM (i:=4) rfl rfl))) (fun(E,g) wq hM hF=>qv rfl rfl (gZ rfl yn rfl (yo hM (i:=4) rfl rfl))) (gC (fun(E,g) _=>iD (v:=(Zd x.u)) rfl) ?_)
     refine gC (fun(E,g) _=>iD (v:=(Zb ub)) rfl) ?_
     refine gC (fun(E,g) _=>jY rfl) ?_
     refine gC (fun(E,g) _=>jL (o' := 6) rfl qB rfl qx rfl) ?_
     refine nZ rfl rfl rfl rfl rfl (fun(E,g) wq hM hF=>qv rfl rfl (gZ rfl yn rfl (yo hM (i:=3) rfl rfl))) (fun(E,g) wq hM hF=>qv rfl rfl (gZ rfl yn rfl (yo hM (i:=4) rfl rfl))) (gC (fun(E,g) _=>iD (v:=(Zd x.u)) rfl) ?_)
     refine nZ rfl rfl rfl rfl rfl (fun(E,g) wq hM hF=>qv rfl rfl (sx (a:=x.u) (mm:=s.im) (enc:=p_) (k:=.u64) 5 rfl rfl yn yg nH rfl hM rfl)) (fun(E,g) wq hM hF=>qv rfl rfl (sx (a:=x.u) (mm:=s.im) (enc:=p_) (k:=.u64) 6 rfl rfl yn yg nH rfl hM rfl)) (gC (fun(E,g) _=>iD (v:=(Za ((b:Nat):Int))) rfl) ?_)
     refine kg rfl rfl rfl rfl (fun(E,g) wq hM hF=>Bq (vs:=(Zf ((b:Nat):Int))) (cs:=(Zf ((b:Nat):Int))) rfl rfl yh gq rfl (by simp[Value.cells]) rfl rfl rfl hM (fun aW _ h=>⟨(aW,g),⟨h,trivial⟩,rfl,fS rfl (fS rfl (fS rfl (fS rfl (fS rfl (fS rfl (fS rfl (fS rfl (fS rfl (fS rfl (fS rfl (fS rfl (fS trivial (fS trivial (fS trivial (kM)))))))))))))))⟩)) (kg rfl rfl rfl rfl (fun(E,g) wq hM hF=>DZ (k:=.i64) (ys:=gx (fU s.im x.u).2) (zs:=[((b:Nat):Int)]) 1 rfl rfl rfl yh gq rfl hM rfl (oU hM (i:=0) rfl) (by simp only[zw,zp,zx,gx,zr,maxLen];have h7:=hnl2 x.u;have h8:=hnl2 x.v;first|omega|(rw[rR hc3.1];omega)) (by simp only[zw,zp,zx,gx,zr,maxLen];have h7:=hnl2 x.u;have h8:=hnl2 x.v;first|omega|(rw[rR hc3.1];omega)) (fun aX _ h=>⟨(E,aX),⟨h,trivial⟩,rfl,fS rfl (fS rfl (fS rfl (fS rfl (fS rfl (fS rfl (fS rfl (fS rfl (fS rfl (fS rfl (fS rfl (fS rfl (fS rfl (fS trivial (fS trivial (kM)))))))))))))))⟩)) (kg rfl rfl rfl rfl (fun(E,g) wq hM hF=>wj (a:=x.u) (c:=(g,(fU s.im x.u).2++[b])) (mm:=s.im) (enc:=p_) (k:=.u64) (L' := (Ab E ([((b:Nat):Int)]) g ((gx (fU s.im x.u).2)++([((b:Nat):Int)])) (gK s.im x.u) j ((b:Nat):Int) (s.last+1) x ub fQ fN s (some s.mb) (fR s.live b (fun _=>(⟨((b:Nat):Int),s.last+1,x.u,x.v,x.wt,x.t,x.exp⟩:Lv))) (gm s.im x.u (g,(fU s.im x.u).2++[b])) B Q I H)) 6 rfl rfl rfl rfl yn yg hM rfl rfl (fun _ h=>⟨(E,g),⟨h,trivial⟩,rfl,jR.refl _ _ _⟩)) ?_))
     exact og
   rintro⟨E,g⟩ ar aY -
   have aZ:=ym [1,2,3,4,5,6,7,8,9,10] aY
   have V:St _ (Qn (gm s.im x.u (g,(fU s.im x.u).2++[b])) j ((b:Nat):Int) (s.last+1) x ub fQ fN s (some s.mb) (fR s.live b (fun _=>(⟨((b:Nat):Int),s.last+1,x.u,x.v,x.wt,x.t,x.exp⟩:Lv))) B Q I H) ar:=xd (by have h9:=aZ;rw[<-CY]at h9;exact h9)
   refine jE tt none V 6 ?_
   refine tN (?_)
   refine iL (gh V 13 ?_)
   refine mF (i:=1) rfl rfl rfl oS yg rfl iK d_ rfl (fP V 10 ?_)
   refine cl DG (Da s.tb s.ab Q ar (yd V (i:=6) rfl) x.v (af.room o_) hxo.v) ?_
   rintro _ bz ⟨bA,bB,L,rfl,au,ht⟩
   have ah:=yt 6 V ht
   have hT9:=(y0 ah (i:=6) rfl:L.ok)
   refine gX ah 2 ?_
   have a0:=xk x.v ah
   refine oE (Γ:=Nat×Value) mixed [[],[0],[0,1],[0,1,2],[],[],[5],[5,6],[5,6,7],[],[5,6,7,8,9],[],[11],[5,6,7,8,9,10,11,12],[0,1,2,3,4,5,6,7,8,9,10,11,12,13]] [12,13,14] d_ [fun _=>(Zb ub),fun _=>(Zb ub),fun _=>(Z0 ub),fun _=>(.map (some s.mb)),fun _=>(Zd x.v),fun _=>(Zb ub),fun _=>(Zb ub),fun _=>(Z0 ub),fun _=>(.map (some s.mb)),fun _=>(Zd x.v),fun _=>((fU (gm s.im x.u (g,(fU s.im x.u).2++[b])) x.v).1),fun _=>(Za ((b:Nat):Int)),fun(G,q)=>(Zx G),fun(G,q)=>q,fun _=>undef] [(fun(G,q)=>[iA .i64 ((fU (gm s.im x.u (g,(fU s.im x.u).2++[b])) x.v).1) 3 (gx (fU (gm s.im x.u (g,(fU s.im x.u).2++[b])) x.v).2),iM 3 (gK (gm s.im x.u (g,(fU s.im x.u).2++[b])) x.v),blk j 42 (Z9 ((b:Nat):Int) (s.last+1) x),blk ub 101 (rH fQ fN (s.last+1) s (some s.mb)),fV Lv.cells s.lv 42 7 (fR s.live b (fun _=>(⟨((b:Nat):Int),s.last+1,x.u,x.v,x.wt,x.t,x.exp⟩:Lv))),gR s.mb .u64 p_ (gm s.im x.u (g,(fU s.im x.u).2++[b])),(AW.R s.iN B),(vF s L),blk I 42 Zu,blk H 40 (Zo x)],fun _ _=>True),(fun(G,q)=>(Ab G ([((b:Nat):Int)]) ((fU (gm s.im x.u (g,(fU s.im x.u).2++[b])) x.v).1) (gx (fU (gm s.im x.u (g,(fU s.im x.u).2++[b])) x.v).2) (gK (gm s.im x.u (g,(fU s.im x.u).2++[b])) x.v) j ((b:Nat):Int) (s.last+1) x ub fQ fN s (some s.mb) (fR s.live b (fun _=>(⟨((b:Nat):Int),s.last+1,x.u,x.v,x.wt,x.t,x.exp⟩:Lv))) (gm s.im x.u (g,(fU s.im x.u).2++[b])) B L I H),fun _ _=>True),(fun(G,q)=>(Ab G ([((b:Nat):Int)]) q ((gx (fU (gm s.im x.u (g,(fU s.im x.u).2++[b])) x.v).2)++([((b:Nat):Int)])) (gK (gm s.im x.u (g,(fU s.im x.u).2++[b])) x.v) j ((b:Nat):Int) (s.last+1) x ub fQ fN s (some s.mb) (fR s.live b (fun _=>(⟨((b:Nat):Int),s.last+1,x.u,x.v,x.wt,x.t,x.exp⟩:Lv))) (gm s.im x.u (g,(fU s.im x.u).2++[b])) B L I H),fun _ _=>True),(fun(G,q)=>(Ab G ([((b:Nat):Int)]) q ((gx (fU (gm s.im x.u (g,(fU s.im x.u).2++[b])) x.v).2)++([((b:Nat):Int)])) (gK (gm s.im x.u (g,(fU s.im x.u).2++[b])) x.v) j ((b:Nat):Int) (s.last+1) x ub fQ fN s (some s.mb) (fR s.live b (fun _=>(⟨((b:Nat):Int),s.last+1,x.u,x.v,x.wt,x.t,x.exp⟩:Lv))) (gm (gm s.im x.u (g,(fU s.im x.u).2++[b])) x.v (q,(fU (gm s.im x.u (g,(fU s.im x.u).2++[b])) x.v).2++[b])) B L I H),fun _ _=>True)] (0,Zk) (fun(G,q)=>(99,q) :: (98,(Zx G)) :: (97,(Za ((b:Nat):Int))) :: (96,((fU (gm s.im x.u (g,(fU s.im x.u).2++[b])) x.v).1)) :: (95,(Zd x.v)) :: (94,(.map (some s.mb))) :: (93,(Z0 ub)) :: (92,(Zb ub)) :: (91,(Zb ub)) :: (90,(Zd x.v)) :: (89,(.map (some s.mb))) :: (88,(Z0 ub)) :: (87,(Zb ub)) :: (86,(Zb ub)) :: _) rfl a0 (fun _ _=>trivial) ?_ (fun(G,q)=>rfl) rfl ?_
   . skip
     refine gC (fun(G,q) _=>iD (v:=(Zb ub)) rfl) ?_
     refine gC (fun(G,q) _=>jY rfl) ?_
     refine gC (fun(G,q) _=>jL (o' := 6) rfl qB rfl qx rfl) ?_
     refine Bl rfl rfl rfl rfl rfl rfl (fun(G,q) wq hM hF=>qv rfl rfl (gZ rfl yn rfl (yo hM (i:=3) rfl rfl))) (fun(G,q) wq hM hF=>qv rfl rfl (gZ rfl yn rfl (yo hM (i:=4) rfl rfl))) (fun(G,q) wq hM hF=>qv rfl rfl (gZ rfl yn rfl (yo hM (i:=4) rfl rfl))) (gC (fun(G,q) _=>iD (v:=(Zd x.v)) rfl) ?_)
     refine gC (fun(G,q) _=>iD (v:=(Zb ub)) rfl) ?_
     refine gC (fun(G,q) _=>jY rfl) ?_
     refine gC (fun(G,q) _=>jL (o' := 6) rfl qB rfl qx rfl) ?_
     refine nZ rfl rfl rfl rfl rfl (fun(G,q) wq hM hF=>qv rfl rfl (gZ rfl yn rfl (yo hM (i:=3) rfl rfl))) (fun(G,q) wq hM hF=>qv rfl rfl (gZ rfl yn rfl (yo hM (i:=4) rfl rfl))) (gC (fun(G,q) _=>iD (v:=(Zd x.v)) rfl) ?_)
     refine nZ rfl rfl rfl rfl rfl (fun(G,q) wq hM hF=>qv rfl rfl (sx (a:=x.v) (mm:=(gm s.im x.u (g,(fU s.im x.u).2++[b]))) (enc:=p_) (k:=.u64) 5 rfl rfl yn yg nH rfl hM rfl)) (fun(G,q) wq hM hF=>qv rfl rfl (sx (a:=x.v) (mm:=(gm s.im x.u (g,(fU s.im x.u).2++[b]))) (enc:=p_) (k:=.u64) 6 rfl rfl yn yg nH rfl hM rfl)) (gC (fun(G,q) _=>iD (v:=(Za ((b:Nat):Int))) rfl) ?_)
     refine kg rfl rfl rfl rfl (fun(G,q) wq hM hF=>Bq (vs:=(Zf ((b:Nat):Int))) (cs:=(Zf ((b:Nat):Int))) rfl rfl yh gq rfl (by simp[Value.cells]) rfl rfl rfl hM (fun a1 _ h=>⟨(a1,q),⟨h,trivial⟩,rfl,fS rfl (fS rfl (fS rfl (fS rfl (fS rfl (fS rfl (fS rfl (fS rfl (fS rfl (fS rfl (fS rfl (fS rfl (fS trivial (fS trivial (fS trivial (kM)))))))))))))))⟩)) (kg rfl rfl rfl rfl (fun(G,q) wq hM hF=>DZ (k:=.i64) (ys:=gx (fU (gm s.im x.u (g,(fU s.im x.u).2++[b])) x.v).2) (zs:=[((b:Nat):Int)]) 1 rfl rfl rfl yh gq rfl hM rfl (oU hM (i:=0) rfl) (by simp only[zw,zp,zx,gx,zr,maxLen];have h7:=hnl2 x.u;have h8:=hnl2 x.v;first|omega|(rw[rR hc3.1];omega)) (by simp only[zw,zp,zx,gx,zr,maxLen];have h7:=hnl2 x.u;have h8:=hnl2 x.v;first|omega|(rw[rR hc3.1];omega)) (fun a2 _ h=>⟨(G,a2),⟨h,trivial⟩,rfl,fS rfl (fS rfl (fS rfl (fS rfl (fS rfl (fS rfl (fS rfl (fS rfl (fS rfl (fS rfl (fS rfl (fS rfl (fS rfl (fS trivial (fS trivial (kM)))))))))))))))⟩)) (kg rfl rfl rfl rfl (fun(G,q) wq hM hF=>wj (a:=x.v) (c:=(q,(fU (gm s.im x.u (g,(fU s.im x.u).2++[b])) x.v).2++[b])) (mm:=(gm s.im x.u (g,(fU s.im x.u).2++[b]))) (enc:=p_) (k:=.u64) (L' := (Ab G ([((b:Nat):Int)]) q ((gx (fU (gm s.im x.u (g,(fU s.im x.u).2++[b])) x.v).2)++([((b:Nat):Int)])) (gK (gm s.im x.u (g,(fU s.im x.u).2++[b])) x.v) j ((b:Nat):Int) (s.last+1) x ub fQ fN s (some s.mb) (fR s.live b (fun _=>(⟨((b:Nat):Int),s.last+1,x.u,x.v,x.wt,x.t,x.exp⟩:Lv))) (gm (gm s.im x.u (g,(fU s.im x.u).2++[b])) x.v (q,(fU (gm s.im x.u (g,(fU s.im x.u).2++[b])) x.v).2++[b])) B L I H)) 6 rfl rfl rfl rfl yn yg hM rfl rfl (fun _ h=>⟨(G,q),⟨h,trivial⟩,rfl,jR.refl _ _ _⟩)) ?_))
     exact og
   rintro⟨G,q⟩ a3 a4 -
   have a5:=ym [1,2,3,4,5,6,7,8,9,10] a4
   have ai:St _ (Qn (gm (gm s.im x.u (g,(fU s.im x.u).2++[b])) x.v (q,(fU (gm s.im x.u (g,(fU s.im x.u).2++[b])) x.v).2++[b])) j ((b:Nat):Int) (s.last+1) x ub fQ fN s (some s.mb) (fR s.live b (fun _=>(⟨((b:Nat):Int),s.last+1,x.u,x.v,x.wt,x.t,x.exp⟩:Lv))) B L I H) a3:=xd (by have h9:=a5;rw[<-CY]at h9;exact h9)
   refine jE tt none ai 6 ?_
   refine tN (?_)
   refine iL (gh ai 15 ?_)
   refine mD (L' := [iM 3 (gm (gm s.im x.u (g,(fU s.im x.u).2++[b])) x.v (q,(fU (gm s.im x.u (g,(fU s.im x.u).2++[b])) x.v).2++[b])),blk j 42 (Z9 ((b:Nat):Int) (s.last+1) x),blk ub 101 (rH fQ fN (s.last+1) s (some s.mb)),fV Lv.cells s.lv 42 7 (fR s.live b (fun _=>(⟨((b:Nat):Int),s.last+1,x.u,x.v,x.wt,x.t,x.exp⟩:Lv))),gR s.mb .u64 p_ (gm (gm s.im x.u (g,(fU s.im x.u).2++[b])) x.v (q,(fU (gm s.im x.u (g,(fU s.im x.u).2++[b])) x.v).2++[b])),(AW.R s.iN B),(vF s L),blk I 42 (Z9 ((b:Nat):Int) (s.last+1) x),blk H 40 (Zo x)]) 7 rfl rfl rfl rfl jq rfl rfl ai rfl rfl rfl rfl (fun bC aj=>gf aj 4 ?_)
   refine qw (v:=(Fu ((b:Nat):Int) (s.last+1) x)) (v' := Zc) Tryz.results70 (p5 (cs:=(Z9 ((b:Nat):Int) (s.last+1) x)) rfl oW rfl jq rfl (mW aj (i:=7) (o:=0) (vs:=(Z9 ((b:Nat):Int) (s.last+1) x)) rfl rfl)) (qO rfl) ?_
   have a6:=ym [2,3,4,0,5,6,1,7,8] aj
   have hins:=hU.ins (e:=(⟨(b:Int),s.last+1,x.u,x.v,x.wt,x.t,x.exp⟩:Lv)) Y hA9 hT9 rfl rfl ⟨lE (by show _/\_;dsimp only;omega),pP (by show _/\_;dsimp only;omega),hxo.u,hxo.v,hxo.wt,hxo.t,hxo.exp⟩ hc3.1 (fun z=>by rw[au.mem,af.mem]) (by rw[au.n,af.n]) (lv2:=s.lv) (ls:=fR s.live b (fun _=>(⟨((b:Nat):Int),s.last+1,x.u,x.v,x.wt,x.t,x.exp⟩:Lv))) (by unfold wv;rw[if_neg o_]<;>rfl) (im2:=(gm (gm s.im x.u (g,(fU s.im x.u).2++[b])) x.v (q,(fU (gm s.im x.u (g,(fU s.im x.u).2++[b])) x.v).2++[b]))) (by rw[rR hc3.1];rfl)
   exact⟨b,(⟨s.iN,s.tb,s.ab,s.mb,s.lv,s.last+1,B,L,fR s.live b (fun _=>(⟨((b:Nat):Int),s.last+1,x.u,x.v,x.wt,x.t,x.exp⟩:Lv)),(gm (gm s.im x.u (g,(fU s.im x.u).2++[b])) x.v (q,(fU (gm s.im x.u (g,(fU s.im x.u).2++[b])) x.v).2++[b]))⟩:fW),rfl,⟨hins.2,rfl⟩,yv (yx (p:=fW.ok fQ fN (⟨s.iN,s.tb,s.ab,s.mb,s.lv,s.last+1,B,L,fR s.live b (fun _=>(⟨((b:Nat):Int),s.last+1,x.u,x.v,x.wt,x.t,x.exp⟩:Lv)),(gm (gm s.im x.u (g,(fU s.im x.u).2++[b])) x.v (q,(fU (gm s.im x.u (g,(fU s.im x.u).2++[b])) x.v).2++[b]))⟩:fW)) (yc [_,_,_,_,_,_] _ a6) hins.1) zg⟩
end
section
open Go Go.Sx
end
end Go.Proofs.YtjhkmopeagfnlaaGreatDoor
namespace Go.Proofs
open Go.Shelf Go.Lib Go.Sort Go.RowKit in
def Tryz.Si:Go.Shelf.Ren:=⟨fun|23=>62|n=>n,fun|22=>62|3=>3|4=>4|0=>0|n=>n,fun|n=>n⟩
open Go.Shelf Go.Lib Go.Sort Go.RowKit in
theorem Tryz.WY:Go.Proofs.Lays2.n23 Proofs.Tryz.prog Tryz.Si where
 mixed:=by kernel_rfl
 f23:=Proofs.Tryz.func62.trans (congrArg some<|by kernel_rfl)
 t0:=Proofs.Tryz.underlying0
 a0:=Proofs.Tryz.isAgg0
 z0:=Proofs.Tryz.sizeOf0
 v0:=Proofs.Tryz.zeroValue0
 t3:=Proofs.Tryz.underlying3
 a3:=Proofs.Tryz.isAgg3
 z3:=Proofs.Tryz.sizeOf3
 v3:=Proofs.Tryz.zeroValue3
 t4:=Proofs.Tryz.underlying4
 a4:=Proofs.Tryz.isAgg4
 z4:=Proofs.Tryz.sizeOf4
 v4:=Proofs.Tryz.zeroValue4
 t22:=Proofs.Tryz.underlying62
 a22:=Proofs.Tryz.isAgg62
 z22:=Proofs.Tryz.sizeOf62
 v22:=Proofs.Tryz.zeroValue62
 i3:=by kernel_rfl
end Go.Proofs
namespace Go.Proofs.YtjhkmopeagfnlaaGreatDoor
section
open Go Go.Sx
theorem Gy(v:Value)(xs:List Int)(w:World)(i:Nat)(hO:Own (iA .i64 v 3 xs) w)(hi:i<xs.length) :
 CR ya 62 #[v,.int .i64 (i:Int),.int .i64 ((i+1:Nat):Int)] w (fun r w' => gp (iA .i64 v 3 xs) w w' (iA .i64 r 3 (xs.eraseIdx i))) :=
 W0 hO hi fun b cap h1 h2 h3=>Any.slices_Delete_int Tryz.WY b 0 cap i (i+1) xs w h1 h2 h3 o_ o_
theorem Hg(v:Value)(xs:List Int)(x:Int)(k:Nat)(w:World)(hv:Ints .i64 (fun _=>True) w v xs)(hl0:xs.length<=1000000)(hk:xs[k]? = some x)(hf:∀ (j:Nat) (y:Int),j<k->xs[j]? = some y->y≠x) :
 CR ya 61 #[v,(Za x)] w (fun r w' => r = .int .i64 (k:Int)/\gD [] w w'):=by
 have hkl:=(zd.1 hk).1
 refine en Tryz.func61 Tryz.ntmps61 ?_
 have hst0:=jB w
 refine gh hst0 9 ?_
 refine tE (v:=v) rfl rfl yh hv (gX hst0 4 ?_)
 refine lp (α:=Nat) (fun q=>[(0,v),(1,(Za x)),(7,(Za xs.length)),(8,(Za q))]) (fun q w1=>St [(w,[])] [] w1/\q<=k) (fun q=>k-q) 0 ⟨rfl,rfl,rfl,gJ (by first|rfl|omega),trivial⟩ (⟨hst0,o_⟩) ?_
 rintro q d e ⟨hst7,hq7⟩
 obtain⟨y,hy⟩:=qg (show q<xs.length by omega)
 refine gh hst7 2 ?_
 refine cmp rfl rfl rfl (wD o_) (fP hst7 19 ?_)
 refine EI (i:=(q:Int)) (el:=y) rfl rfl rfl yh gq (St.Iy hst7 s_ hv) o_ (by rw[show ((q:Nat):Int).toNat=q by omega];exact hy) ?_
 intro f g b c h
 have l:=c.i64
 refine ld rfl rfl yf rfl b ?_
 by_cases a:(x:Int)=(y:Int)
 . have hqk:q=k:=(qa q k).elim (fun h8=>absurd (show y=x from by have h7:=a;omega) (hf q y h8 hy)) (fun h8=>by omega)
   refine gf hst7 16 ?_
   refine gF (v:=(Za q)) Tryz.results61 rfl ?_
   obtain rfl:q=k:=by omega
   exact⟨rfl,hst7.gI s_⟩
 . have hqk:q≠k:=by rintro rfl;rw[hk]at hy;cases hy;exact(by have h7:=a;omega:False)
   refine gf hst7 11 ?_
   refine tN (?_)
   exact again (q+1) ⟨rfl,rfl,rfl,gJ (by first|rfl|omega),trivial⟩ (⟨hst7,o_⟩) (by show (k-(q+1):Nat)<k-q;omega)
theorem KZ(fQ fN ub:Nat)(s:fW)(w:World)(hO:Own (fW.R fQ fN ub s) w)(i:Nat)(hi:s.A.ig i) :
 CR ya 30 (Zn ub i) w (fun r w' => ∃ (s2:fW),r = .tuple #[(Ai (fM s.live i)),.int .i64 0]/\((∀ y,s2.has y↔s.has y/\y.slot≠(i:Int))/\s2.last=s.last)/\gp (fW.R fQ fN ub s) w w' (fW.R fQ fN ub s2)):=by
 have htu:s.t.A.used<=s.t.A.n:=hO.fact.tok.ul
 have hUn:=hO.fact.n
 have hUt:=hO.fact.tn
 have hUe:=hO.fact.en
 have hUv:=hO.fact.vn
 have hAu:s.A.used<=s.A.begun:=by have h7:=hO.fact.lH.used;omega
 have hAl:=hO.fact.lH.le
 have hll:=hO.fact.ll
 have hib:=hi.1
 have hne:=hO.fact.ne i hi
 refine en Tryz.func30 Tryz.ntmps30 ?_
 have hst0:=Own.of hO.un
 have hU:s.ok fQ fN:=hO.fact
 refine gh hst0 2 ?_
 refine al (cs:=Zu) rfl jq rfl hst0 ?_
 intro x aQ bF bG ak
 have aR:=ym [1,2,3,4,5,6,0] ak
 have am:=yx (p:=s.ok fQ fN) (yc [_,_,_,_,_,_] _ aR) hU
 refine fP ak 7 ?_
 refine cl yJ (xw fQ fN ub s aQ (yd am (i:=0) rfl)) ?_
 rintro _ aS ⟨rfl,ht⟩
 have aT:=yt 0 am ht
 have Y:=(jV aT).unpack
 refine fP Y 14 ?_
 refine cl OA (ME s.iN s.aw aS (yd Y (i:=4) rfl) i hi) ?_
 rintro _ bH ⟨g,rfl,W,ht⟩
 have K:=yt 4 Y ht
 have hA9:=(y0 K (i:=4) rfl:g.A.ok)
 refine fP K 19 ?_
 refine jj (cf:=Lv.cells) (k:=i) (i:=(i:Int)) rfl rfl rfl y9 jq (ye K (i:=1) rfl f_) o_ o_ (gy om) (By (cf:=Lv.cells) (cs:=(Z4 (fM s.live i))) rfl rfl oW rfl jq (ye K (i:=1) rfl f_) (gy om) rfl rfl (al (cs:=Zu) rfl jq rfl K (fun z bI bJ bK aU=>mU aU 10 fun bL an=>?_)))
 refine lX (pvs:=[]) (v:=.agg JL) rfl rfl (kV [] jq I9 rfl trivial rfl) (jj (cf:=Lv.cells) (k:=i) (i:=(i:Int)) rfl rfl rfl y9 jq (ye an (i:=2) rfl f_) o_ o_ (gy om) (sy (f:=(fun _=>(⟨0,0,0,0,0,0,0⟩:Lv))) (L' := [blk z 42 (Z4 (fM s.live i)),blk ub 101 (Z5 fQ fN s (some s.mb)),fV Lv.cells s.lv 42 7 (fR s.live i (fun _=>(⟨0,0,0,0,0,0,0⟩:Lv))),gR s.mb .u64 p_ s.im,iM 3 s.im,(AW.R s.iN g),(Z6 s),blk x 42 Zu]) 2 rfl rfl rfl rfl jq rfl rfl an rfl f_ om rfl rfl rfl (fun aV L=>fP L 11 ?_)))
 refine lX (pvs:=[(0,(Zd ((fM s.live i).u))),(1,(Zd ((fM s.live i).v)))]) (v:=.agg (Ar ((fM s.live i).u) ((fM s.live i).v))) rfl rfl (Bc [(0,(Zt ((fM s.live i).u))),(1,(Zt ((fM s.live i).v)))] BI oS iK rfl ⟨rfl,rfl,rfl,rfl,trivial⟩ rfl s_) (gX L 4 ?_)
 refine sO 3 (iL (gh L 13 ?_))
 refine mF (i:=0) rfl rfl rfl oS yg rfl iK d_ rfl ?_
 have aW:=ym [4,0,1,2,3,5,6,7] L
 have M:=xk ((fM s.live i).u) aW
 refine fP L 10 ?_
 refine Ah (a:=(fM s.live i).u) (mm:=s.im) (enc:=p_) (k:=.u64) 5 rfl rfl rfl yn yg nH rfl M rfl (tQ (v:=((fU s.im ((fM s.live i).u)).1)) rfl rfl (fP M 5 ?_))
 refine mv (v:=((fU s.im ((fM s.live i).u)).1)) rfl rfl ?_
 have aX:=((hU.inc (fM s.live i).u i).2 ⟨hi,.inl rfl⟩)
 obtain⟨b,ao,ap,aY⟩:=Gp aX (hU.nd _)
 have aZ:b<(gx (fU s.im ((fM s.live i).u)).2).length:=(zd.1 ap).1
 have aq:(gx (fU s.im ((fM s.live i).u)).2).length<=1000000:=by rw[gx,zr];exact z7 (hU.Je _) d_
 refine fP M 1 ?_
 refine cl IZ (Hg ((fU s.im ((fM s.live i).u)).1) (gx (fU s.im ((fM s.live i).u)).2) (i:Int) b aV (wI M (i:=0) rfl (Gf (by rw[gx,zr]at aq;exact fun j hj=>H7 hU (fun _ h=>h) hj))).any aq ap aY) ?_
 rintro _ a0 ⟨rfl,a1⟩
 have N:=y8 M a1
 refine fP N 6 ?_
 refine cmp rfl rfl rfl (pS o_) (fP N 4 ?_)
 refine mv (v:=((fU s.im ((fM s.live i).u)).1)) rfl rfl (fP N 2 ?_)
 refine ar (e:=((b+1:Nat):Int)) rfl rfl rfl rfl (by rw[iV o_];omega) (cl IL (Gy ((fU s.im ((fM s.live i).u)).1) (gx (fU s.im ((fM s.live i).u)).2) a0 b (yd N (i:=0) rfl) aZ) ?_)
 rintro d bM ht
 have h9v₂:=yt 0 N ht
 rw[F7]at h9v₂
 have H:=h9v₂
 refine fP H 7 ?_
 refine kZ (m:=(gx ((fU s.im ((fM s.live i).u)).2.eraseIdx b)).length) 0 rfl rfl yh H rfl ?_
 by_cases au:((((gx ((fU s.im ((fM s.live i).u)).2.eraseIdx b)).length:Nat):Int):Int)>(0:Int)
 . have a2:(fU s.im ((fM s.live i).u)).2.eraseIdx b≠[]:=by intro e9;have h7:=@au;rw[e9]at h7;simp[gx]at h7
   refine fP H 12 ?_
   refine EL (a:=(fM s.live i).u) (c:=(d,(fU s.im ((fM s.live i).u)).2.eraseIdx b)) (mm:=s.im) (enc:=p_) (k:=.u64) (L' := (Ql d (gx ((fU s.im ((fM s.live i).u)).2.eraseIdx b)) (gK s.im ((fM s.live i).u)) z (fM s.live i) ub fQ fN s (some s.mb) (fR s.live i (fun _=>(⟨0,0,0,0,0,0,0⟩:Lv))) (gm s.im ((fM s.live i).u) (d,(fU s.im ((fM s.live i).u)).2.eraseIdx b)) g x)) 5 rfl rfl rfl rfl yn yg H rfl rfl ?_
   intro a3 av
   have Z:=xd av
   have C:mK s.im s.t (gm s.im ((fM s.live i).u) (d,(fU s.im ((fM s.live i).u)).2.eraseIdx b)) s.t (fM s.live i).u i:=mK.keep (hU.nd _) ao a2
   refine gf av 10 ?_
   refine tN (?_)
   refine iL (gh Z 13 ?_)
   refine mF (i:=1) rfl rfl rfl oS yg rfl iK d_ rfl ?_
   have O:=xk ((fM s.live i).v) Z
   refine fP Z 10 ?_
   refine Ah (a:=(fM s.live i).v) (mm:=(gm s.im ((fM s.live i).u) (d,(fU s.im ((fM s.live i).u)).2.eraseIdx b))) (enc:=p_) (k:=.u64) 5 rfl rfl rfl yn yg nH rfl O rfl (tQ (v:=((fU (gm s.im ((fM s.live i).u) (d,(fU s.im ((fM s.live i).u)).2.eraseIdx b)) ((fM s.live i).v)).1)) rfl rfl (fP O 5 ?_))
   refine mv (v:=((fU (gm s.im ((fM s.live i).u) (d,(fU s.im ((fM s.live i).u)).2.eraseIdx b)) ((fM s.live i).v)).1)) rfl rfl ?_
   have a4:=((C.get (fM s.live i).v i).2 ⟨(hU.inc (fM s.live i).v i).2 ⟨hi,.inr rfl⟩,fun e=>absurd e.symm hne⟩)
   obtain⟨l,ax,ay,a5⟩:=Gp a4 (C.nd hU.nd _)
   have a6:l<(gx (fU (gm s.im ((fM s.live i).u) (d,(fU s.im ((fM s.live i).u)).2.eraseIdx b)) ((fM s.live i).v)).2).length:=(zd.1 ay).1
   have az:(gx (fU (gm s.im ((fM s.live i).u) (d,(fU s.im ((fM s.live i).u)).2.eraseIdx b)) ((fM s.live i).v)).2).length<=1000000:=by rw[gx,zr];exact z7 (inc_le hU C _) d_
   refine fP O 1 ?_
   refine cl IZ (Hg ((fU (gm s.im ((fM s.live i).u) (d,(fU s.im ((fM s.live i).u)).2.eraseIdx b)) ((fM s.live i).v)).1) (gx (fU (gm s.im ((fM s.live i).u) (d,(fU s.im ((fM s.live i).u)).2.eraseIdx b)) ((fM s.live i).v)).2) (i:Int) l a3 (wI O (i:=0) rfl (Gf (by rw[gx,zr]at az;exact fun j hj=>H7 hU (fun _ h=>((C.get _ _).1 h).1) hj))).any az ay a5) ?_
   rintro _ a7 ⟨rfl,a8⟩
   have P:=y8 O a8
   refine fP P 6 ?_
   refine cmp rfl rfl rfl (pS o_) (fP P 4 ?_)
   refine mv (v:=((fU (gm s.im ((fM s.live i).u) (d,(fU s.im ((fM s.live i).u)).2.eraseIdx b)) ((fM s.live i).v)).1)) rfl rfl (fP P 2 ?_)
   refine ar (e:=((l+1:Nat):Int)) rfl rfl rfl rfl (by rw[iV o_];omega) (cl IL (Gy ((fU (gm s.im ((fM s.live i).u) (d,(fU s.im ((fM s.live i).u)).2.eraseIdx b)) ((fM s.live i).v)).1) (gx (fU (gm s.im ((fM s.live i).u) (d,(fU s.im ((fM s.live i).u)).2.eraseIdx b)) ((fM s.live i).v)).2) a7 l (yd P (i:=0) rfl) a6) ?_)
   rintro E bN ht
   have h9v₃:=yt 0 P ht
   rw[F7]at h9v₃
   have I:=h9v₃
   refine fP I 7 ?_
   refine kZ (m:=(gx ((fU (gm s.im ((fM s.live i).u) (d,(fU s.im ((fM s.live i).u)).2.eraseIdx b)) ((fM s.live i).v)).2.eraseIdx l)).length) 0 rfl rfl yh I rfl ?_
   by_cases aA:((((gx ((fU (gm s.im ((fM s.live i).u) (d,(fU s.im ((fM s.live i).u)).2.eraseIdx b)) ((fM s.live i).v)).2.eraseIdx l)).length:Nat):Int):Int)>(0:Int)
   . have a9:(fU (gm s.im ((fM s.live i).u) (d,(fU s.im ((fM s.live i).u)).2.eraseIdx b)) ((fM s.live i).v)).2.eraseIdx l≠[]:=by intro e9;have h7:=@aA;rw[e9]at h7;simp[gx]at h7
     refine fP I 12 ?_
     refine EL (a:=(fM s.live i).v) (c:=(E,(fU (gm s.im ((fM s.live i).u) (d,(fU s.im ((fM s.live i).u)).2.eraseIdx b)) ((fM s.live i).v)).2.eraseIdx l)) (mm:=(gm s.im ((fM s.live i).u) (d,(fU s.im ((fM s.live i).u)).2.eraseIdx b))) (enc:=p_) (k:=.u64) (L' := (Ql E (gx ((fU (gm s.im ((fM s.live i).u) (d,(fU s.im ((fM s.live i).u)).2.eraseIdx b)) ((fM s.live i).v)).2.eraseIdx l)) (gK (gm s.im ((fM s.live i).u) (d,(fU s.im ((fM s.live i).u)).2.eraseIdx b)) ((fM s.live i).v)) z (fM s.live i) ub fQ fN s (some s.mb) (fR s.live i (fun _=>(⟨0,0,0,0,0,0,0⟩:Lv))) (gm (gm s.im ((fM s.live i).u) (d,(fU s.im ((fM s.live i).u)).2.eraseIdx b)) ((fM s.live i).v) (E,(fU (gm s.im ((fM s.live i).u) (d,(fU s.im ((fM s.live i).u)).2.eraseIdx b)) ((fM s.live i).v)).2.eraseIdx l)) g x)) 5 rfl rfl rfl rfl yn yg I rfl rfl ?_
     intro bO aB
     have aC:=xd aB
     have ba:mK (gm s.im ((fM s.live i).u) (d,(fU s.im ((fM s.live i).u)).2.eraseIdx b)) s.t (gm (gm s.im ((fM s.live i).u) (d,(fU s.im ((fM s.live i).u)).2.eraseIdx b)) ((fM s.live i).v) (E,(fU (gm s.im ((fM s.live i).u) (d,(fU s.im ((fM s.live i).u)).2.eraseIdx b)) ((fM s.live i).v)).2.eraseIdx l)) s.t (fM s.live i).v i:=mK.keep (C.nd hU.nd _) ax a9
     refine gf aB 10 ?_
     refine tN (?_)
     refine iL (gh aC 15 ?_)
     refine mD (L' := [iM 3 (gm (gm s.im ((fM s.live i).u) (d,(fU s.im ((fM s.live i).u)).2.eraseIdx b)) ((fM s.live i).v) (E,(fU (gm s.im ((fM s.live i).u) (d,(fU s.im ((fM s.live i).u)).2.eraseIdx b)) ((fM s.live i).v)).2.eraseIdx l)),blk z 42 (Z4 (fM s.live i)),blk ub 101 (Z5 fQ fN s (some s.mb)),fV Lv.cells s.lv 42 7 (fR s.live i (fun _=>(⟨0,0,0,0,0,0,0⟩:Lv))),gR s.mb .u64 p_ (gm (gm s.im ((fM s.live i).u) (d,(fU s.im ((fM s.live i).u)).2.eraseIdx b)) ((fM s.live i).v) (E,(fU (gm s.im ((fM s.live i).u) (d,(fU s.im ((fM s.live i).u)).2.eraseIdx b)) ((fM s.live i).v)).2.eraseIdx l)),(AW.R s.iN g),(Z6 s),blk x 42 (Z4 (fM s.live i))]) 7 rfl rfl rfl rfl jq rfl rfl aC rfl rfl rfl rfl (fun bP aa=>gf aa 4 ?_)
     refine qw (v:=(Ai (fM s.live i))) (v' := Zc) ED (p5 (cs:=(Z4 (fM s.live i))) rfl oW rfl jq rfl (mW aa (i:=7) (o:=0) (vs:=(Z4 (fM s.live i))) rfl rfl)) (qO rfl) ?_
     have aD:=ym [2,3,4,0,5,6,1,7] aa
     have hto:=(y0 aD (i:=5) rfl:s.t.ok)
     have hrem:=hU.rem hi W hA9 hto C ba (lv2:=s.lv) (ls:=fR s.live i (fun _=>(⟨0,0,0,0,0,0,0⟩:Lv))) rfl
     exact⟨(⟨s.iN,s.tb,s.ab,s.mb,s.lv,s.last,g,s.t,fR s.live i (fun _=>(⟨0,0,0,0,0,0,0⟩:Lv)),(gm (gm s.im ((fM s.live i).u) (d,(fU s.im ((fM s.live i).u)).2.eraseIdx b)) ((fM s.live i).v) (E,(fU (gm s.im ((fM s.live i).u) (d,(fU s.im ((fM s.live i).u)).2.eraseIdx b)) ((fM s.live i).v)).2.eraseIdx l))⟩:fW),rfl,⟨hrem.2,rfl⟩,yv (yx (p:=fW.ok fQ fN (⟨s.iN,s.tb,s.ab,s.mb,s.lv,s.last,g,s.t,fR s.live i (fun _=>(⟨0,0,0,0,0,0,0⟩:Lv)),(gm (gm s.im ((fM s.live i).u) (d,(fU s.im ((fM s.live i).u)).2.eraseIdx b)) ((fM s.live i).v) (E,(fU (gm s.im ((fM s.live i).u) (d,(fU s.im ((fM s.live i).u)).2.eraseIdx b)) ((fM s.live i).v)).2.eraseIdx l))⟩:fW)) (yc [_,_,_,_,_,_] _ aD) hrem.1) zg⟩
   . have bb:(fU (gm s.im ((fM s.live i).u) (d,(fU s.im ((fM s.live i).u)).2.eraseIdx b)) ((fM s.live i).v)).2.eraseIdx l=[]:=by have h7:=@aA;simp only[gx,zr]at h7;exact vg o_
     have bc:=ym [1,2,3,4,5,6,7,8] I
     refine fP I 13 ?_
     refine J4 (a:=(fM s.live i).v) (mm:=(gm s.im ((fM s.live i).u) (d,(fU s.im ((fM s.live i).u)).2.eraseIdx b))) (enc:=p_) (k:=.u64) (L' := (Re (gK (gm s.im ((fM s.live i).u) (d,(fU s.im ((fM s.live i).u)).2.eraseIdx b)) ((fM s.live i).v)) z (fM s.live i) ub fQ fN s (some s.mb) (fR s.live i (fun _=>(⟨0,0,0,0,0,0,0⟩:Lv))) g x)) 4 rfl rfl rfl yn yg bc rfl rfl ?_
     intro bd ac
     obtain⟨be,bf,bg⟩:=((C.mem (fM s.live i).v).2 ⟨(hU.mem (fM s.live i).v).2 ⟨i,hi,.inr rfl⟩,fun e=>absurd e.symm hne⟩)
     refine fP ac 8 ?_
     refine cl IF (HS s.tb s.ab s.t bd (yd ac (i:=6) rfl) (fM s.live i).v be bf bg) ?_
     rintro _ bQ ⟨Q,rfl,aE,ht⟩
     have ad:=yt 6 ac ht
     have bh:mK (gm s.im ((fM s.live i).u) (d,(fU s.im ((fM s.live i).u)).2.eraseIdx b)) s.t (gK (gm s.im ((fM s.live i).u) (d,(fU s.im ((fM s.live i).u)).2.eraseIdx b)) ((fM s.live i).v)) Q (fM s.live i).v i:=mK.drop (C.keys hU.keys) (C.nd hU.nd _) ax bb aE.1 aE.2.1
     refine gf ad 7 ?_
     refine tN (?_)
     refine iL (gh ad 15 ?_)
     refine mD (L' := (JI (gK (gm s.im ((fM s.live i).u) (d,(fU s.im ((fM s.live i).u)).2.eraseIdx b)) ((fM s.live i).v)) z (fM s.live i) ub fQ fN s (some s.mb) (fR s.live i (fun _=>(⟨0,0,0,0,0,0,0⟩:Lv))) g Q x)) 7 rfl rfl rfl rfl jq rfl rfl ad rfl rfl rfl rfl (fun bR ae=>gf ae 4 ?_)
     refine qw (v:=(Ai (fM s.live i))) (v' := Zc) ED (p5 (cs:=(Z4 (fM s.live i))) rfl oW rfl jq rfl (mW ae (i:=7) (o:=0) (vs:=(Z4 (fM s.live i))) rfl rfl)) (qO rfl) ?_
     have aF:=ym [2,3,4,0,5,6,1,7] ae
     have hto:=(y0 aF (i:=5) rfl:Q.ok)
     have hrem:=hU.rem hi W hA9 hto C bh (lv2:=s.lv) (ls:=fR s.live i (fun _=>(⟨0,0,0,0,0,0,0⟩:Lv))) rfl
     exact⟨(⟨s.iN,s.tb,s.ab,s.mb,s.lv,s.last,g,Q,fR s.live i (fun _=>(⟨0,0,0,0,0,0,0⟩:Lv)),(gK (gm s.im ((fM s.live i).u) (d,(fU s.im ((fM s.live i).u)).2.eraseIdx b)) ((fM s.live i).v))⟩:fW),rfl,⟨hrem.2,rfl⟩,yv (yx (p:=fW.ok fQ fN (⟨s.iN,s.tb,s.ab,s.mb,s.lv,s.last,g,Q,fR s.live i (fun _=>(⟨0,0,0,0,0,0,0⟩:Lv)),(gK (gm s.im ((fM s.live i).u) (d,(fU s.im ((fM s.live i).u)).2.eraseIdx b)) ((fM s.live i).v))⟩:fW)) (yc [_,_,_,_,_,_] _ aF) hrem.1) zg⟩
 . have bi:(fU s.im ((fM s.live i).u)).2.eraseIdx b=[]:=by have h7:=@au;simp only[gx,zr]at h7;exact vg o_
   have bj:=ym [1,2,3,4,5,6,7,8] H
   refine fP H 13 ?_
   refine J4 (a:=(fM s.live i).u) (mm:=s.im) (enc:=p_) (k:=.u64) (L' := (Re (gK s.im ((fM s.live i).u)) z (fM s.live i) ub fQ fN s (some s.mb) (fR s.live i (fun _=>(⟨0,0,0,0,0,0,0⟩:Lv))) g x)) 4 rfl rfl rfl yn yg bj rfl rfl ?_
   intro bl af
   obtain⟨bm,bn,bo⟩:=((hU.mem (fM s.live i).u).2 ⟨i,hi,.inl rfl⟩)
   refine fP af 8 ?_
   refine cl IF (HS s.tb s.ab s.t bl (yd af (i:=6) rfl) (fM s.live i).u bm bn bo) ?_
   rintro _ bp ⟨B,rfl,aG,ht⟩
   have X:=yt 6 af ht
   have D:mK s.im s.t (gK s.im ((fM s.live i).u)) B (fM s.live i).u i:=mK.drop hU.keys (hU.nd _) ao bi aG.1 aG.2.1
   refine gf X 7 ?_
   refine tN (?_)
   refine iL (gh X 13 ?_)
   refine mF (i:=1) rfl rfl rfl oS yg rfl iK d_ rfl ?_
   have S:=xk ((fM s.live i).v) X
   refine fP X 10 ?_
   refine Ah (a:=(fM s.live i).v) (mm:=(gK s.im ((fM s.live i).u))) (enc:=p_) (k:=.u64) 5 rfl rfl rfl yn yg nH rfl S rfl (tQ (v:=((fU (gK s.im ((fM s.live i).u)) ((fM s.live i).v)).1)) rfl rfl (fP S 5 ?_))
   refine mv (v:=((fU (gK s.im ((fM s.live i).u)) ((fM s.live i).v)).1)) rfl rfl ?_
   have bq:=((D.get (fM s.live i).v i).2 ⟨(hU.inc (fM s.live i).v i).2 ⟨hi,.inr rfl⟩,fun e=>absurd e.symm hne⟩)
   obtain⟨q,aH,aI,br⟩:=Gp bq (D.nd hU.nd _)
   have bs:q<(gx (fU (gK s.im ((fM s.live i).u)) ((fM s.live i).v)).2).length:=(zd.1 aI).1
   have aJ:(gx (fU (gK s.im ((fM s.live i).u)) ((fM s.live i).v)).2).length<=1000000:=by rw[gx,zr];exact z7 (inc_le hU D _) d_
   refine fP S 1 ?_
   refine cl IZ (Hg ((fU (gK s.im ((fM s.live i).u)) ((fM s.live i).v)).1) (gx (fU (gK s.im ((fM s.live i).u)) ((fM s.live i).v)).2) (i:Int) q bp (wI S (i:=0) rfl (Gf (by rw[gx,zr]at aJ;exact fun j hj=>H7 hU (fun _ h=>((D.get _ _).1 h).1) hj))).any aJ aI br) ?_
   rintro _ bt ⟨rfl,bu⟩
   have U:=y8 S bu
   refine fP U 6 ?_
   refine cmp rfl rfl rfl (pS o_) (fP U 4 ?_)
   refine mv (v:=((fU (gK s.im ((fM s.live i).u)) ((fM s.live i).v)).1)) rfl rfl (fP U 2 ?_)
   refine ar (e:=((q+1:Nat):Int)) rfl rfl rfl rfl (by rw[iV o_];omega) (cl IL (Gy ((fU (gK s.im ((fM s.live i).u)) ((fM s.live i).v)).1) (gx (fU (gK s.im ((fM s.live i).u)) ((fM s.live i).v)).2) bt q (yd U (i:=0) rfl) bs) ?_)
   rintro G bS ht
   have h9v₄:=yt 0 U ht
   rw[F7]at h9v₄
   have J:=h9v₄
   refine fP J 7 ?_
   refine kZ (m:=(gx ((fU (gK s.im ((fM s.live i).u)) ((fM s.live i).v)).2.eraseIdx q)).length) 0 rfl rfl yh J rfl ?_
   by_cases aK:((((gx ((fU (gK s.im ((fM s.live i).u)) ((fM s.live i).v)).2.eraseIdx q)).length:Nat):Int):Int)>(0:Int)
   . have bv:(fU (gK s.im ((fM s.live i).u)) ((fM s.live i).v)).2.eraseIdx q≠[]:=by intro e9;have h7:=@aK;rw[e9]at h7;simp[gx]at h7
     refine fP J 12 ?_
     refine EL (a:=(fM s.live i).v) (c:=(G,(fU (gK s.im ((fM s.live i).u)) ((fM s.live i).v)).2.eraseIdx q)) (mm:=(gK s.im ((fM s.live i).u))) (enc:=p_) (k:=.u64) (L' := [iA .i64 G 3 (gx ((fU (gK s.im ((fM s.live i).u)) ((fM s.live i).v)).2.eraseIdx q)),iM 3 (gK (gK s.im ((fM s.live i).u)) ((fM s.live i).v)),blk z 42 (Z4 (fM s.live i)),blk ub 101 (Z5 fQ fN s (some s.mb)),fV Lv.cells s.lv 42 7 (fR s.live i (fun _=>(⟨0,0,0,0,0,0,0⟩:Lv))),gR s.mb .u64 p_ (gm (gK s.im ((fM s.live i).u)) ((fM s.live i).v) (G,(fU (gK s.im ((fM s.live i).u)) ((fM s.live i).v)).2.eraseIdx q)),(AW.R s.iN g),(vF s B),blk x 42 Zu]) 5 rfl rfl rfl rfl yn yg J rfl rfl ?_
     intro bT aL
     have aM:=xd aL
     have bw:mK (gK s.im ((fM s.live i).u)) B (gm (gK s.im ((fM s.live i).u)) ((fM s.live i).v) (G,(fU (gK s.im ((fM s.live i).u)) ((fM s.live i).v)).2.eraseIdx q)) B (fM s.live i).v i:=mK.keep (D.nd hU.nd _) aH bv
     refine gf aL 10 ?_
     refine tN (?_)
     refine iL (gh aM 15 ?_)
     refine mD (L' := (JI (gm (gK s.im ((fM s.live i).u)) ((fM s.live i).v) (G,(fU (gK s.im ((fM s.live i).u)) ((fM s.live i).v)).2.eraseIdx q)) z (fM s.live i) ub fQ fN s (some s.mb) (fR s.live i (fun _=>(⟨0,0,0,0,0,0,0⟩:Lv))) g B x)) 7 rfl rfl rfl rfl jq rfl rfl aM rfl rfl rfl rfl (fun bU ag=>gf ag 4 ?_)
     refine qw (v:=(Ai (fM s.live i))) (v' := Zc) ED (p5 (cs:=(Z4 (fM s.live i))) rfl oW rfl jq rfl (mW ag (i:=7) (o:=0) (vs:=(Z4 (fM s.live i))) rfl rfl)) (qO rfl) ?_
     have aN:=ym [2,3,4,0,5,6,1,7] ag
     have hto:=(y0 aN (i:=5) rfl:B.ok)
     have hrem:=hU.rem hi W hA9 hto D bw (lv2:=s.lv) (ls:=fR s.live i (fun _=>(⟨0,0,0,0,0,0,0⟩:Lv))) rfl
     exact⟨(⟨s.iN,s.tb,s.ab,s.mb,s.lv,s.last,g,B,fR s.live i (fun _=>(⟨0,0,0,0,0,0,0⟩:Lv)),(gm (gK s.im ((fM s.live i).u)) ((fM s.live i).v) (G,(fU (gK s.im ((fM s.live i).u)) ((fM s.live i).v)).2.eraseIdx q))⟩:fW),rfl,⟨hrem.2,rfl⟩,yv (yx (p:=fW.ok fQ fN (⟨s.iN,s.tb,s.ab,s.mb,s.lv,s.last,g,B,fR s.live i (fun _=>(⟨0,0,0,0,0,0,0⟩:Lv)),(gm (gK s.im ((fM s.live i).u)) ((fM s.live i).v) (G,(fU (gK s.im ((fM s.live i).u)) ((fM s.live i).v)).2.eraseIdx q))⟩:fW)) (yc [_,_,_,_,_,_] _ aN) hrem.1) zg⟩
   . have bx:(fU (gK s.im ((fM s.live i).u)) ((fM s.live i).v)).2.eraseIdx q=[]:=by have h7:=@aK;simp only[gx,zr]at h7;exact vg o_
     have bz:=ym [1,2,3,4,5,6,7,8] J
     refine fP J 13 ?_
     refine J4 (a:=(fM s.live i).v) (mm:=(gK s.im ((fM s.live i).u))) (enc:=p_) (k:=.u64) (L' := [iM 3 (gK (gK s.im ((fM s.live i).u)) ((fM s.live i).v)),blk z 42 (Z4 (fM s.live i)),blk ub 101 (Z5 fQ fN s (some s.mb)),fV Lv.cells s.lv 42 7 (fR s.live i (fun _=>(⟨0,0,0,0,0,0,0⟩:Lv))),gR s.mb .u64 p_ (gK (gK s.im ((fM s.live i).u)) ((fM s.live i).v)),(AW.R s.iN g),(vF s B),blk x 42 Zu]) 4 rfl rfl rfl yn yg bz rfl rfl ?_
     intro bA ah
     obtain⟨bB,bC,bD⟩:=((D.mem (fM s.live i).v).2 ⟨(hU.mem (fM s.live i).v).2 ⟨i,hi,.inr rfl⟩,fun e=>absurd e.symm hne⟩)
     refine fP ah 8 ?_
     refine cl IF (HS s.tb s.ab B bA (yd ah (i:=6) rfl) (fM s.live i).v bB bC bD) ?_
     rintro _ bV ⟨V,rfl,aO,ht⟩
     have ai:=yt 6 ah ht
     have bE:mK (gK s.im ((fM s.live i).u)) B (gK (gK s.im ((fM s.live i).u)) ((fM s.live i).v)) V (fM s.live i).v i:=mK.drop (D.keys hU.keys) (D.nd hU.nd _) aH bx aO.1 aO.2.1
     refine gf ai 7 ?_
     refine tN (?_)
     refine iL (gh ai 15 ?_)
     refine mD (L' := (JI (gK (gK s.im ((fM s.live i).u)) ((fM s.live i).v)) z (fM s.live i) ub fQ fN s (some s.mb) (fR s.live i (fun _=>(⟨0,0,0,0,0,0,0⟩:Lv))) g V x)) 7 rfl rfl rfl rfl jq rfl rfl ai rfl rfl rfl rfl (fun bW aj=>gf aj 4 ?_)
     refine qw (v:=(Ai (fM s.live i))) (v' := Zc) ED (p5 (cs:=(Z4 (fM s.live i))) rfl oW rfl jq rfl (mW aj (i:=7) (o:=0) (vs:=(Z4 (fM s.live i))) rfl rfl)) (qO rfl) ?_
     have aP:=ym [2,3,4,0,5,6,1,7] aj
     have hto:=(y0 aP (i:=5) rfl:V.ok)
     have hrem:=hU.rem hi W hA9 hto D bE (lv2:=s.lv) (ls:=fR s.live i (fun _=>(⟨0,0,0,0,0,0,0⟩:Lv))) rfl
     exact⟨(⟨s.iN,s.tb,s.ab,s.mb,s.lv,s.last,g,V,fR s.live i (fun _=>(⟨0,0,0,0,0,0,0⟩:Lv)),(gK (gK s.im ((fM s.live i).u)) ((fM s.live i).v))⟩:fW),rfl,⟨hrem.2,rfl⟩,yv (yx (p:=fW.ok fQ fN (⟨s.iN,s.tb,s.ab,s.mb,s.lv,s.last,g,V,fR s.live i (fun _=>(⟨0,0,0,0,0,0,0⟩:Lv)),(gK (gK s.im ((fM s.live i).u)) ((fM s.live i).v))⟩:fW)) (yc [_,_,_,_,_,_] _ aP) hrem.1) zg⟩
end
section
open Go Go.Sx
theorem Vz(fQ fN:Nat)(w:World)(hv:fQ<=4096)(he:fN<=16384) :
 CR ya 51 #[(Za fQ),(Za fN),ue] w (fun r w' => ∃ (ub:Nat) (s:fW),r = .tuple (Z8 ub)/\((∀ y,¬ s.has y)/\s.last=0)/\gp (gG []) w w' (fW.R fQ fN ub s)):=by
 refine en Tryz.func51 Tryz.ntmps51 ?_
 have hst0:=jB w
 refine gh hst0 10 ?_
 refine cmp rfl rfl rfl (nE o_) (fP hst0 2 ?_)
 refine cmp rfl rfl rfl (tv o_) (fP hst0 3 ?_)
 refine cmp rfl rfl rfl (nE o_) (fP hst0 3 ?_)
 refine cmp rfl rfl rfl (tv o_) (fP hst0 13 ?_)
 refine cl Pp (NG fN w o_) ?_
 rintro _ o ⟨a,f,rfl,q,ht⟩
 have h:=(ou hst0 ht)
 refine fP h 20 ?_
 refine cl aak (Xu fQ o o_) ?_
 rintro _ z ⟨b,d,e,rfl,j,ht⟩
 have k:=(ou h ht)
 refine fP k 24 ?_
 refine mkV p_ .u64 rfl rfl k (fun c A B C t=>lX (pvs:=[(0,(Za fQ)),(1,(Za fN)),(2,ue),(3,(Zb a)),(4,(Zb b)),(6,(.map (some c)))]) (v:=.agg (QB fQ fN a b (some c))) rfl rfl (kV [(0,(Zf fQ)),(1,(Zf fN)),(2,Ce),(3,(Zi a)),(4,(Zi b)),(6,[(.map (some c))])] D9 YT rfl ⟨rfl,rfl,rfl,rfl,rfl,rfl,rfl,rfl,rfl,rfl,rfl,rfl,trivial⟩ rfl) (bx (v:=(.agg (QB fQ fN a b (some c)))) (cs:=(JE fQ fN a b (some c))) rfl rfl rfl t (fun g l D E m=>gf m 5 ?_)))
 refine jm (v:=(Zb g)) (v' := Zc) Tryz.results51 rfl rfl ?_
 have u:St _ [fV Lv.cells Zk 42 7 ([]),blk g 101 (JE fQ fN a b (some c)),gR c .u64 p_ ([]),(TW.R b d e),(AW.R a f)] l:=u6 m 42 7
 have x:St _ [iM 3 [],fV Lv.cells Zk 42 7 ([]),blk g 101 (JE fQ fN a b (some c)),gR c .u64 p_ ([]),(TW.R b d e),(AW.R a f)] l:=St.H6 u
 have n:=ym [2,1,3,0,5,4] x
 have hto:=(y0 n (i:=5) rfl:e.ok)
 have hnew:=fW.uD q hto j.1 j.2.1 he hv a b d c
 exact⟨g,(⟨a,b,d,c,.slice none 0 0,0,f,e,[],[]⟩:fW),rfl,⟨hnew.2,rfl⟩,St.AX (yx (p:=fW.ok fQ fN (⟨a,b,d,c,.slice none 0 0,0,f,e,[],[]⟩:fW)) (yc [_,_,_,_,_,_] _ n) hnew.1) s_⟩
end
section
open Go Go.Sx
theorem W8(fb nb m:Nat)(ed:Int)(xs:List Nd)(w:World)(hf:(zQ fb nb m ed).holds w)(hN:(blk nb 254 (xs.flatMap Nd.cells)).holds w)(hm:xs.length=m)(hb:m<=1000001)(hI:fZ xs)(i:Nat)(hi:i<m) :
 CR ya 211 (Zn fb i) w (fun r w' => r = .tuple (sH ((jk xs i).1:Int) ((jk xs i).2))/\gD [] w w'):=by
 have hup:=hI.up i o_
 refine en Tryz.func211 Tryz.ntmps211 ?_
 have hst0:=jB w
 refine gh hst0 13 ?_
 refine js (o' := i*9+0) (i:=(i:Int)) rfl rfl rfl yj iS o_ o_ (fa (o' := i*9+2) rfl rfl yi rfl gq rfl (ld rfl rfl yf rfl (St.D5 hst0 s_ hN f_ om rfl) (fP hst0 7 ?_)))
 by_cases a:(((fM xs i).up:Int):Int)=(0:Int)
 . refine gf hst0 12 ?_
   refine jm (v:=Zc) (v' := Zq) Fp rfl rfl ?_
   exact⟨by simp only[jk];(repeat' split)<;>(first|rfl|omega),hst0.gI s_⟩
 . refine fP hst0 14 ?_
   refine js (o' := ((fM xs i).up)*9+0) (i:=((fM xs i).up:Int)) rfl rfl rfl yj iS o_ o_ (fa (o' := ((fM xs i).up)*9+0) rfl rfl yi rfl lD rfl (rA (cs:=(Zj ((fM xs ((fM xs i).up)).k0:Int) ((fM xs ((fM xs i).up)).k1:Int))) rfl rfl yw rfl lD rfl (St.Yj hst0 s_ hN f_ om rfl) (gX hst0 4 ?_)))
   refine sO 3 (iL (gh hst0 14 ?_))
   refine mF (i:=0) rfl rfl rfl yw yf rfl gq d_ rfl (fP hst0 8 ?_)
   by_cases b:(((fM xs ((fM xs i).up)).k0:Int):Int)=((i:Int):Int)
   . refine gf hst0 17 ?_
     refine jm (v:=Zc) (v' := Zl) Fp rfl rfl ?_
     exact⟨by simp only[jk];(repeat' split)<;>(first|rfl|omega),hst0.gI s_⟩
   . refine gf hst0 11 ?_
     refine tN (?_)
     refine iL (gh hst0 14 ?_)
     refine mF (i:=1) rfl rfl rfl yw yf rfl gq d_ rfl (fP hst0 8 ?_)
     by_cases c:(((fM xs ((fM xs i).up)).k1:Int):Int)=((i:Int):Int)
     . refine gf hst0 17 ?_
       refine jm (v:=uY) (v' := Zl) Fp rfl rfl ?_
       exact⟨by simp only[jk];(repeat' split)<;>(first|rfl|omega),hst0.gI s_⟩
     . refine gf hst0 11 ?_
       refine tN (?_)
       refine iL (jr hst0 19 ?_)
       refine jm (v:=Zc) (v' := Zq) Fp rfl rfl ?_
       exact⟨by simp only[jk];(repeat' split)<;>(first|rfl|omega),hst0.gI s_⟩
theorem C0(fb nb m:Nat)(ed:Int)(xs:List Nd)(w:World)(hf:(zQ fb nb m ed).holds w)(hN:(blk nb 254 (xs.flatMap Nd.cells)).holds w)(hm:xs.length=m)(hb:m<=1000001)(hI:fZ xs)(i j:Nat)(hi:i<m)(hj:j<m) :
 CR ya 192 (Z2 fb i j) w (fun r w' => r = .bool (kU xs i j)/\gD [] w w'):=by
 refine en Tryz.func192 Tryz.ntmps192 ?_
 have hst0:=jB w
 refine p8 hst0 6 ?_
 refine kS hst0 (fun b a=>?_) (hA:=by refine' gN 7 ?k0;case k0=>refine' gw (fun wq hM=>rv (gZ rfl tM rfl (St.D5 hM s_ hN f_ om rfl))) ?k1;case k1=>refine' gN 7 ?k2;case k2=>refine' gw (fun wq hM=>rv (gZ rfl tM rfl (St.D5 hM s_ hN f_ om rfl))) ?k3;case k3=>exact iT)
 refine oZ tt none a 5 ?_
 by_cases c:((fM xs i).key:Int)<((fM xs j).key:Int)
 . refine gf a 15 ?_
   refine gF (v:=Zl) EG rfl ?_
   exact⟨E4 ((decide_eq_true o_).symm),a.gI s_⟩
 . refine fP a 4 ?_
   by_cases d:((fM xs i).key:Int)=((fM xs j).key:Int)
   . refine fP a 4 ?_
     by_cases e:((i:Int):Int)<((j:Int):Int)
     . refine gf a 7 ?_
       refine gF (v:=Zl) EG rfl ?_
       exact⟨E4 ((decide_eq_true o_).symm),a.gI s_⟩
     . refine gf a 7 ?_
       refine gF (v:=Zq) EG rfl ?_
       exact⟨E4 ((decide_eq_false o_).symm),a.gI s_⟩
   . refine gf a 11 ?_
     refine gF (v:=Zq) EG rfl ?_
     exact⟨E4 ((decide_eq_false o_).symm),a.gI s_⟩
theorem qi(fb nb m:Nat)(ed:Int)(xs:List Nd)(w:World)(hO:Own (Zh fb nb m ed xs) w)(hm:xs.length=m)(hb:m<=1000001)(hI:fZ xs)(i k:Nat)(hi:i<m)(hk:k<m) :
 CR ya 230 #[(Zb fb),(Za i),Zc,(Za k)] w (fun r w' => r = .tuple #[]/\gp (Zh fb nb m ed xs) w w' (Zh fb nb m ed (iP xs i 0 k))):=by
 refine en Tryz.func230 Tryz.ntmps230 ?_
 have hst0:=(yy hO).unpack
 refine gh hst0 9 ?_
 refine js (o' := i*9+0) (i:=(i:Int)) rfl rfl rfl yj iS o_ o_ (fa (o' := i*9+0) rfl rfl yi rfl lD rfl (lV (o:=i*9+0) (o' := i*9+0) (i:=0) rfl rfl rfl yw gq d_ rfl (lM (L' := [blk fb 250 (Zm fb nb m ed),blk nb 254 ((fR xs i (fun x=>{ x with k0:=k })).flatMap Nd.cells)]) 1 rfl rfl rfl rfl gq rfl rfl hst0 rfl (jF (cf:=Nd.cells) (sz:=9) (k:=i) (off:=0) (n:=1) f_ om (za rfl)) (jG (cf:=Nd.cells) (sz:=9) (k:=i) (off:=0) f_ om rfl (za rfl)) rfl (fun c a d=>fP a 5 ?_))))
 by_cases e:((k:Int):Int)=(0:Int)
 . refine gf a 5 ?_
   refine jf EO ?_
   have e9:iP xs i 0 k=fR xs i (fun x=>{ x with k0:=k }):=by simp only[iP,reduceIte,BS];(repeat' split)<;>(first|rfl|omega)
   have hs9:=a
   rw[<-e9]at hs9
   exact⟨rfl,yr (yc [_,_] [] hs9)⟩
 . refine fP a 11 ?_
   refine js (o' := k*9+0) (i:=(k:Int)) rfl rfl rfl yj iS o_ o_ (fa (o' := k*9+2) rfl rfl yi rfl gq rfl (lM (L' := [blk fb 250 (Zm fb nb m ed),blk nb 254 ((fR (fR xs i (fun x=>{ x with k0:=k })) k (fun x=>{ x with up:=i })).flatMap Nd.cells)]) 1 rfl rfl rfl rfl gq rfl rfl a rfl (jF (cf:=Nd.cells) (sz:=9) (k:=k) (off:=2) (n:=1) f_ om (za rfl)) (jG (cf:=Nd.cells) (sz:=9) (k:=k) (off:=2) f_ om rfl (za rfl)) rfl (fun f b g=>gf b 1 ?_)))
   refine jf EO ?_
   have e9:iP xs i 0 k=fR (fR xs i (fun x=>{ x with k0:=k })) k (fun x=>{ x with up:=i }):=by simp only[iP,reduceIte,BS];(repeat' split)<;>(first|rfl|omega)
   have hs9:=b
   rw[<-e9]at hs9
   exact⟨rfl,yr (yc [_,_] [] hs9)⟩
theorem qj(fb nb m:Nat)(ed:Int)(xs:List Nd)(w:World)(hO:Own (Zh fb nb m ed xs) w)(hm:xs.length=m)(hb:m<=1000001)(hI:fZ xs)(i k:Nat)(hi:i<m)(hk:k<m) :
 CR ya 230 #[(Zb fb),(Za i),uY,(Za k)] w (fun r w' => r = .tuple #[]/\gp (Zh fb nb m ed xs) w w' (Zh fb nb m ed (iP xs i 1 k))):=by
 refine en Tryz.func230 Tryz.ntmps230 ?_
 have hst0:=(yy hO).unpack
 refine gh hst0 9 ?_
 refine js (o' := i*9+0) (i:=(i:Int)) rfl rfl rfl yj iS o_ o_ (fa (o' := i*9+0) rfl rfl yi rfl lD rfl (lV (o:=i*9+0) (o' := i*9+1) (i:=1) rfl rfl rfl yw gq d_ rfl (lM (L' := [blk fb 250 (Zm fb nb m ed),blk nb 254 ((fR xs i (fun x=>{ x with k1:=k })).flatMap Nd.cells)]) 1 rfl rfl rfl rfl gq rfl rfl hst0 rfl (jF (cf:=Nd.cells) (sz:=9) (k:=i) (off:=1) (n:=1) f_ om (za rfl)) (jG (cf:=Nd.cells) (sz:=9) (k:=i) (off:=1) f_ om rfl (za rfl)) rfl (fun c a d=>fP a 5 ?_))))
 by_cases e:((k:Int):Int)=(0:Int)
 . refine gf a 5 ?_
   refine jf EO ?_
   have e9:iP xs i 1 k=fR xs i (fun x=>{ x with k1:=k }):=by simp only[iP,reduceIte,BS];(repeat' split)<;>(first|rfl|omega)
   have hs9:=a
   rw[<-e9]at hs9
   exact⟨rfl,yr (yc [_,_] [] hs9)⟩
 . refine fP a 11 ?_
   refine js (o' := k*9+0) (i:=(k:Int)) rfl rfl rfl yj iS o_ o_ (fa (o' := k*9+2) rfl rfl yi rfl gq rfl (lM (L' := [blk fb 250 (Zm fb nb m ed),blk nb 254 ((fR (fR xs i (fun x=>{ x with k1:=k })) k (fun x=>{ x with up:=i })).flatMap Nd.cells)]) 1 rfl rfl rfl rfl gq rfl rfl a rfl (jF (cf:=Nd.cells) (sz:=9) (k:=k) (off:=2) (n:=1) f_ om (za rfl)) (jG (cf:=Nd.cells) (sz:=9) (k:=k) (off:=2) f_ om rfl (za rfl)) rfl (fun f b g=>gf b 1 ?_)))
   refine jf EO ?_
   have e9:iP xs i 1 k=fR (fR xs i (fun x=>{ x with k1:=k })) k (fun x=>{ x with up:=i }):=by simp only[iP,reduceIte,BS];(repeat' split)<;>(first|rfl|omega)
   have hs9:=b
   rw[<-e9]at hs9
   exact⟨rfl,yr (yc [_,_] [] hs9)⟩
theorem HQ(fb nb m:Nat)(ed:Int)(xs:List Nd)(w:World)(hO:Own (Zh fb nb m ed xs) w)(hm:xs.length=m)(hb:m<=1000001)(hI:fZ xs)(i:Nat)(hi:i<m) :
 CR ya 213 (Zn fb i) w (fun r w' => r = .tuple #[]/\gp (Zh fb nb m ed xs) w w' (Zh fb nb m ed (jK xs i))):=by
 refine en Tryz.func213 Tryz.ntmps213 ?_
 have hst0:=(yy hO).unpack
 refine gh hst0 7 ?_
 refine js (o' := i*9+0) (i:=(i:Int)) rfl rfl rfl yj iS om o_ (fP hst0 8 ?_)
 refine fa (o' := i*9+3) rfl rfl yi rfl qM rfl (ld rfl rfl ny rfl (yz hst0 (i:=1) rfl f_ om rfl) (gX hst0 3 ?_))
 cases L:((fM xs i).flip:Bool)
 . skip
   refine jr hst0 3 ?_
   refine BL Cn ?_
   have e9:jK xs i=xs:=by simp only[jK];(repeat' split)<;>(first|rfl|omega|simp_all)
   have hs9:=hst0
   rw[<-e9]at hs9
   exact⟨rfl,yr (yc [_,_] [] hs9)⟩
 . skip
   refine gh hst0 7 ?_
   refine fa (o' := i*9+3) rfl rfl yi rfl qM rfl (lM (L' := [blk fb 250 (Zm fb nb m ed),blk nb 254 ((fR xs i (fun x=>{ x with flip:=false })).flatMap Nd.cells)]) 1 rfl rfl rfl rfl qM rfl rfl hst0 rfl (jF (cf:=Nd.cells) (sz:=9) (k:=i) (off:=3) (n:=1) f_ om (za rfl)) (jG (cf:=Nd.cells) (sz:=9) (k:=i) (off:=3) f_ om rfl (za rfl)) rfl ?_)
   intro M y N
   have s:fZ (fR xs i (fun x=>{ x with flip:=false })):=fZ.iE hI om (fun x a b c d e=>⟨a,b,c,d,e⟩)
   obtain⟨j,z,O,s,y⟩:=iF (m:=m) s y
   refine gX y 3 ?_
   refine oE (Γ:=Unit) mixed [[],[],[],[2],[2,3],[2,3,4],[2,3,4,5],[],[7],[7,8],[7,8,9],[7,8,9,10],[0],[0,12],[0,2,3,4,5,6,7,8,9,10,11,12,13],[0,2,3,4,5,6,7,8,9,10,11,12,13,14],[1],[1,16],[0,1,2,3,4,5,6,7,8,9,10,11,12,13,14,15,16,17],[0,1,2,3,4,5,6,7,8,9,10,11,12,13,14,15,16,17,18]] [15,19] d_ [fun _=>(Zw nb (i*9+0)),fun _=>(Zw nb (i*9+0)),fun _=>(Zw nb (i*9+0)),fun _=>(Zw nb (i*9+0)),fun _=>(Zw nb (i*9+0)),fun _=>(Zw nb (i*9+1)),fun _=>(Za ((fM j i).k1:Int)),fun _=>(Zw nb (i*9+0)),fun _=>(Zw nb (i*9+0)),fun _=>(Zw nb (i*9+0)),fun _=>(Zw nb (i*9+0)),fun _=>(Za ((fM j i).k0:Int)),fun _=>(Zw nb (i*9+0)),fun _=>(Zw nb (i*9+0)),fun _=>(Zw nb (i*9+0)),fun _=>undef,fun _=>(Zw nb (i*9+0)),fun _=>(Zw nb (i*9+0)),fun _=>(Zw nb (i*9+1)),fun _=>undef] [(fun _=>(J2 fb nb m ed j),fun _ _=>True),(fun _=>[blk fb 250 (Zm fb nb m ed),blk nb 254 ((fR j i (fun x=>{ x with k0:=((fM j i).k1) })).flatMap Nd.cells)],fun _ _=>True),(fun _=>[blk fb 250 (Zm fb nb m ed),blk nb 254 ((fR (fR j i (fun x=>{ x with k0:=((fM j i).k1) })) i (fun x=>{ x with k1:=((fM j i).k0) })).flatMap Nd.cells)],fun _ _=>True)] () _ rfl y (fun _ _=>trivial) ?_ f_ rfl ?_
   . skip
     refine gC (fun _ _=>iD (v:=(Zw nb (i*9+0))) rfl) ?_
     refine gC (fun _ _=>iD (v:=(Zw nb (i*9+0))) rfl) ?_
     refine gC (fun _ _=>iD (v:=(Zw nb (i*9+0))) rfl) ?_
     refine gC (fun _ _=>jY rfl) ?_
     refine gC (fun _ _=>jL (o' := i*9+0) rfl yi rfl lD rfl) ?_
     refine gC (fun _ _=>uw (o:=i*9+0) (o' := i*9+1) (i:=1) rfl rfl yw gq d_ rfl) ?_
     refine lU rfl rfl rfl rfl (fun _ wq hM hF=>qv rfl rfl (gZ rfl yf rfl (yz hM (i:=1) rfl f_ om rfl))) (gC (fun _ _=>iD (v:=(Zw nb (i*9+0))) rfl) ?_)
     refine gC (fun _ _=>jY rfl) ?_
     refine gC (fun _ _=>jL (o' := i*9+0) rfl yi rfl lD rfl) ?_
     refine gC (fun _ _=>uw (o:=i*9+0) (o' := i*9+0) (i:=0) rfl rfl yw gq d_ rfl) ?_
     refine lU rfl rfl rfl rfl (fun _ wq hM hF=>qv rfl rfl (gZ rfl yf rfl (yz hM (i:=1) rfl f_ om rfl))) (gC (fun _ _=>jY rfl) ?_)
     refine gC (fun _ _=>jL (o' := i*9+0) rfl yi rfl lD rfl) ?_
     refine gC (fun _ _=>uw (o:=i*9+0) (o' := i*9+0) (i:=0) rfl rfl yw gq d_ rfl) ?_
     refine kg rfl rfl rfl rfl (fun _ wq hM hF=>ni (L' := [blk fb 250 (Zm fb nb m ed),blk nb 254 ((fR j i (fun x=>{ x with k0:=((fM j i).k1) })).flatMap Nd.cells)]) 1 rfl rfl rfl rfl gq rfl rfl hM rfl (nV (jF (cf:=Nd.cells) (sz:=9) (k:=i) (off:=0) (n:=1) f_ om (za rfl))) (jG (cf:=Nd.cells) (sz:=9) (k:=i) (off:=0) f_ om rfl (za rfl)) rfl (fun _ h=>⟨(),⟨h,trivial⟩,rfl,jR.refl _ _ _⟩)) (gC (fun _ _=>jY rfl) ?_)
     refine gC (fun _ _=>jL (o' := i*9+0) rfl yi rfl lD rfl) ?_
     refine gC (fun _ _=>uw (o:=i*9+0) (o' := i*9+1) (i:=1) rfl rfl yw gq d_ rfl) ?_
     refine kg rfl rfl rfl rfl (fun _ wq hM hF=>ni (L' := [blk fb 250 (Zm fb nb m ed),blk nb 254 ((fR (fR j i (fun x=>{ x with k0:=((fM j i).k1) })) i (fun x=>{ x with k1:=((fM j i).k0) })).flatMap Nd.cells)]) 1 rfl rfl rfl rfl gq rfl rfl hM rfl (nV (jF (cf:=Nd.cells) (sz:=9) (k:=i) (off:=1) (n:=1) f_ om (za rfl))) (jG (cf:=Nd.cells) (sz:=9) (k:=i) (off:=1) f_ om rfl (za rfl)) rfl (fun _ h=>⟨(),⟨h,trivial⟩,rfl,jR.refl _ _ _⟩)) ?_
     exact og
   rintro-P l -
   have G:fZ (fR j i (fun x=>{ x with k0:=((fM j i).k1) })):=fZ.iE s om (fun x a b c d e=>⟨(o9 (s.k1 i om)),b,c,d,e⟩)
   have g:fZ (fR (fR j i (fun x=>{ x with k0:=((fM j i).k1) })) i (fun x=>{ x with k1:=((fM j i).k0) })):=fZ.iE G om (fun x a b c d e=>⟨a,(o9 (s.k0 i om)),c,d,e⟩)
   obtain⟨f,A,Q,g,l⟩:=iF (m:=m) g l
   refine oZ tt none l 5 ?_
   refine fa (o' := i*9+0) rfl rfl yi rfl lD rfl (rA (cs:=(Zj ((fM f i).k0:Int) ((fM f i).k1:Int))) rfl rfl yw rfl lD rfl (St.Mb l (i:=1) rfl f_ om rfl) (gX l 4 ?_))
   refine sO 3 (iL (gh l 13 ?_))
   refine mF (i:=0) rfl rfl rfl yw yf rfl gq d_ rfl (fP l 6 ?_)
   by_cases R:(((fM f i).k0:Int):Int)=(0:Int)
   . refine gf l 11 ?_
     refine tN (?_)
     refine iL (gh l 13 ?_)
     refine mF (i:=1) rfl rfl rfl yw yf rfl gq d_ rfl (fP l 6 ?_)
     by_cases S:(((fM f i).k1:Int):Int)=(0:Int)
     . refine gf l 11 ?_
       refine tN (?_)
       refine iL (jr l 11 ?_)
       refine jf Cn ?_
       have e9:jK xs i=f:=by subst A;subst z;simp only[jK];(repeat' split)<;>(first|rfl|omega|simp_all)
       have hs9:=l
       rw[<-e9]at hs9
       exact⟨rfl,yr (yc [_,_] [] hs9)⟩
     . refine gX l 4 ?_
       refine jD l 16 ?_ (hA:=by refine' gN 10 ?k0;case k0=>refine' gw (fun wq hM=>rv (oN (o' := ((fM f i).k1)*9+0) (i:=((fM f i).k1:Int)) rfl rfl yj iS (o9 (show ((fM f i).k1)<(f).length from(o9 (g.k1 i om)))) o_)) ?k1;case k1=>refine' gN 1 ?k2;case k2=>refine' gw (fun wq hM=>rv (gZ rfl ny rfl (yz hM (i:=1) rfl f_ (o9 (g.k1 i om)) rfl))) ?k3;case k3=>refine' gN 1 ?k4;case k4=>refine' gw (fun wq hM=>rv (oN (o' := ((fM f i).k1)*9+0) (i:=((fM f i).k1:Int)) rfl rfl yj iS (o9 (show ((fM f i).k1)<(f).length from(o9 (g.k1 i om)))) o_)) ?k5;case k5=>exact iT)
       intro wq hM
       refine ni (L' := [blk fb 250 (Zm fb nb m ed),blk nb 254 ((fR f ((fM f i).k1) (fun x=>{ x with flip := !((fM f ((fM f i).k1)).flip) })).flatMap Nd.cells)]) 1 rfl rfl rfl rfl qM rfl rfl hM rfl (nV (jF (cf:=Nd.cells) (sz:=9) (k:=((fM f i).k1)) (off:=3) (n:=1) f_ (o9 (g.k1 i om)) (za rfl))) (jG (cf:=Nd.cells) (sz:=9) (k:=((fM f i).k1)) (off:=3) f_ (o9 (g.k1 i om)) rfl (za rfl)) rfl (fun _ h=>(jC h (fun U t=>?_)))
       have C:fZ (fR f ((fM f i).k1) (fun x=>{ x with flip := !((fM f ((fM f i).k1)).flip) })):=fZ.iE g (o9 (g.k1 i om)) (fun x a b c d e=>⟨a,b,c,d,e⟩)
       obtain⟨H,I,V,C,t⟩:=iF (m:=m) C t
       refine jE tt none t 6 ?_
       refine tN (?_)
       refine iL (jr t 11 ?_)
       refine jf Cn ?_
       have e9:jK xs i=H:=by subst I;subst A;subst z;simp only[jK];(repeat' split)<;>(first|rfl|omega|simp_all)
       have hs9:=t
       rw[<-e9]at hs9
       exact⟨rfl,yr (yc [_,_] [] hs9)⟩
   . refine gX l 4 ?_
     refine jD l 16 ?_ (hA:=by refine' gN 10 ?k0;case k0=>refine' gw (fun wq hM=>rv (oN (o' := ((fM f i).k0)*9+0) (i:=((fM f i).k0:Int)) rfl rfl yj iS (o9 (show ((fM f i).k0)<(f).length from(o9 (g.k0 i om)))) o_)) ?k1;case k1=>refine' gN 1 ?k2;case k2=>refine' gw (fun wq hM=>rv (gZ rfl ny rfl (yz hM (i:=1) rfl f_ (o9 (g.k0 i om)) rfl))) ?k3;case k3=>refine' gN 1 ?k4;case k4=>refine' gw (fun wq hM=>rv (oN (o' := ((fM f i).k0)*9+0) (i:=((fM f i).k0:Int)) rfl rfl yj iS (o9 (show ((fM f i).k0)<(f).length from(o9 (g.k0 i om)))) o_)) ?k5;case k5=>exact iT)
     intro wq hM
     refine ni (L' := [blk fb 250 (Zm fb nb m ed),blk nb 254 ((fR f ((fM f i).k0) (fun x=>{ x with flip := !((fM f ((fM f i).k0)).flip) })).flatMap Nd.cells)]) 1 rfl rfl rfl rfl qM rfl rfl hM rfl (nV (jF (cf:=Nd.cells) (sz:=9) (k:=((fM f i).k0)) (off:=3) (n:=1) f_ (o9 (g.k0 i om)) (za rfl))) (jG (cf:=Nd.cells) (sz:=9) (k:=((fM f i).k0)) (off:=3) f_ (o9 (g.k0 i om)) rfl (za rfl)) rfl (fun _ h=>(jC h (fun W p=>?_)))
     have B:fZ (fR f ((fM f i).k0) (fun x=>{ x with flip := !((fM f ((fM f i).k0)).flip) })):=fZ.iE g (o9 (g.k0 i om)) (fun x a b c d e=>⟨a,b,c,d,e⟩)
     obtain⟨q,D,X,B,p⟩:=iF (m:=m) B p
     refine jE tt none p 6 ?_
     refine tN (?_)
     refine iL (gh p 13 ?_)
     refine mF (i:=1) rfl rfl rfl yw yf rfl gq d_ rfl (fP p 6 ?_)
     by_cases Y:(((fM f i).k1:Int):Int)=(0:Int)
     . refine gf p 11 ?_
       refine tN (?_)
       refine iL (jr p 11 ?_)
       refine jf Cn ?_
       have e9:jK xs i=q:=by subst D;subst A;subst z;simp only[jK];(repeat' split)<;>(first|rfl|omega|simp_all)
       have hs9:=p
       rw[<-e9]at hs9
       exact⟨rfl,yr (yc [_,_] [] hs9)⟩
     . refine gX p 4 ?_
       refine jD p 16 ?_ (hA:=by refine' gN 10 ?k0;case k0=>refine' gw (fun wq hM=>rv (oN (o' := ((fM f i).k1)*9+0) (i:=((fM f i).k1:Int)) rfl rfl yj iS (o9 (show ((fM f i).k1)<(q).length from(o9 (g.k1 i om)))) o_)) ?k1;case k1=>refine' gN 1 ?k2;case k2=>refine' gw (fun wq hM=>rv (gZ rfl ny rfl (yz hM (i:=1) rfl f_ (o9 (g.k1 i om)) rfl))) ?k3;case k3=>refine' gN 1 ?k4;case k4=>refine' gw (fun wq hM=>rv (oN (o' := ((fM f i).k1)*9+0) (i:=((fM f i).k1:Int)) rfl rfl yj iS (o9 (show ((fM f i).k1)<(q).length from(o9 (g.k1 i om)))) o_)) ?k5;case k5=>exact iT)
       intro wq hM
       refine ni (L' := [blk fb 250 (Zm fb nb m ed),blk nb 254 ((fR q ((fM f i).k1) (fun x=>{ x with flip := !((fM q ((fM f i).k1)).flip) })).flatMap Nd.cells)]) 1 rfl rfl rfl rfl qM rfl rfl hM rfl (nV (jF (cf:=Nd.cells) (sz:=9) (k:=((fM f i).k1)) (off:=3) (n:=1) f_ (o9 (g.k1 i om)) (za rfl))) (jG (cf:=Nd.cells) (sz:=9) (k:=((fM f i).k1)) (off:=3) f_ (o9 (g.k1 i om)) rfl (za rfl)) rfl (fun _ h=>(jC h (fun Z u=>?_)))
       have E:fZ (fR q ((fM f i).k1) (fun x=>{ x with flip := !((fM q ((fM f i).k1)).flip) })):=fZ.iE B (o9 (g.k1 i om)) (fun x a b c d e=>⟨a,b,c,d,e⟩)
       obtain⟨J,K,aa,E,u⟩:=iF (m:=m) E u
       refine jE tt none u 6 ?_
       refine tN (?_)
       refine iL (jr u 11 ?_)
       refine jf Cn ?_
       have e9:jK xs i=J:=by subst K;subst D;subst A;subst z;simp only[jK];(repeat' split)<;>(first|rfl|omega|simp_all)
       have hs9:=u
       rw[<-e9]at hs9
       exact⟨rfl,yr (yc [_,_] [] hs9)⟩
end
section
open Go Go.Sx
theorem lI(fb nb m:Nat)(ed:Int)(xs:List Nd)(w:World)(hO:Own (Zh fb nb m ed xs) w)(hm:xs.length=m)(hb:m<=1000001)(hI:fZ xs)(i:Nat)(hi:i<m) :
 CR ya 143 (Zn fb i) w (fun r w' => r = .tuple #[]/\gp (Zh fb nb m ed xs) w w' (Zh fb nb m ed (iJ xs i))):=by
 refine en Tryz.func143 Tryz.ntmps143 ?_
 have hst0:=(yy hO).unpack
 refine gh hst0 7 ?_
 refine js (o' := i*9+0) (i:=(i:Int)) rfl rfl rfl yj iS om o_ (fP hst0 11 ?_)
 refine fa (o' := i*9+7) rfl rfl yi rfl gq rfl (ld rfl rfl yf rfl (yz hst0 (i:=1) rfl f_ om rfl) (ar (e:=(IntKind.i64.wrap (1+(fM xs i).iO))) rfl rfl rfl rfl rfl (fP hst0 1 ?_)))
 refine fa (o' := i*9+5) rfl rfl yi rfl gq rfl (lM (L' := [blk fb 250 (Zm fb nb m ed),blk nb 254 ((fR xs i (fun x=>{ x with size:=1 })).flatMap Nd.cells)]) 1 rfl rfl rfl rfl gq rfl rfl hst0 rfl (jF (cf:=Nd.cells) (sz:=9) (k:=i) (off:=5) (n:=1) f_ om (za rfl)) (jG (cf:=Nd.cells) (sz:=9) (k:=i) (off:=5) f_ om rfl (za rfl)) rfl ?_)
 intro aD al aE
 have aw:fZ (fR xs i (fun x=>{ x with size:=1 })):=fZ.iE hI om (fun x a b c d e=>⟨a,b,c,d,e⟩)
 refine fP al 1 ?_
 refine fa (o' := i*9+6) rfl rfl yi rfl gq rfl (lM (L' := [blk fb 250 (Zm fb nb m ed),blk nb 254 ((fR (fR xs i (fun x=>{ x with size:=1 })) i (fun x=>{ x with first:=i })).flatMap Nd.cells)]) 1 rfl rfl rfl rfl gq rfl rfl al rfl (jF (cf:=Nd.cells) (sz:=9) (k:=i) (off:=6) (n:=1) f_ om (za rfl)) (jG (cf:=Nd.cells) (sz:=9) (k:=i) (off:=6) f_ om rfl (za rfl)) rfl ?_)
 intro aF am aG
 have ax:fZ (fR (fR xs i (fun x=>{ x with size:=1 })) i (fun x=>{ x with first:=i })):=fZ.iE aw om (fun x a b c d e=>⟨a,b,c,om,e⟩)
 refine fP am 1 ?_
 refine fa (o' := i*9+8) rfl rfl yi rfl gq rfl (lM (L' := [blk fb 250 (Zm fb nb m ed),blk nb 254 ((fR (fR (fR xs i (fun x=>{ x with size:=1 })) i (fun x=>{ x with first:=i })) i (fun x=>{ x with total:=(IntKind.i64.wrap (1+(fM xs i).iO)) })).flatMap Nd.cells)]) 1 rfl rfl rfl rfl gq rfl rfl am rfl (jF (cf:=Nd.cells) (sz:=9) (k:=i) (off:=8) (n:=1) f_ om (za rfl)) (jG (cf:=Nd.cells) (sz:=9) (k:=i) (off:=8) f_ om rfl (za rfl)) rfl ?_)
 intro aH an aI
 have ay:fZ (fR (fR (fR xs i (fun x=>{ x with size:=1 })) i (fun x=>{ x with first:=i })) i (fun x=>{ x with total:=(IntKind.i64.wrap (1+(fM xs i).iO)) })):=fZ.iE ax om (fun x a b c d e=>⟨a,b,c,d,e⟩)
 obtain⟨y,hy⟩:∃ y,y=fR xs i (fun x=>{ x with size:=1,first:=i,total:=IntKind.i64.wrap (1+x.iO) }):=⟨_,rfl⟩
 have hs8:=an
 have hIy:=ay
 refine fP an 4 ?_
 rw[Ro o_,<-hy]at hs8 hIy
 have hyl:y.length=m:=by rw[hy,gM,hm]
 refine fP hs8 2 ?_
 refine fa (o' := i*9+0) rfl rfl yi rfl lD rfl (rA (cs:=(Zj ((fM y i).k0:Int) ((fM y i).k1:Int))) rfl rfl yw rfl lD rfl (St.Mb hs8 (i:=1) rfl f_ om rfl) (gX hs8 4 ?_))
 refine sO 3 (iL (gh hs8 13 ?_))
 refine mF (i:=0) rfl rfl rfl yw yf rfl gq d_ rfl (fP hs8 7 ?_)
 by_cases aJ:(((fM y i).k0:Int):Int)=(0:Int)
 . refine gf hs8 12 ?_
   refine tN (?_)
   refine iL (gh hs8 13 ?_)
   refine mF (i:=1) rfl rfl rfl yw yf rfl gq d_ rfl (fP hs8 7 ?_)
   by_cases aK:(((fM y i).k1:Int):Int)=(0:Int)
   . refine gf hs8 12 ?_
     refine tN (?_)
     refine iL (jr hs8 11 ?_)
     refine jf tW ?_
     have e9:iJ xs i=y:=by rw[sY hy o_];first|(rw[rP (k:=(fM y i).k0) o_];rw[rP (k:=(fM y i).k1) o_])
     have hs9:=hs8
     rw[<-e9]at hs9
     exact⟨rfl,yr (yc [_,_] [] hs9)⟩
   . refine fP hs8 13 ?_
     refine js (o' := ((fM y i).k1)*9+0) (i:=((fM y i).k1:Int)) rfl rfl rfl yj iS (o9 (show ((fM y i).k1)<(y).length from(o9 (hIy.k1 i om)))) o_ (gX hs8 4 ?_)
     refine jD hs8 11 ?_ (hA:=by refine' gN 7 ?k0;case k0=>refine' gw (fun wq hM=>rv (gZ rfl yf rfl (yz hM (i:=1) rfl f_ (o9 (hIy.k1 i om)) rfl))) ?k1;case k1=>refine' gw (fun wq hM=>rv (kG (e:=(IntKind.i64.wrap ((fM y i).size+(fM y ((fM y i).k1)).size))) rfl rfl rfl rfl)) ?k2;case k2=>exact iT)
     intro wq hM
     refine ni (L' := [blk fb 250 (Zm fb nb m ed),blk nb 254 ((fR y i (fun x=>{ x with size:=(IntKind.i64.wrap ((fM y i).size+(fM y ((fM y i).k1)).size)) })).flatMap Nd.cells)]) 1 rfl rfl rfl rfl gq rfl rfl hM rfl (nV (jF (cf:=Nd.cells) (sz:=9) (k:=i) (off:=5) (n:=1) f_ om (za rfl))) (jG (cf:=Nd.cells) (sz:=9) (k:=i) (off:=5) f_ om rfl (za rfl)) rfl (fun _ h=>(jC h (fun aL O=>?_)))
     have aa:fZ (fR y i (fun x=>{ x with size:=(IntKind.i64.wrap ((fM y i).size+(fM y ((fM y i).k1)).size)) })):=fZ.iE hIy om (fun x a b c d e=>⟨a,b,c,d,e⟩)
     obtain⟨v,P,aM,aa,O⟩:=iF (m:=m) aa O
     refine kT tt none O 2 ?_
     refine jD O 11 ?_ (hA:=by refine' gN 7 ?k0;case k0=>refine' gw (fun wq hM=>rv (gZ rfl yf rfl (yz hM (i:=1) rfl f_ (o9 (hIy.k1 i om)) rfl))) ?k1;case k1=>refine' gw (fun wq hM=>rv (kG (e:=(IntKind.i64.wrap ((fM v i).total+(fM v ((fM y i).k1)).total))) rfl rfl rfl rfl)) ?k2;case k2=>exact iT)
     intro wq hM
     refine ni (L' := [blk fb 250 (Zm fb nb m ed),blk nb 254 ((fR v i (fun x=>{ x with total:=(IntKind.i64.wrap ((fM v i).total+(fM v ((fM y i).k1)).total)) })).flatMap Nd.cells)]) 1 rfl rfl rfl rfl gq rfl rfl hM rfl (nV (jF (cf:=Nd.cells) (sz:=9) (k:=i) (off:=8) (n:=1) f_ om (za rfl))) (jG (cf:=Nd.cells) (sz:=9) (k:=i) (off:=8) f_ om rfl (za rfl)) rfl (fun _ h=>(jC h (fun aN Q=>?_)))
     have H:fZ (fR v i (fun x=>{ x with total:=(IntKind.i64.wrap ((fM v i).total+(fM v ((fM y i).k1)).total)) })):=fZ.iE aa om (fun x a b c d e=>⟨a,b,c,d,e⟩)
     obtain⟨j,R,aO,H,Q⟩:=iF (m:=m) H Q
     refine kT tt none Q 2 ?_
     refine kS Q (fun aP z=>?_) (hA:=by refine' gN 4 ?k0;case k0=>refine' gw (fun wq hM=>rv (gZ rfl yf rfl (yz hM (i:=1) rfl f_ (o9 (hIy.k1 i om)) rfl))) ?k1;case k1=>refine' gN 4 ?k2;case k2=>refine' gw (fun wq hM=>rc (iX rfl DT) (CR.mono (C0 fb nb m ed j wq (hM.at (i:=0) rfl) (hM.at (i:=1) rfl) oa hb H ((fM j ((fM y i).k1)).first) ((fM j i).first) (o9 (H.first ((fM y i).k1) (o9 (hIy.k1 i om)))) (o9 (H.first i om))) fun _ _ h=>⟨h.1,hM.grow h.2⟩)) ?k3;case k3=>exact iT)
     refine kT tt none z 1 ?_
     cases S:(kU j ((fM j ((fM y i).k1)).first) ((fM j i).first):Bool)
     . skip
       refine jr z 8 ?_
       refine tN (?_)
       refine iL (jr z 11 ?_)
       refine jf tW ?_
       have e9:iJ xs i=j:=by rw[sY hy o_];first|(rw[rP (k:=(fM y i).k0) o_];rw[rV (k:=(fM y i).k1) o_ P R S])|(rw[rV (k:=(fM y i).k0) o_ P R S];rw[rP (k:=(fM y i).k1) o_])
       have hs9:=z
       rw[<-e9]at hs9
       exact⟨rfl,yr (yc [_,_] [] hs9)⟩
     . skip
       refine gh z 5 ?_
       refine fa (o' := ((fM y i).k1)*9+6) rfl rfl yi rfl gq rfl (ld rfl rfl yf rfl (yz z (i:=1) rfl f_ (o9 (hIy.k1 i om)) rfl) (fP z 1 ?_))
       refine fa (o' := i*9+6) rfl rfl yi rfl gq rfl (lM (L' := [blk fb 250 (Zm fb nb m ed),blk nb 254 ((fR j i (fun x=>{ x with first:=((fM j ((fM y i).k1)).first) })).flatMap Nd.cells)]) 1 rfl rfl rfl rfl gq rfl rfl z rfl (jF (cf:=Nd.cells) (sz:=9) (k:=i) (off:=6) (n:=1) f_ om (za rfl)) (jG (cf:=Nd.cells) (sz:=9) (k:=i) (off:=6) f_ om rfl (za rfl)) rfl ?_)
       intro aQ K aR
       have ao:fZ (fR j i (fun x=>{ x with first:=((fM j ((fM y i).k1)).first) })):=fZ.iE H om (fun x a b c d e=>⟨a,b,c,(o9 (H.first ((fM y i).k1) (o9 (hIy.k1 i om)))),e⟩)
       obtain⟨az,ap,aS,ao,K⟩:=iF (m:=m) ao K
       refine gf K 7 ?_
       refine tN (?_)
       refine iL (jr K 11 ?_)
       refine jf tW ?_
       have e9:iJ xs i=az:=by rw[sY hy o_];first|(rw[rP (k:=(fM y i).k0) o_];rw[rU (k:=(fM y i).k1) o_ P R S ap])|(rw[rU (k:=(fM y i).k0) o_ P R S ap];rw[rP (k:=(fM y i).k1) o_])
       have hs9:=K
       rw[<-e9]at hs9
       exact⟨rfl,yr (yc [_,_] [] hs9)⟩
 . refine fP hs8 13 ?_
   refine js (o' := ((fM y i).k0)*9+0) (i:=((fM y i).k0:Int)) rfl rfl rfl yj iS (o9 (show ((fM y i).k0)<(y).length from(o9 (hIy.k0 i om)))) o_ (gX hs8 4 ?_)
   refine jD hs8 11 ?_ (hA:=by refine' gN 7 ?k0;case k0=>refine' gw (fun wq hM=>rv (gZ rfl yf rfl (yz hM (i:=1) rfl f_ (o9 (hIy.k0 i om)) rfl))) ?k1;case k1=>refine' gw (fun wq hM=>rv (kG (e:=(IntKind.i64.wrap ((fM y i).size+(fM y ((fM y i).k0)).size))) rfl rfl rfl rfl)) ?k2;case k2=>exact iT)
   intro wq hM
   refine ni (L' := [blk fb 250 (Zm fb nb m ed),blk nb 254 ((fR y i (fun x=>{ x with size:=(IntKind.i64.wrap ((fM y i).size+(fM y ((fM y i).k0)).size)) })).flatMap Nd.cells)]) 1 rfl rfl rfl rfl gq rfl rfl hM rfl (nV (jF (cf:=Nd.cells) (sz:=9) (k:=i) (off:=5) (n:=1) f_ om (za rfl))) (jG (cf:=Nd.cells) (sz:=9) (k:=i) (off:=5) f_ om rfl (za rfl)) rfl (fun _ h=>(jC h (fun aT U=>?_)))
   have ab:fZ (fR y i (fun x=>{ x with size:=(IntKind.i64.wrap ((fM y i).size+(fM y ((fM y i).k0)).size)) })):=fZ.iE hIy om (fun x a b c d e=>⟨a,b,c,d,e⟩)
   obtain⟨A,q,aU,ab,U⟩:=iF (m:=m) ab U
   refine kT tt none U 2 ?_
   refine jD U 11 ?_ (hA:=by refine' gN 7 ?k0;case k0=>refine' gw (fun wq hM=>rv (gZ rfl yf rfl (yz hM (i:=1) rfl f_ (o9 (hIy.k0 i om)) rfl))) ?k1;case k1=>refine' gw (fun wq hM=>rv (kG (e:=(IntKind.i64.wrap ((fM A i).total+(fM A ((fM y i).k0)).total))) rfl rfl rfl rfl)) ?k2;case k2=>exact iT)
   intro wq hM
   refine ni (L' := [blk fb 250 (Zm fb nb m ed),blk nb 254 ((fR A i (fun x=>{ x with total:=(IntKind.i64.wrap ((fM A i).total+(fM A ((fM y i).k0)).total)) })).flatMap Nd.cells)]) 1 rfl rfl rfl rfl gq rfl rfl hM rfl (nV (jF (cf:=Nd.cells) (sz:=9) (k:=i) (off:=8) (n:=1) f_ om (za rfl))) (jG (cf:=Nd.cells) (sz:=9) (k:=i) (off:=8) f_ om rfl (za rfl)) rfl (fun _ h=>(jC h (fun aV V=>?_)))
   have B:fZ (fR A i (fun x=>{ x with total:=(IntKind.i64.wrap ((fM A i).total+(fM A ((fM y i).k0)).total)) })):=fZ.iE ab om (fun x a b c d e=>⟨a,b,c,d,e⟩)
   obtain⟨f,s,aW,B,V⟩:=iF (m:=m) B V
   refine kT tt none V 2 ?_
   refine kS V (fun aX g=>?_) (hA:=by refine' gN 4 ?k0;case k0=>refine' gw (fun wq hM=>rv (gZ rfl yf rfl (yz hM (i:=1) rfl f_ (o9 (hIy.k0 i om)) rfl))) ?k1;case k1=>refine' gN 4 ?k2;case k2=>refine' gw (fun wq hM=>rc (iX rfl DT) (CR.mono (C0 fb nb m ed f wq (hM.at (i:=0) rfl) (hM.at (i:=1) rfl) oa hb B ((fM f ((fM y i).k0)).first) ((fM f i).first) (o9 (B.first ((fM y i).k0) (o9 (hIy.k0 i om)))) (o9 (B.first i om))) fun _ _ h=>⟨h.1,hM.grow h.2⟩)) ?k3;case k3=>exact iT)
   refine kT tt none g 1 ?_
   cases t:(kU f ((fM f ((fM y i).k0)).first) ((fM f i).first):Bool)
   . skip
     refine jr g 8 ?_
     refine tN (?_)
     refine iL (gh g 13 ?_)
     refine mF (i:=1) rfl rfl rfl yw yf rfl gq d_ rfl (fP g 7 ?_)
     by_cases aY:(((fM y i).k1:Int):Int)=(0:Int)
     . refine gf g 12 ?_
       refine tN (?_)
       refine iL (jr g 11 ?_)
       refine jf tW ?_
       have e9:iJ xs i=f:=by rw[sY hy o_];first|(rw[rP (k:=(fM y i).k0) o_];rw[rV (k:=(fM y i).k1) o_ q s t])|(rw[rV (k:=(fM y i).k0) o_ q s t];rw[rP (k:=(fM y i).k1) o_])
       have hs9:=g
       rw[<-e9]at hs9
       exact⟨rfl,yr (yc [_,_] [] hs9)⟩
     . refine fP g 13 ?_
       refine js (o' := ((fM y i).k1)*9+0) (i:=((fM y i).k1:Int)) rfl rfl rfl yj iS (o9 (show ((fM y i).k1)<(f).length from(o9 (hIy.k1 i om)))) o_ (gX g 4 ?_)
       refine jD g 11 ?_ (hA:=by refine' gN 7 ?k0;case k0=>refine' gw (fun wq hM=>rv (gZ rfl yf rfl (yz hM (i:=1) rfl f_ (o9 (hIy.k1 i om)) rfl))) ?k1;case k1=>refine' gw (fun wq hM=>rv (kG (e:=(IntKind.i64.wrap ((fM f i).size+(fM f ((fM y i).k1)).size))) rfl rfl rfl rfl)) ?k2;case k2=>exact iT)
       intro wq hM
       refine ni (L' := [blk fb 250 (Zm fb nb m ed),blk nb 254 ((fR f i (fun x=>{ x with size:=(IntKind.i64.wrap ((fM f i).size+(fM f ((fM y i).k1)).size)) })).flatMap Nd.cells)]) 1 rfl rfl rfl rfl gq rfl rfl hM rfl (nV (jF (cf:=Nd.cells) (sz:=9) (k:=i) (off:=5) (n:=1) f_ om (za rfl))) (jG (cf:=Nd.cells) (sz:=9) (k:=i) (off:=5) f_ om rfl (za rfl)) rfl (fun _ h=>(jC h (fun aZ W=>?_)))
       have ac:fZ (fR f i (fun x=>{ x with size:=(IntKind.i64.wrap ((fM f i).size+(fM f ((fM y i).k1)).size)) })):=fZ.iE B om (fun x a b c d e=>⟨a,b,c,d,e⟩)
       obtain⟨C,ad,a0,ac,W⟩:=iF (m:=m) ac W
       refine kT tt none W 2 ?_
       refine jD W 11 ?_ (hA:=by refine' gN 7 ?k0;case k0=>refine' gw (fun wq hM=>rv (gZ rfl yf rfl (yz hM (i:=1) rfl f_ (o9 (hIy.k1 i om)) rfl))) ?k1;case k1=>refine' gw (fun wq hM=>rv (kG (e:=(IntKind.i64.wrap ((fM C i).total+(fM C ((fM y i).k1)).total))) rfl rfl rfl rfl)) ?k2;case k2=>exact iT)
       intro wq hM
       refine ni (L' := [blk fb 250 (Zm fb nb m ed),blk nb 254 ((fR C i (fun x=>{ x with total:=(IntKind.i64.wrap ((fM C i).total+(fM C ((fM y i).k1)).total)) })).flatMap Nd.cells)]) 1 rfl rfl rfl rfl gq rfl rfl hM rfl (nV (jF (cf:=Nd.cells) (sz:=9) (k:=i) (off:=8) (n:=1) f_ om (za rfl))) (jG (cf:=Nd.cells) (sz:=9) (k:=i) (off:=8) f_ om rfl (za rfl)) rfl (fun _ h=>(jC h (fun a1 X=>?_)))
       have I:fZ (fR C i (fun x=>{ x with total:=(IntKind.i64.wrap ((fM C i).total+(fM C ((fM y i).k1)).total)) })):=fZ.iE ac om (fun x a b c d e=>⟨a,b,c,d,e⟩)
       obtain⟨l,ae,a2,I,X⟩:=iF (m:=m) I X
       refine kT tt none X 2 ?_
       refine kS X (fun a3 D=>?_) (hA:=by refine' gN 4 ?k0;case k0=>refine' gw (fun wq hM=>rv (gZ rfl yf rfl (yz hM (i:=1) rfl f_ (o9 (hIy.k1 i om)) rfl))) ?k1;case k1=>refine' gN 4 ?k2;case k2=>refine' gw (fun wq hM=>rc (iX rfl DT) (CR.mono (C0 fb nb m ed l wq (hM.at (i:=0) rfl) (hM.at (i:=1) rfl) oa hb I ((fM l ((fM y i).k1)).first) ((fM l i).first) (o9 (I.first ((fM y i).k1) (o9 (hIy.k1 i om)))) (o9 (I.first i om))) fun _ _ h=>⟨h.1,hM.grow h.2⟩)) ?k3;case k3=>exact iT)
       refine kT tt none D 1 ?_
       cases af:(kU l ((fM l ((fM y i).k1)).first) ((fM l i).first):Bool)
       . skip
         refine jr D 8 ?_
         refine tN (?_)
         refine iL (jr D 11 ?_)
         refine jf tW ?_
         have e9:iJ xs i=l:=by rw[sY hy o_];first|(rw[rV (k:=(fM y i).k0) o_ q s t];rw[rV (k:=(fM y i).k1) o_ ad ae af])
         have hs9:=D
         rw[<-e9]at hs9
         exact⟨rfl,yr (yc [_,_] [] hs9)⟩
       . skip
         refine gh D 5 ?_
         refine fa (o' := ((fM y i).k1)*9+6) rfl rfl yi rfl gq rfl (ld rfl rfl yf rfl (yz D (i:=1) rfl f_ (o9 (hIy.k1 i om)) rfl) (fP D 1 ?_))
         refine fa (o' := i*9+6) rfl rfl yi rfl gq rfl (lM (L' := [blk fb 250 (Zm fb nb m ed),blk nb 254 ((fR l i (fun x=>{ x with first:=((fM l ((fM y i).k1)).first) })).flatMap Nd.cells)]) 1 rfl rfl rfl rfl gq rfl rfl D rfl (jF (cf:=Nd.cells) (sz:=9) (k:=i) (off:=6) (n:=1) f_ om (za rfl)) (jG (cf:=Nd.cells) (sz:=9) (k:=i) (off:=6) f_ om rfl (za rfl)) rfl ?_)
         intro a4 L a5
         have aq:fZ (fR l i (fun x=>{ x with first:=((fM l ((fM y i).k1)).first) })):=fZ.iE I om (fun x a b c d e=>⟨a,b,c,(o9 (I.first ((fM y i).k1) (o9 (hIy.k1 i om)))),e⟩)
         obtain⟨aA,au,a6,aq,L⟩:=iF (m:=m) aq L
         refine gf L 7 ?_
         refine tN (?_)
         refine iL (jr L 11 ?_)
         refine jf tW ?_
         have e9:iJ xs i=aA:=by rw[sY hy o_];first|(rw[rV (k:=(fM y i).k0) o_ q s t];rw[rU (k:=(fM y i).k1) o_ ad ae af au])|(rw[rU (k:=(fM y i).k0) o_ q s t ad];rw[rV (k:=(fM y i).k1) o_ ae au af])
         have hs9:=L
         rw[<-e9]at hs9
         exact⟨rfl,yr (yc [_,_] [] hs9)⟩
   . skip
     refine gh g 5 ?_
     refine fa (o' := ((fM y i).k0)*9+6) rfl rfl yi rfl gq rfl (ld rfl rfl yf rfl (yz g (i:=1) rfl f_ (o9 (hIy.k0 i om)) rfl) (fP g 1 ?_))
     refine fa (o' := i*9+6) rfl rfl yi rfl gq rfl (lM (L' := [blk fb 250 (Zm fb nb m ed),blk nb 254 ((fR f i (fun x=>{ x with first:=((fM f ((fM y i).k0)).first) })).flatMap Nd.cells)]) 1 rfl rfl rfl rfl gq rfl rfl g rfl (jF (cf:=Nd.cells) (sz:=9) (k:=i) (off:=6) (n:=1) f_ om (za rfl)) (jG (cf:=Nd.cells) (sz:=9) (k:=i) (off:=6) f_ om rfl (za rfl)) rfl ?_)
     intro a7 o a8
     have ag:fZ (fR f i (fun x=>{ x with first:=((fM f ((fM y i).k0)).first) })):=fZ.iE B om (fun x a b c d e=>⟨a,b,c,(o9 (B.first ((fM y i).k0) (o9 (hIy.k0 i om)))),e⟩)
     obtain⟨u,M,a9,ag,o⟩:=iF (m:=m) ag o
     refine gf o 7 ?_
     refine tN (?_)
     refine iL (gh o 13 ?_)
     refine mF (i:=1) rfl rfl rfl yw yf rfl gq d_ rfl (fP o 7 ?_)
     by_cases ba:(((fM y i).k1:Int):Int)=(0:Int)
     . refine gf o 12 ?_
       refine tN (?_)
       refine iL (jr o 11 ?_)
       refine jf tW ?_
       have e9:iJ xs i=u:=by rw[sY hy o_];first|(rw[rP (k:=(fM y i).k0) o_];rw[rU (k:=(fM y i).k1) o_ q s t M])|(rw[rU (k:=(fM y i).k0) o_ q s t M];rw[rP (k:=(fM y i).k1) o_])
       have hs9:=o
       rw[<-e9]at hs9
       exact⟨rfl,yr (yc [_,_] [] hs9)⟩
     . refine fP o 13 ?_
       refine js (o' := ((fM y i).k1)*9+0) (i:=((fM y i).k1:Int)) rfl rfl rfl yj iS (o9 (show ((fM y i).k1)<(u).length from(o9 (hIy.k1 i om)))) o_ (gX o 4 ?_)
       refine jD o 11 ?_ (hA:=by refine' gN 7 ?k0;case k0=>refine' gw (fun wq hM=>rv (gZ rfl yf rfl (yz hM (i:=1) rfl f_ (o9 (hIy.k1 i om)) rfl))) ?k1;case k1=>refine' gw (fun wq hM=>rv (kG (e:=(IntKind.i64.wrap ((fM u i).size+(fM u ((fM y i).k1)).size))) rfl rfl rfl rfl)) ?k2;case k2=>exact iT)
       intro wq hM
       refine ni (L' := [blk fb 250 (Zm fb nb m ed),blk nb 254 ((fR u i (fun x=>{ x with size:=(IntKind.i64.wrap ((fM u i).size+(fM u ((fM y i).k1)).size)) })).flatMap Nd.cells)]) 1 rfl rfl rfl rfl gq rfl rfl hM rfl (nV (jF (cf:=Nd.cells) (sz:=9) (k:=i) (off:=5) (n:=1) f_ om (za rfl))) (jG (cf:=Nd.cells) (sz:=9) (k:=i) (off:=5) f_ om rfl (za rfl)) rfl (fun _ h=>(jC h (fun bb Y=>?_)))
       have ah:fZ (fR u i (fun x=>{ x with size:=(IntKind.i64.wrap ((fM u i).size+(fM u ((fM y i).k1)).size)) })):=fZ.iE ag om (fun x a b c d e=>⟨a,b,c,d,e⟩)
       obtain⟨E,ai,bc,ah,Y⟩:=iF (m:=m) ah Y
       refine kT tt none Y 2 ?_
       refine jD Y 11 ?_ (hA:=by refine' gN 7 ?k0;case k0=>refine' gw (fun wq hM=>rv (gZ rfl yf rfl (yz hM (i:=1) rfl f_ (o9 (hIy.k1 i om)) rfl))) ?k1;case k1=>refine' gw (fun wq hM=>rv (kG (e:=(IntKind.i64.wrap ((fM E i).total+(fM E ((fM y i).k1)).total))) rfl rfl rfl rfl)) ?k2;case k2=>exact iT)
       intro wq hM
       refine ni (L' := [blk fb 250 (Zm fb nb m ed),blk nb 254 ((fR E i (fun x=>{ x with total:=(IntKind.i64.wrap ((fM E i).total+(fM E ((fM y i).k1)).total)) })).flatMap Nd.cells)]) 1 rfl rfl rfl rfl gq rfl rfl hM rfl (nV (jF (cf:=Nd.cells) (sz:=9) (k:=i) (off:=8) (n:=1) f_ om (za rfl))) (jG (cf:=Nd.cells) (sz:=9) (k:=i) (off:=8) f_ om rfl (za rfl)) rfl (fun _ h=>(jC h (fun bd Z=>?_)))
       have J:fZ (fR E i (fun x=>{ x with total:=(IntKind.i64.wrap ((fM E i).total+(fM E ((fM y i).k1)).total)) })):=fZ.iE ah om (fun x a b c d e=>⟨a,b,c,d,e⟩)
       obtain⟨p,aj,be,J,Z⟩:=iF (m:=m) J Z
       refine kT tt none Z 2 ?_
       refine kS Z (fun bf G=>?_) (hA:=by refine' gN 4 ?k0;case k0=>refine' gw (fun wq hM=>rv (gZ rfl yf rfl (yz hM (i:=1) rfl f_ (o9 (hIy.k1 i om)) rfl))) ?k1;case k1=>refine' gN 4 ?k2;case k2=>refine' gw (fun wq hM=>rc (iX rfl DT) (CR.mono (C0 fb nb m ed p wq (hM.at (i:=0) rfl) (hM.at (i:=1) rfl) oa hb J ((fM p ((fM y i).k1)).first) ((fM p i).first) (o9 (J.first ((fM y i).k1) (o9 (hIy.k1 i om)))) (o9 (J.first i om))) fun _ _ h=>⟨h.1,hM.grow h.2⟩)) ?k3;case k3=>exact iT)
       refine kT tt none G 1 ?_
       cases ak:(kU p ((fM p ((fM y i).k1)).first) ((fM p i).first):Bool)
       . skip
         refine jr G 8 ?_
         refine tN (?_)
         refine iL (jr G 11 ?_)
         refine jf tW ?_
         have e9:iJ xs i=p:=by rw[sY hy o_];first|(rw[rV (k:=(fM y i).k0) o_ q s t];rw[rU (k:=(fM y i).k1) o_ M ai ak aj])|(rw[rU (k:=(fM y i).k0) o_ q s t M];rw[rV (k:=(fM y i).k1) o_ ai aj ak])
         have hs9:=G
         rw[<-e9]at hs9
         exact⟨rfl,yr (yc [_,_] [] hs9)⟩
       . skip
         refine gh G 5 ?_
         refine fa (o' := ((fM y i).k1)*9+6) rfl rfl yi rfl gq rfl (ld rfl rfl yf rfl (yz G (i:=1) rfl f_ (o9 (hIy.k1 i om)) rfl) (fP G 1 ?_))
         refine fa (o' := i*9+6) rfl rfl yi rfl gq rfl (lM (L' := [blk fb 250 (Zm fb nb m ed),blk nb 254 ((fR p i (fun x=>{ x with first:=((fM p ((fM y i).k1)).first) })).flatMap Nd.cells)]) 1 rfl rfl rfl rfl gq rfl rfl G rfl (jF (cf:=Nd.cells) (sz:=9) (k:=i) (off:=6) (n:=1) f_ om (za rfl)) (jG (cf:=Nd.cells) (sz:=9) (k:=i) (off:=6) f_ om rfl (za rfl)) rfl ?_)
         intro bg N bh
         have av:fZ (fR p i (fun x=>{ x with first:=((fM p ((fM y i).k1)).first) })):=fZ.iE J om (fun x a b c d e=>⟨a,b,c,(o9 (J.first ((fM y i).k1) (o9 (hIy.k1 i om)))),e⟩)
         obtain⟨aB,aC,bi,av,N⟩:=iF (m:=m) av N
         refine gf N 7 ?_
         refine tN (?_)
         refine iL (jr N 11 ?_)
         refine jf tW ?_
         have e9:iJ xs i=aB:=by rw[sY hy o_];first|(rw[rU (k:=(fM y i).k0) o_ q s t M];rw[rU (k:=(fM y i).k1) o_ ai aj ak aC])
         have hs9:=N
         rw[<-e9]at hs9
         exact⟨rfl,yr (yc [_,_] [] hs9)⟩
end
section
open Go Go.Sx
theorem mu(fb nb m:Nat)(ed:Int)(xs:List Nd)(w:World)(hf:(zQ fb nb m ed).holds w)(hN:(blk nb 254 (xs.flatMap Nd.cells)).holds w)(hm:xs.length=m)(hb:m<=1000001)(hI:fZ xs)(i:Nat)(hi:i<m){s:Nat}{o:Bool}(hq:jk xs i=(s,o)):CR ya 211 (Zn fb i) w (fun r w' => r = .tuple (sH s o)/\gD [] w w'):=by
 have h:=W8 fb nb m ed xs w hf hN hm hb hI i hi
 rw[hq]at h
 exact h
theorem vO(fb nb m:Nat)(ed:Int)(xs:List Nd)(w:World)(hO:Own (Zh fb nb m ed xs) w)(hm:xs.length=m)(hb:m<=1000001)(hI:fZ xs)(i:Nat)(hi:i<m) :
 CR ya 214 (Zn fb i) w (fun r w' => r = .tuple #[]/\gp (Zh fb nb m ed xs) w w' (Zh fb nb m ed (iG xs i))):=by
 have hup:=hI.up i o_
 have hup2:=hI.up _ hup
 refine en Tryz.func214 Tryz.ntmps214 ?_
 have hst0:=(yy hO).unpack
 refine gh hst0 7 ?_
 refine js (o' := i*9+0) (i:=(i:Int)) rfl rfl rfl yj iS om o_ (fa (o' := i*9+2) rfl rfl yi rfl gq rfl (ld rfl rfl yf rfl (yz hst0 (i:=1) rfl f_ om rfl) (fP hst0 10 ?_)))
 refine js (o' := ((fM xs i).up)*9+0) (i:=((fM xs i).up:Int)) rfl rfl rfl yj iS (o9 (show ((fM xs i).up)<(xs).length from(o9 (hI.up i om)))) o_ (fa (o' := ((fM xs i).up)*9+2) rfl rfl yi rfl gq rfl (ld rfl rfl yf rfl (yz hst0 (i:=1) rfl f_ (o9 (hI.up i om)) rfl) ?_))
 obtain⟨cP,eG⟩:∃ q,AG xs i=q:=⟨_,rfl⟩
 refine fP hst0 7 ?_
 rcases cP with K|L|M
 . skip
   refine cl mw (mu fb nb m ed xs w (hst0.at (i:=0) rfl) (hst0.at (i:=1) rfl) oa hb hI i o_ K) ?_
   rintro _ ba ⟨rfl,cQ⟩
   have f:=y8 hst0 cQ
   obtain⟨cR,eH⟩:∃ q,AG xs ((fM xs i).up)=q:=⟨_,rfl⟩
   refine fP f 12 ?_
   rcases cR with bd|be|bf
   . skip
     refine cl mw (mu fb nb m ed xs ba (f.at (i:=0) rfl) (f.at (i:=1) rfl) oa hb hI ((fM xs i).up) (o9 (hI.up i om)) bd) ?_
     rintro _ eI ⟨rfl,cS⟩
     have bg:=y8 f cS
     refine fP bg 20 ?_
     refine js (o' := i*9+0) (i:=(i:Int)) rfl rfl rfl yj iS om o_ (fa (o' := i*9+2) rfl rfl yi rfl gq rfl (lM (L' := [blk fb 250 (Zm fb nb m ed),blk nb 254 ((fR xs i (fun x=>{ x with up:=((fM xs ((fM xs i).up)).up) })).flatMap Nd.cells)]) 1 rfl rfl rfl rfl gq rfl rfl bg rfl (jF (cf:=Nd.cells) (sz:=9) (k:=i) (off:=2) (n:=1) f_ om (za rfl)) (jG (cf:=Nd.cells) (sz:=9) (k:=i) (off:=2) f_ om rfl (za rfl)) rfl ?_))
     intro cT A eJ
     have j:fZ (fR xs i (fun x=>{ x with up:=((fM xs ((fM xs i).up)).up) })):=fZ.iE hI om (fun x a b c d e=>⟨a,b,(o9 (hI.up ((fM xs i).up) (o9 (hI.up i om)))),d,e⟩)
     obtain⟨N,cU,eK,j,A⟩:=iF (m:=m) j A
     refine fP A 14 ?_
     refine js (o' := i*9+0) (i:=(i:Int)) rfl rfl rfl yj iS om o_ (fa (o' := i*9+0) rfl rfl yi rfl lD rfl (lV (o:=i*9+0) (o' := i*9+1) (i:=1) rfl rfl rfl yw gq d_ rfl (ld rfl rfl yf rfl (yz A (i:=1) rfl f_ om rfl) ?_)))
     have bh:=yc [_,_] _ A
     refine cl lC (qi fb nb m ed N cT (yd bh (i:=0) rfl) oa hb j ((fM xs i).up) ((fM N i).k1) (o9 (hI.up i om)) (o9 (j.k1 i om))) ?_
     rintro _ cV ⟨rfl,ht⟩
     have O:=(yq bh ht)
     have P:fZ (iP N ((fM xs i).up) 0 ((fM N i).k1)):=fZ.kB j (o9 (hI.up i om)) (o9 (j.k1 i om))
     obtain⟨bi,cW,eL,P,O⟩:=iF (m:=m) P O
     have bj:=yc [_,_] _ O
     refine fP O 9 ?_
     refine cl lC (qj fb nb m ed bi cV (yd bj (i:=0) rfl) oa hb P i ((fM xs i).up) o_ (o9 (hI.up i om))) ?_
     rintro _ cX ⟨rfl,ht⟩
     have Q:=(yq bj ht)
     have R:fZ (iP bi i 1 ((fM xs i).up)):=fZ.kB P o_ (o9 (hI.up i om))
     obtain⟨bl,cY,eM,R,Q⟩:=iF (m:=m) R Q
     have bm:=yc [_,_] _ Q
     refine fP Q 6 ?_
     refine cl lJ (lI fb nb m ed bl cX (yd bm (i:=0) rfl) oa hb R ((fM xs i).up) (o9 (hI.up i om))) ?_
     rintro _ cZ ⟨rfl,ht⟩
     have S:=(yq bm ht)
     have U:fZ (iJ bl ((fM xs i).up)):=fZ.lB R (o9 (hI.up i om))
     obtain⟨bn,c0,eN,U,S⟩:=iF (m:=m) U S
     have bo:=yc [_,_] _ S
     refine fP S 5 ?_
     refine cl lJ (lI fb nb m ed bn cZ (yd bo (i:=0) rfl) oa hb U i o_) ?_
     rintro _ eO ⟨rfl,ht⟩
     have V:=(yq bo ht)
     have bp:fZ (iJ bn i):=fZ.lB U o_
     obtain⟨c1,c2,eP,bp,V⟩:=iF (m:=m) bp V
     refine gf V 1 ?_
     refine jf tI ?_
     have e9:iG xs i=c1:=by subst c2;subst c0;subst cY;subst cW;subst cU;simp only[iG,K,bd];rfl
     have hs9:=V
     rw[<-e9]at hs9
     exact⟨rfl,yr (yc [_,_] [] hs9)⟩
   . skip
     refine cl mw (mu fb nb m ed xs ba (f.at (i:=0) rfl) (f.at (i:=1) rfl) oa hb hI ((fM xs i).up) (o9 (hI.up i om)) be) ?_
     rintro _ c3 ⟨rfl,c4⟩
     have bq:=y8 f c4
     have br:=yc [_,_] _ bq
     refine fP bq 18 ?_
     refine cl lC (qi fb nb m ed xs c3 (yd br (i:=0) rfl) oa hb hI ((fM xs ((fM xs i).up)).up) i (o9 (hI.up ((fM xs i).up) (o9 (hI.up i om)))) o_) ?_
     rintro _ c5 ⟨rfl,ht⟩
     have B:=(yq br ht)
     have l:fZ (iP xs ((fM xs ((fM xs i).up)).up) 0 i):=fZ.kB hI (o9 (hI.up ((fM xs i).up) (o9 (hI.up i om)))) o_
     obtain⟨W,c6,eQ,l,B⟩:=iF (m:=m) l B
     refine fP B 14 ?_
     refine js (o' := i*9+0) (i:=(i:Int)) rfl rfl rfl yj iS om o_ (fa (o' := i*9+0) rfl rfl yi rfl lD rfl (lV (o:=i*9+0) (o' := i*9+1) (i:=1) rfl rfl rfl yw gq d_ rfl (ld rfl rfl yf rfl (yz B (i:=1) rfl f_ om rfl) ?_)))
     have bs:=yc [_,_] _ B
     refine cl lC (qi fb nb m ed W c5 (yd bs (i:=0) rfl) oa hb l ((fM xs i).up) ((fM W i).k1) (o9 (hI.up i om)) (o9 (l.k1 i om))) ?_
     rintro _ c7 ⟨rfl,ht⟩
     have X:=(yq bs ht)
     have Y:fZ (iP W ((fM xs i).up) 0 ((fM W i).k1)):=fZ.kB l (o9 (hI.up i om)) (o9 (l.k1 i om))
     obtain⟨bt,c8,eR,Y,X⟩:=iF (m:=m) Y X
     have bu:=yc [_,_] _ X
     refine fP X 9 ?_
     refine cl lC (qj fb nb m ed bt c7 (yd bu (i:=0) rfl) oa hb Y i ((fM xs i).up) o_ (o9 (hI.up i om))) ?_
     rintro _ c9 ⟨rfl,ht⟩
     have Z:=(yq bu ht)
     have aa:fZ (iP bt i 1 ((fM xs i).up)):=fZ.kB Y o_ (o9 (hI.up i om))
     obtain⟨bv,da,eS,aa,Z⟩:=iF (m:=m) aa Z
     have bw:=yc [_,_] _ Z
     refine fP Z 6 ?_
     refine cl lJ (lI fb nb m ed bv c9 (yd bw (i:=0) rfl) oa hb aa ((fM xs i).up) (o9 (hI.up i om))) ?_
     rintro _ db ⟨rfl,ht⟩
     have ab:=(yq bw ht)
     have ac:fZ (iJ bv ((fM xs i).up)):=fZ.lB aa (o9 (hI.up i om))
     obtain⟨bx,dc,eU,ac,ab⟩:=iF (m:=m) ac ab
     have bz:=yc [_,_] _ ab
     refine fP ab 5 ?_
     refine cl lJ (lI fb nb m ed bx db (yd bz (i:=0) rfl) oa hb ac i o_) ?_
     rintro _ eV ⟨rfl,ht⟩
     have ad:=(yq bz ht)
     have bA:fZ (iJ bx i):=fZ.lB ac o_
     obtain⟨dd,de,eW,bA,ad⟩:=iF (m:=m) bA ad
     refine gf ad 1 ?_
     refine jf tI ?_
     have e9:iG xs i=dd:=by subst de;subst dc;subst da;subst c8;subst c6;simp only[iG,K,be];rfl
     have hs9:=ad
     rw[<-e9]at hs9
     exact⟨rfl,yr (yc [_,_] [] hs9)⟩
   . skip
     refine cl mw (mu fb nb m ed xs ba (f.at (i:=0) rfl) (f.at (i:=1) rfl) oa hb hI ((fM xs i).up) (o9 (hI.up i om)) bf) ?_
     rintro _ df ⟨rfl,dg⟩
     have bB:=y8 f dg
     have bC:=yc [_,_] _ bB
     refine fP bB 18 ?_
     refine cl lC (qj fb nb m ed xs df (yd bC (i:=0) rfl) oa hb hI ((fM xs ((fM xs i).up)).up) i (o9 (hI.up ((fM xs i).up) (o9 (hI.up i om)))) o_) ?_
     rintro _ dh ⟨rfl,ht⟩
     have C:=(yq bC ht)
     have p:fZ (iP xs ((fM xs ((fM xs i).up)).up) 1 i):=fZ.kB hI (o9 (hI.up ((fM xs i).up) (o9 (hI.up i om)))) o_
     obtain⟨ae,di,eX,p,C⟩:=iF (m:=m) p C
     refine fP C 14 ?_
     refine js (o' := i*9+0) (i:=(i:Int)) rfl rfl rfl yj iS om o_ (fa (o' := i*9+0) rfl rfl yi rfl lD rfl (lV (o:=i*9+0) (o' := i*9+1) (i:=1) rfl rfl rfl yw gq d_ rfl (ld rfl rfl yf rfl (yz C (i:=1) rfl f_ om rfl) ?_)))
     have bD:=yc [_,_] _ C
     refine cl lC (qi fb nb m ed ae dh (yd bD (i:=0) rfl) oa hb p ((fM xs i).up) ((fM ae i).k1) (o9 (hI.up i om)) (o9 (p.k1 i om))) ?_
     rintro _ dj ⟨rfl,ht⟩
     have af:=(yq bD ht)
     have ag:fZ (iP ae ((fM xs i).up) 0 ((fM ae i).k1)):=fZ.kB p (o9 (hI.up i om)) (o9 (p.k1 i om))
     obtain⟨bE,dk,eY,ag,af⟩:=iF (m:=m) ag af
     have bF:=yc [_,_] _ af
     refine fP af 9 ?_
     refine cl lC (qj fb nb m ed bE dj (yd bF (i:=0) rfl) oa hb ag i ((fM xs i).up) o_ (o9 (hI.up i om))) ?_
     rintro _ dl ⟨rfl,ht⟩
     have ah:=(yq bF ht)
     have ai:fZ (iP bE i 1 ((fM xs i).up)):=fZ.kB ag o_ (o9 (hI.up i om))
     obtain⟨bG,dm,eZ,ai,ah⟩:=iF (m:=m) ai ah
     have bH:=yc [_,_] _ ah
     refine fP ah 6 ?_
     refine cl lJ (lI fb nb m ed bG dl (yd bH (i:=0) rfl) oa hb ai ((fM xs i).up) (o9 (hI.up i om))) ?_
     rintro _ dn ⟨rfl,ht⟩
     have aj:=(yq bH ht)
     have ak:fZ (iJ bG ((fM xs i).up)):=fZ.lB ai (o9 (hI.up i om))
     obtain⟨bI,dp,e0,ak,aj⟩:=iF (m:=m) ak aj
     have bJ:=yc [_,_] _ aj
     refine fP aj 5 ?_
     refine cl lJ (lI fb nb m ed bI dn (yd bJ (i:=0) rfl) oa hb ak i o_) ?_
     rintro _ e1 ⟨rfl,ht⟩
     have al:=(yq bJ ht)
     have bK:fZ (iJ bI i):=fZ.lB ak o_
     obtain⟨dq,dr,e2,bK,al⟩:=iF (m:=m) bK al
     refine gf al 1 ?_
     refine jf tI ?_
     have e9:iG xs i=dq:=by subst dr;subst dp;subst dm;subst dk;subst di;simp only[iG,K,bf];rfl
     have hs9:=al
     rw[<-e9]at hs9
     exact⟨rfl,yr (yc [_,_] [] hs9)⟩
 . skip
   refine cl mw (mu fb nb m ed xs w (hst0.at (i:=0) rfl) (hst0.at (i:=1) rfl) oa hb hI i o_ L) ?_
   rintro _ bb ⟨rfl,ds⟩
   have g:=y8 hst0 ds
   obtain⟨dt,e3⟩:∃ q,AG xs ((fM xs i).up)=q:=⟨_,rfl⟩
   refine fP g 12 ?_
   rcases dt with bL|bM|bN
   . skip
     refine cl mw (mu fb nb m ed xs bb (g.at (i:=0) rfl) (g.at (i:=1) rfl) oa hb hI ((fM xs i).up) (o9 (hI.up i om)) bL) ?_
     rintro _ e4 ⟨rfl,du⟩
     have bO:=y8 g du
     refine fP bO 20 ?_
     refine js (o' := i*9+0) (i:=(i:Int)) rfl rfl rfl yj iS om o_ (fa (o' := i*9+2) rfl rfl yi rfl gq rfl (lM (L' := [blk fb 250 (Zm fb nb m ed),blk nb 254 ((fR xs i (fun x=>{ x with up:=((fM xs ((fM xs i).up)).up) })).flatMap Nd.cells)]) 1 rfl rfl rfl rfl gq rfl rfl bO rfl (jF (cf:=Nd.cells) (sz:=9) (k:=i) (off:=2) (n:=1) f_ om (za rfl)) (jG (cf:=Nd.cells) (sz:=9) (k:=i) (off:=2) f_ om rfl (za rfl)) rfl ?_))
     intro dv D e5
     have s:fZ (fR xs i (fun x=>{ x with up:=((fM xs ((fM xs i).up)).up) })):=fZ.iE hI om (fun x a b c d e=>⟨a,b,(o9 (hI.up ((fM xs i).up) (o9 (hI.up i om)))),d,e⟩)
     obtain⟨am,dw,e6,s,D⟩:=iF (m:=m) s D
     refine fP D 14 ?_
     refine js (o' := i*9+0) (i:=(i:Int)) rfl rfl rfl yj iS om o_ (fa (o' := i*9+0) rfl rfl yi rfl lD rfl (lV (o:=i*9+0) (o' := i*9+1) (i:=1) rfl rfl rfl yw gq d_ rfl (ld rfl rfl yf rfl (yz D (i:=1) rfl f_ om rfl) ?_)))
     have bP:=yc [_,_] _ D
     refine cl lC (qi fb nb m ed am dv (yd bP (i:=0) rfl) oa hb s ((fM xs i).up) ((fM am i).k1) (o9 (hI.up i om)) (o9 (s.k1 i om))) ?_
     rintro _ dx ⟨rfl,ht⟩
     have an:=(yq bP ht)
     have ao:fZ (iP am ((fM xs i).up) 0 ((fM am i).k1)):=fZ.kB s (o9 (hI.up i om)) (o9 (s.k1 i om))
     obtain⟨bQ,dy,e7,ao,an⟩:=iF (m:=m) ao an
     have bR:=yc [_,_] _ an
     refine fP an 9 ?_
     refine cl lC (qj fb nb m ed bQ dx (yd bR (i:=0) rfl) oa hb ao i ((fM xs i).up) o_ (o9 (hI.up i om))) ?_
     rintro _ dz ⟨rfl,ht⟩
     have ap:=(yq bR ht)
     have aq:fZ (iP bQ i 1 ((fM xs i).up)):=fZ.kB ao o_ (o9 (hI.up i om))
     obtain⟨bS,dA,e8,aq,ap⟩:=iF (m:=m) aq ap
     have bT:=yc [_,_] _ ap
     refine fP ap 6 ?_
     refine cl lJ (lI fb nb m ed bS dz (yd bT (i:=0) rfl) oa hb aq ((fM xs i).up) (o9 (hI.up i om))) ?_
     rintro _ dB ⟨rfl,ht⟩
     have ar:=(yq bT ht)
     have au:fZ (iJ bS ((fM xs i).up)):=fZ.lB aq (o9 (hI.up i om))
     obtain⟨bU,dC,fc,au,ar⟩:=iF (m:=m) au ar
     have bV:=yc [_,_] _ ar
     refine fP ar 5 ?_
     refine cl lJ (lI fb nb m ed bU dB (yd bV (i:=0) rfl) oa hb au i o_) ?_
     rintro _ fd ⟨rfl,ht⟩
     have av:=(yq bV ht)
     have bW:fZ (iJ bU i):=fZ.lB au o_
     obtain⟨dD,dE,fe,bW,av⟩:=iF (m:=m) bW av
     refine gf av 1 ?_
     refine jf tI ?_
     have e9:iG xs i=dD:=by subst dE;subst dC;subst dA;subst dy;subst dw;simp only[iG,L,bL];rfl
     have hs9:=av
     rw[<-e9]at hs9
     exact⟨rfl,yr (yc [_,_] [] hs9)⟩
   . skip
     refine cl mw (mu fb nb m ed xs bb (g.at (i:=0) rfl) (g.at (i:=1) rfl) oa hb hI ((fM xs i).up) (o9 (hI.up i om)) bM) ?_
     rintro _ dF ⟨rfl,dG⟩
     have bX:=y8 g dG
     have bY:=yc [_,_] _ bX
     refine fP bX 18 ?_
     refine cl lC (qi fb nb m ed xs dF (yd bY (i:=0) rfl) oa hb hI ((fM xs ((fM xs i).up)).up) i (o9 (hI.up ((fM xs i).up) (o9 (hI.up i om)))) o_) ?_
     rintro _ dH ⟨rfl,ht⟩
     have E:=(yq bY ht)
     have t:fZ (iP xs ((fM xs ((fM xs i).up)).up) 0 i):=fZ.kB hI (o9 (hI.up ((fM xs i).up) (o9 (hI.up i om)))) o_
     obtain⟨aw,dI,ff,t,E⟩:=iF (m:=m) t E
     refine fP E 14 ?_
     refine js (o' := i*9+0) (i:=(i:Int)) rfl rfl rfl yj iS om o_ (fa (o' := i*9+0) rfl rfl yi rfl lD rfl (lV (o:=i*9+0) (o' := i*9+1) (i:=1) rfl rfl rfl yw gq d_ rfl (ld rfl rfl yf rfl (yz E (i:=1) rfl f_ om rfl) ?_)))
     have bZ:=yc [_,_] _ E
     refine cl lC (qi fb nb m ed aw dH (yd bZ (i:=0) rfl) oa hb t ((fM xs i).up) ((fM aw i).k1) (o9 (hI.up i om)) (o9 (t.k1 i om))) ?_
     rintro _ dJ ⟨rfl,ht⟩
     have ax:=(yq bZ ht)
     have ay:fZ (iP aw ((fM xs i).up) 0 ((fM aw i).k1)):=fZ.kB t (o9 (hI.up i om)) (o9 (t.k1 i om))
     obtain⟨b0,dK,fg,ay,ax⟩:=iF (m:=m) ay ax
     have b1:=yc [_,_] _ ax
     refine fP ax 9 ?_
     refine cl lC (qj fb nb m ed b0 dJ (yd b1 (i:=0) rfl) oa hb ay i ((fM xs i).up) o_ (o9 (hI.up i om))) ?_
     rintro _ dL ⟨rfl,ht⟩
     have az:=(yq b1 ht)
     have aA:fZ (iP b0 i 1 ((fM xs i).up)):=fZ.kB ay o_ (o9 (hI.up i om))
     obtain⟨b2,dM,fh,aA,az⟩:=iF (m:=m) aA az
     have b3:=yc [_,_] _ az
     refine fP az 6 ?_
     refine cl lJ (lI fb nb m ed b2 dL (yd b3 (i:=0) rfl) oa hb aA ((fM xs i).up) (o9 (hI.up i om))) ?_
     rintro _ dN ⟨rfl,ht⟩
     have aB:=(yq b3 ht)
     have aC:fZ (iJ b2 ((fM xs i).up)):=fZ.lB aA (o9 (hI.up i om))
     obtain⟨b4,dO,fi,aC,aB⟩:=iF (m:=m) aC aB
     have b5:=yc [_,_] _ aB
     refine fP aB 5 ?_
     refine cl lJ (lI fb nb m ed b4 dN (yd b5 (i:=0) rfl) oa hb aC i o_) ?_
     rintro _ fj ⟨rfl,ht⟩
     have aD:=(yq b5 ht)
     have b6:fZ (iJ b4 i):=fZ.lB aC o_
     obtain⟨dP,dQ,fk,b6,aD⟩:=iF (m:=m) b6 aD
     refine gf aD 1 ?_
     refine jf tI ?_
     have e9:iG xs i=dP:=by subst dQ;subst dO;subst dM;subst dK;subst dI;simp only[iG,L,bM];rfl
     have hs9:=aD
     rw[<-e9]at hs9
     exact⟨rfl,yr (yc [_,_] [] hs9)⟩
   . skip
     refine cl mw (mu fb nb m ed xs bb (g.at (i:=0) rfl) (g.at (i:=1) rfl) oa hb hI ((fM xs i).up) (o9 (hI.up i om)) bN) ?_
     rintro _ dR ⟨rfl,dS⟩
     have b7:=y8 g dS
     have b8:=yc [_,_] _ b7
     refine fP b7 18 ?_
     refine cl lC (qj fb nb m ed xs dR (yd b8 (i:=0) rfl) oa hb hI ((fM xs ((fM xs i).up)).up) i (o9 (hI.up ((fM xs i).up) (o9 (hI.up i om)))) o_) ?_
     rintro _ dT ⟨rfl,ht⟩
     have G:=(yq b8 ht)
     have u:fZ (iP xs ((fM xs ((fM xs i).up)).up) 1 i):=fZ.kB hI (o9 (hI.up ((fM xs i).up) (o9 (hI.up i om)))) o_
     obtain⟨aE,dU,fl,u,G⟩:=iF (m:=m) u G
     refine fP G 14 ?_
     refine js (o' := i*9+0) (i:=(i:Int)) rfl rfl rfl yj iS om o_ (fa (o' := i*9+0) rfl rfl yi rfl lD rfl (lV (o:=i*9+0) (o' := i*9+1) (i:=1) rfl rfl rfl yw gq d_ rfl (ld rfl rfl yf rfl (yz G (i:=1) rfl f_ om rfl) ?_)))
     have b9:=yc [_,_] _ G
     refine cl lC (qi fb nb m ed aE dT (yd b9 (i:=0) rfl) oa hb u ((fM xs i).up) ((fM aE i).k1) (o9 (hI.up i om)) (o9 (u.k1 i om))) ?_
     rintro _ dV ⟨rfl,ht⟩
     have aF:=(yq b9 ht)
     have aG:fZ (iP aE ((fM xs i).up) 0 ((fM aE i).k1)):=fZ.kB u (o9 (hI.up i om)) (o9 (u.k1 i om))
     obtain⟨ca,dW,fm,aG,aF⟩:=iF (m:=m) aG aF
     have cb:=yc [_,_] _ aF
     refine fP aF 9 ?_
     refine cl lC (qj fb nb m ed ca dV (yd cb (i:=0) rfl) oa hb aG i ((fM xs i).up) o_ (o9 (hI.up i om))) ?_
     rintro _ dX ⟨rfl,ht⟩
     have aH:=(yq cb ht)
     have aI:fZ (iP ca i 1 ((fM xs i).up)):=fZ.kB aG o_ (o9 (hI.up i om))
     obtain⟨cc,dY,fn,aI,aH⟩:=iF (m:=m) aI aH
     have cd:=yc [_,_] _ aH
     refine fP aH 6 ?_
     refine cl lJ (lI fb nb m ed cc dX (yd cd (i:=0) rfl) oa hb aI ((fM xs i).up) (o9 (hI.up i om))) ?_
     rintro _ dZ ⟨rfl,ht⟩
     have aJ:=(yq cd ht)
     have aK:fZ (iJ cc ((fM xs i).up)):=fZ.lB aI (o9 (hI.up i om))
     obtain⟨ce,d0,fo,aK,aJ⟩:=iF (m:=m) aK aJ
     have cg:=yc [_,_] _ aJ
     refine fP aJ 5 ?_
     refine cl lJ (lI fb nb m ed ce dZ (yd cg (i:=0) rfl) oa hb aK i o_) ?_
     rintro _ fp ⟨rfl,ht⟩
     have aL:=(yq cg ht)
     have ch:fZ (iJ ce i):=fZ.lB aK o_
     obtain⟨d1,d2,fq,ch,aL⟩:=iF (m:=m) ch aL
     refine gf aL 1 ?_
     refine jf tI ?_
     have e9:iG xs i=d1:=by subst d2;subst d0;subst dY;subst dW;subst dU;simp only[iG,L,bN];rfl
     have hs9:=aL
     rw[<-e9]at hs9
     exact⟨rfl,yr (yc [_,_] [] hs9)⟩
 . skip
   refine cl mw (mu fb nb m ed xs w (hst0.at (i:=0) rfl) (hst0.at (i:=1) rfl) oa hb hI i o_ M) ?_
   rintro _ bc ⟨rfl,d3⟩
   have h:=y8 hst0 d3
   obtain⟨d4,fr⟩:∃ q,AG xs ((fM xs i).up)=q:=⟨_,rfl⟩
   refine fP h 12 ?_
   rcases d4 with ci|cj|ck
   . skip
     refine cl mw (mu fb nb m ed xs bc (h.at (i:=0) rfl) (h.at (i:=1) rfl) oa hb hI ((fM xs i).up) (o9 (hI.up i om)) ci) ?_
     rintro _ fs ⟨rfl,d5⟩
     have cm:=y8 h d5
     refine fP cm 20 ?_
     refine js (o' := i*9+0) (i:=(i:Int)) rfl rfl rfl yj iS om o_ (fa (o' := i*9+2) rfl rfl yi rfl gq rfl (lM (L' := [blk fb 250 (Zm fb nb m ed),blk nb 254 ((fR xs i (fun x=>{ x with up:=((fM xs ((fM xs i).up)).up) })).flatMap Nd.cells)]) 1 rfl rfl rfl rfl gq rfl rfl cm rfl (jF (cf:=Nd.cells) (sz:=9) (k:=i) (off:=2) (n:=1) f_ om (za rfl)) (jG (cf:=Nd.cells) (sz:=9) (k:=i) (off:=2) f_ om rfl (za rfl)) rfl ?_))
     intro d6 H ft
     have v:fZ (fR xs i (fun x=>{ x with up:=((fM xs ((fM xs i).up)).up) })):=fZ.iE hI om (fun x a b c d e=>⟨a,b,(o9 (hI.up ((fM xs i).up) (o9 (hI.up i om)))),d,e⟩)
     obtain⟨aM,d7,fu,v,H⟩:=iF (m:=m) v H
     refine fP H 14 ?_
     refine js (o' := i*9+0) (i:=(i:Int)) rfl rfl rfl yj iS om o_ (fa (o' := i*9+0) rfl rfl yi rfl lD rfl (lV (o:=i*9+0) (o' := i*9+0) (i:=0) rfl rfl rfl yw gq d_ rfl (ld rfl rfl yf rfl (yz H (i:=1) rfl f_ om rfl) ?_)))
     have cn:=yc [_,_] _ H
     refine cl lC (qj fb nb m ed aM d6 (yd cn (i:=0) rfl) oa hb v ((fM xs i).up) ((fM aM i).k0) (o9 (hI.up i om)) (o9 (v.k0 i om))) ?_
     rintro _ d8 ⟨rfl,ht⟩
     have aN:=(yq cn ht)
     have aO:fZ (iP aM ((fM xs i).up) 1 ((fM aM i).k0)):=fZ.kB v (o9 (hI.up i om)) (o9 (v.k0 i om))
     obtain⟨co,d9,fv,aO,aN⟩:=iF (m:=m) aO aN
     have cp:=yc [_,_] _ aN
     refine fP aN 9 ?_
     refine cl lC (qi fb nb m ed co d8 (yd cp (i:=0) rfl) oa hb aO i ((fM xs i).up) o_ (o9 (hI.up i om))) ?_
     rintro _ ea ⟨rfl,ht⟩
     have aP:=(yq cp ht)
     have aQ:fZ (iP co i 0 ((fM xs i).up)):=fZ.kB aO o_ (o9 (hI.up i om))
     obtain⟨cq,eb,fw,aQ,aP⟩:=iF (m:=m) aQ aP
     have cr:=yc [_,_] _ aP
     refine fP aP 6 ?_
     refine cl lJ (lI fb nb m ed cq ea (yd cr (i:=0) rfl) oa hb aQ ((fM xs i).up) (o9 (hI.up i om))) ?_
     rintro _ ec ⟨rfl,ht⟩
     have aR:=(yq cr ht)
     have aS:fZ (iJ cq ((fM xs i).up)):=fZ.lB aQ (o9 (hI.up i om))
     obtain⟨cs,ee,fx,aS,aR⟩:=iF (m:=m) aS aR
     have ct:=yc [_,_] _ aR
     refine fP aR 5 ?_
     refine cl lJ (lI fb nb m ed cs ec (yd ct (i:=0) rfl) oa hb aS i o_) ?_
     rintro _ fy ⟨rfl,ht⟩
     have aT:=(yq ct ht)
     have cu:fZ (iJ cs i):=fZ.lB aS o_
     obtain⟨ef,eg,fz,cu,aT⟩:=iF (m:=m) cu aT
     refine gf aT 1 ?_
     refine jf tI ?_
     have e9:iG xs i=ef:=by subst eg;subst ee;subst eb;subst d9;subst d7;simp only[iG,M,ci];rfl
     have hs9:=aT
     rw[<-e9]at hs9
     exact⟨rfl,yr (yc [_,_] [] hs9)⟩
   . skip
     refine cl mw (mu fb nb m ed xs bc (h.at (i:=0) rfl) (h.at (i:=1) rfl) oa hb hI ((fM xs i).up) (o9 (hI.up i om)) cj) ?_
     rintro _ eh ⟨rfl,ei⟩
     have cv:=y8 h ei
     have cw:=yc [_,_] _ cv
     refine fP cv 18 ?_
     refine cl lC (qi fb nb m ed xs eh (yd cw (i:=0) rfl) oa hb hI ((fM xs ((fM xs i).up)).up) i (o9 (hI.up ((fM xs i).up) (o9 (hI.up i om)))) o_) ?_
     rintro _ ej ⟨rfl,ht⟩
     have I:=(yq cw ht)
     have y:fZ (iP xs ((fM xs ((fM xs i).up)).up) 0 i):=fZ.kB hI (o9 (hI.up ((fM xs i).up) (o9 (hI.up i om)))) o_
     obtain⟨aU,ek,fA,y,I⟩:=iF (m:=m) y I
     refine fP I 14 ?_
     refine js (o' := i*9+0) (i:=(i:Int)) rfl rfl rfl yj iS om o_ (fa (o' := i*9+0) rfl rfl yi rfl lD rfl (lV (o:=i*9+0) (o' := i*9+0) (i:=0) rfl rfl rfl yw gq d_ rfl (ld rfl rfl yf rfl (yz I (i:=1) rfl f_ om rfl) ?_)))
     have cx:=yc [_,_] _ I
     refine cl lC (qj fb nb m ed aU ej (yd cx (i:=0) rfl) oa hb y ((fM xs i).up) ((fM aU i).k0) (o9 (hI.up i om)) (o9 (y.k0 i om))) ?_
     rintro _ el ⟨rfl,ht⟩
     have aV:=(yq cx ht)
     have aW:fZ (iP aU ((fM xs i).up) 1 ((fM aU i).k0)):=fZ.kB y (o9 (hI.up i om)) (o9 (y.k0 i om))
     obtain⟨cy,em,fB,aW,aV⟩:=iF (m:=m) aW aV
     have cz:=yc [_,_] _ aV
     refine fP aV 9 ?_
     refine cl lC (qi fb nb m ed cy el (yd cz (i:=0) rfl) oa hb aW i ((fM xs i).up) o_ (o9 (hI.up i om))) ?_
     rintro _ eo ⟨rfl,ht⟩
     have aX:=(yq cz ht)
     have aY:fZ (iP cy i 0 ((fM xs i).up)):=fZ.kB aW o_ (o9 (hI.up i om))
     obtain⟨cA,ep,fC,aY,aX⟩:=iF (m:=m) aY aX
     have cB:=yc [_,_] _ aX
     refine fP aX 6 ?_
     refine cl lJ (lI fb nb m ed cA eo (yd cB (i:=0) rfl) oa hb aY ((fM xs i).up) (o9 (hI.up i om))) ?_
     rintro _ eq ⟨rfl,ht⟩
     have aZ:=(yq cB ht)
     have a0:fZ (iJ cA ((fM xs i).up)):=fZ.lB aY (o9 (hI.up i om))
     obtain⟨cC,er,fD,a0,aZ⟩:=iF (m:=m) a0 aZ
     have cD:=yc [_,_] _ aZ
     refine fP aZ 5 ?_
     refine cl lJ (lI fb nb m ed cC eq (yd cD (i:=0) rfl) oa hb a0 i o_) ?_
     rintro _ fE ⟨rfl,ht⟩
     have a1:=(yq cD ht)
     have cE:fZ (iJ cC i):=fZ.lB a0 o_
     obtain⟨es,et,fF,cE,a1⟩:=iF (m:=m) cE a1
     refine gf a1 1 ?_
     refine jf tI ?_
     have e9:iG xs i=es:=by subst et;subst er;subst ep;subst em;subst ek;simp only[iG,M,cj];rfl
     have hs9:=a1
     rw[<-e9]at hs9
     exact⟨rfl,yr (yc [_,_] [] hs9)⟩
   . skip
     refine cl mw (mu fb nb m ed xs bc (h.at (i:=0) rfl) (h.at (i:=1) rfl) oa hb hI ((fM xs i).up) (o9 (hI.up i om)) ck) ?_
     rintro _ eu ⟨rfl,ev⟩
     have cF:=y8 h ev
     have cG:=yc [_,_] _ cF
     refine fP cF 18 ?_
     refine cl lC (qj fb nb m ed xs eu (yd cG (i:=0) rfl) oa hb hI ((fM xs ((fM xs i).up)).up) i (o9 (hI.up ((fM xs i).up) (o9 (hI.up i om)))) o_) ?_
     rintro _ ew ⟨rfl,ht⟩
     have J:=(yq cG ht)
     have z:fZ (iP xs ((fM xs ((fM xs i).up)).up) 1 i):=fZ.kB hI (o9 (hI.up ((fM xs i).up) (o9 (hI.up i om)))) o_
     obtain⟨a2,ex,fG,z,J⟩:=iF (m:=m) z J
     refine fP J 14 ?_
     refine js (o' := i*9+0) (i:=(i:Int)) rfl rfl rfl yj iS om o_ (fa (o' := i*9+0) rfl rfl yi rfl lD rfl (lV (o:=i*9+0) (o' := i*9+0) (i:=0) rfl rfl rfl yw gq d_ rfl (ld rfl rfl yf rfl (yz J (i:=1) rfl f_ om rfl) ?_)))
     have cH:=yc [_,_] _ J
     refine cl lC (qj fb nb m ed a2 ew (yd cH (i:=0) rfl) oa hb z ((fM xs i).up) ((fM a2 i).k0) (o9 (hI.up i om)) (o9 (z.k0 i om))) ?_
     rintro _ ey ⟨rfl,ht⟩
     have a3:=(yq cH ht)
     have a4:fZ (iP a2 ((fM xs i).up) 1 ((fM a2 i).k0)):=fZ.kB z (o9 (hI.up i om)) (o9 (z.k0 i om))
     obtain⟨cI,ez,fH,a4,a3⟩:=iF (m:=m) a4 a3
     have cJ:=yc [_,_] _ a3
     refine fP a3 9 ?_
     refine cl lC (qi fb nb m ed cI ey (yd cJ (i:=0) rfl) oa hb a4 i ((fM xs i).up) o_ (o9 (hI.up i om))) ?_
     rintro _ eA ⟨rfl,ht⟩
     have a5:=(yq cJ ht)
     have a6:fZ (iP cI i 0 ((fM xs i).up)):=fZ.kB a4 o_ (o9 (hI.up i om))
     obtain⟨cK,eB,fI,a6,a5⟩:=iF (m:=m) a6 a5
     have cL:=yc [_,_] _ a5
     refine fP a5 6 ?_
     refine cl lJ (lI fb nb m ed cK eA (yd cL (i:=0) rfl) oa hb a6 ((fM xs i).up) (o9 (hI.up i om))) ?_
     rintro _ eC ⟨rfl,ht⟩
     have a7:=(yq cL ht)
     have a8:fZ (iJ cK ((fM xs i).up)):=fZ.lB a6 (o9 (hI.up i om))
     obtain⟨cM,eD,fJ,a8,a7⟩:=iF (m:=m) a8 a7
     have cN:=yc [_,_] _ a7
     refine fP a7 5 ?_
     refine cl lJ (lI fb nb m ed cM eC (yd cN (i:=0) rfl) oa hb a8 i o_) ?_
     rintro _ fK ⟨rfl,ht⟩
     have a9:=(yq cN ht)
     have cO:fZ (iJ cM i):=fZ.lB a8 o_
     obtain⟨eE,eF,fL,cO,a9⟩:=iF (m:=m) cO a9
     refine gf a9 1 ?_
     refine jf tI ?_
     have e9:iG xs i=eE:=by subst eF;subst eD;subst eB;subst ez;subst ex;simp only[iG,M,ck];rfl
     have hs9:=a9
     rw[<-e9]at hs9
     exact⟨rfl,yr (yc [_,_] [] hs9)⟩
end
section
open Go Go.Sx
theorem XB(v:Value)(w:World)(h1:v.oneCell' = true) :
 CR ya 212 #[v] w (fun r w' => ∃ kb,w.heap.size<=kb/\r = .func (.func 229) #[] (Zg kb)/\(blk kb 62 [v]).holds w' /\ gD [] w w'):=by
 refine en Tryz.func212 Tryz.ntmps212 ?_
 have hst0:=jB w
 refine gh hst0 2 ?_
 refine bx (v:=v) (cs:=[v]) rfl rfl (cells_one h1) hst0 (fun b d c e a=>fP a 5 ?_)
 refine wJ (vf:=[]) (vc:=(Zi b)) rfl rfl rfl (gf a 4 ?_)
 refine gF (v:=(.func (.func 229) #[] (Zg b))) Tryz.results212 rfl ?_
 exact⟨_,z7 (hst0.size zg) c,rfl,a.at (i:=0) rfl,a.gI s_⟩
theorem UK(Cl:Nat->gi)(l kb:Nat)(v:Value)(xs:List Int)(ok:Nat->Prop)(w:World)(hy:∀ (k:Nat) (x:Int) (bs:List (World×List Nat)) (L:List gi) (w:World),k<xs.length->xs[xs.length-1-k]? = some x->St bs (Cl k :: L) w->YR ya l (Zj ((xs.length:Int)-1-(k:Int)) x) w (fun v w' => v = .bool true/\St bs (Cl (k+1) :: L) w'))(hO:Own (Cl 0) w)(hkb:(blk kb 62 [v]).holds w)(hkc:kb∉(Cl 0).gU)(hv:Ints .i64 ok w v xs)(hok:∀ b,ok b->b∉(Cl 0).gU)(hl0:xs.length<=1000000000000) :
 CR ya 229 #[(.func (.yield l) #[] #[]),(Zb kb)] w (fun r w' => r = .tuple #[]/\gp (Cl 0) w w' (Cl xs.length)):=by
 have hv:=hv.old d_
 have hok:∀ b,(ok b/\b<w.heap.size)->b∉(Cl 0).gU:=fun b hb=>hok b hb.1
 refine en Tryz.func229 Tryz.ntmps229 ?_
 have hst0:=yy hO
 refine gh hst0 2 ?_
 refine ld rfl rfl yh rfl (Hf hkb (o:=0) rfl) (tE (v:=v) rfl rfl yh hv (gX hst0 5 ?_))
 refine lp (α:=Nat) (fun k=>[(0,(.func (.yield l) #[] #[])),(1,(Zb kb)),(3,(Za ((xs.length:Int)-1-(k:Int))))]) (fun k w1=>St [(w,(Cl 0).gU)] [Cl k] w1/\k<=xs.length) (fun k=>xs.length-k) 0 ⟨rfl,rfl,gJ (by first|rfl|omega),trivial⟩ (⟨hst0,o_⟩) ?_
 rintro k f g ⟨hst,hk1⟩
 refine gh hst 4 ?_
 by_cases h:((xs.length:Int)-1-(k:Int):Int)≥(0:Int)
 . obtain⟨x,hx⟩:=qg (show xs.length-1-k<xs.length by omega)
   refine fP hst 12 ?_
   refine ld rfl rfl yh rfl (St.Ph hst (X:=(Cl 0).gU) s_ (Hf hkb (o:=0) rfl) hkc) (fP hst 1 ?_)
   refine EI (i:=(xs.length:Int)-1-(k:Int)) (el:=x) rfl rfl rfl yh gq (St.ints hst (X:=(Cl 0).gU) s_ hv hok) o_ (by rw[show ((xs.length:Int)-1-(k:Int)).toNat=xs.length-1-k by omega];exact hx) ?_
   intro j m c d n
   have p:=d.i64
   refine ld rfl rfl yf rfl c (yl (vl:=(Zj ((xs.length:Int)-1-(k:Int)) x)) rfl rfl rfl (hy k x _ _ _ o_ hx hst) ?_)
   rintro _ q ⟨rfl,a⟩
   refine fP a 9 ?_
   refine ar (e:=(xs.length:Int)-1-((k+1:Nat):Int)) rfl rfl rfl rfl (by rw[iV o_];omega) (gf a 2 ?_)
   refine tN (?_)
   exact again (k+1) ⟨rfl,rfl,gJ (by first|rfl|omega),trivial⟩ (⟨a,o_⟩) (by show (xs.length-(k+1):Nat)<xs.length-k;omega)
 . refine gf hst 8 ?_
   refine jf Tryz.results229 ?_
   obtain rfl:k=xs.length:=by omega
   exact⟨rfl,yv (R:=Cl 0) hst s_⟩
end
section
open Go Go.Sx
theorem Ms(fb nb m:Nat)(ed:Int)(xs:List Nd)(w:World)(hO:Own (Zh fb nb m ed xs) w)(hm:xs.length=m)(hb:m<=1000001)(hI:fZ xs)(i q:Nat)(T:Tr)(hR:gQ xs T q)(hT:i∈T.mem)(hn:T.mem.Nodup)(hcnt:T.mem.length<=1000000)(hq:Out xs q T.mem) :
 CR ya 195 (Zn fb i) w (fun r w' => r = .tuple #[]/\∃ ys a' b', jo xs ys T [] (.nd a' i b') q/\(fM ys i).flip=false/\fZ ys/\gp (Zh fb nb m ed xs) w w' (Zh fb nb m ed ys)):=by
 have him:i<m:=by have h7:=hR.oK i hT;omega
 obtain⟨c,a,b,rfl⟩:=Dj hT
 have hat:=At.start hR hn
 have hout:Out xs q (kX c (Tr.nd a i b).mem):=by rw[<-nQ];exact hq
 have hPm:=V8 hR
 have hpl:=Uv (c:=c) (a:=a) (b:=b) (i:=i)
 have hIw:=hI.kW hPm
 have hPin:=C5 (m:=m) (fun j hj=>by have:=hPm j hj;omega) hb
 refine DL (vs:=(EK fb i)) Tryz.func195 rfl Tryz.ntmps195 rfl ?_
 have hst0:=(yy hO).unpack
 refine gh hst0 2 ?_
 refine bx (v:=(Zb fb)) (cs:=(Zi fb)) rfl rfl rfl hst0 ?_
 intro e aj a7 a8 I
 have ak:St _ [iA .i64 Zk 3 ([]),blk e 141 (Zi fb),blk fb 250 (Zm fb nb m ed),blk nb 254 (xs.flatMap Nd.cells)] aj:=u6 I 3 1
 have al:=ak
 have am:=al
 refine gX I 19 ?_
 refine lp (α:=Nat×Nat×Value) (fun(k,j,pv)=>[(1,(Za i)),(2,(Zb e)),(4,pv),(5,(Za j))]) (fun(k,j,pv) w1=>St [(w,(Zh fb nb m ed xs).gU)] [iA .i64 pv 3 (gx ((iY c i).take k)),blk e 141 (Zi fb),blk fb 250 (Zm fb nb m ed),blk nb 254 (xs.flatMap Nd.cells)] w1/\(iY c i)[k]? = some j) (fun(k,j,pv)=>c.length+1-k) (0,i,Zk) ⟨rfl,rfl,rfl,gJ (by first|rfl|omega),trivial⟩ (⟨am,rfl⟩) ?_
 rintro⟨k,j,pv⟩ a9 ba hC
 have hjm:j<m:=by have h7:=hPm j (zh hC.2);omega
 refine gh hC.1 5 ?_
 refine nk (vs:=(Zf j)) (cs:=(Zf j)) rfl rfl yh gq rfl (by simp[Value.cells]) rfl rfl rfl hC.1 (fun an bb bc bd J=>Jm (k:=.i64) (ys:=gx ((iY c i).take k)) (zs:=[(j:Int)]) (LL:=fun f=>[iA .i64 (Zx an) 3 ([(j:Int)]),iA .i64 f 3 ((gx ((iY c i).take k))++([(j:Int)])),blk e 141 (Zi fb),blk fb 250 (Zm fb nb m ed),blk nb 254 (xs.flatMap Nd.cells)]) 1 rfl rfl rfl yh gq rfl J rfl (oU J (i:=0) rfl) (by simp only[gx,zr,kD,zp,zx];omega) (by simp only[gx,zr,kD,zp,zx];omega) f_ ?_)
 intro f y K be
 have ao:=ym [1,2,3,4] K
 have g:=ym [3,4,1,2] K
 obtain⟨ap,bf⟩:∃ q,AG xs j=q:=⟨_,rfl⟩
 refine fP ao 8 ?_
 rcases ap with M|N|P
 . skip
   have hend:=TP hat hout hC.2 M
   have hNl:gx ((iY c i).take k)++[(j:Int)]=gx (iY c i):=by rw[Gg hC.2,rE (by rw[hpl.1];omega)]
   refine cl mw (mu fb nb m ed xs y (g.at (i:=0) rfl) (g.at (i:=1) rfl) oa hb hI j o_ M) ?_
   rintro _ aq ⟨rfl,ar⟩
   have A:=y8 g ar
   refine fP A 24 ?_
   refine cl X0 (XB f aq (mg A (i:=2) rfl)) ?_
   rintro _ au ⟨kb,hkn,rfl,hkb0,hqb⟩
   have Q:=St.YI A hqb hkn hkb0
   have av:=ym [4,1,2,3,0] Q
   have aw:St [(w,(Zh fb nb m ed xs).gU)] (QX e fb nb m ed (kW xs (iY c i) 0) f (gx (iY c i)) kb) au:=by rw[K4];have h9:=av;rw[hNl]at h9;exact h9
   refine gX Q 3 ?_
   refine rf (α:=Nat) (ps:=[38,39]) (fi:=[]) (ca:=(Zi kb)) (fun z=>(QX e fb nb m ed (kW xs (iY c i) z) f (gx (iY c i)) kb)) (fun z=>z=(iY c i).length) aw rfl YE ?_ ?_
   . intro fn dd l wl rc hrc hsl
     have ax:=ym [0,2,3,4,1,5,6] hsl
     have hpk:=yc (Aj (jd l rc) e fb nb m ed (kW xs (iY c i) 0)) [kA dd (some []),iA .i64 f 3 (gx (iY c i)),blk kb 62 [f]] ax
     have hr1:rc.state = .ready:=by rw[hrc]
     have hr2:rc.pending=none:=by rw[hrc]
     have hround:∀ (k:Nat) (x:Int) (bs:List (World×List Nat)) (L:List gi) (w:World),k<(gx (iY c i)).length->(gx (iY c i))[(gx (iY c i)).length-1-k]? = some x->St bs ((fun(z:Nat)=>gG (Aj (jd l rc) e fb nb m ed (kW xs (iY c i) z))) k :: L) w->YR ya l (Zj (((gx (iY c i)).length:Int)-1-(k:Int)) x) w (fun v w' => v = .bool true/\St bs ((fun(z:Nat)=>gG (Aj (jd l rc) e fb nb m ed (kW xs (iY c i) z))) (k+1) :: L) w'):=by
      intro k x bs LT wr hlt hx hsr
      have hsr:=hsr.unpack
      obtain⟨j,hj,rfl⟩:=SV hlt hx
      have hjm:j<m:=by have:=hPm j (by simpa using zh hj);omega
      have hwl:=(hIw k).2
      refine J7 (vl:=(Zj (((gx (iY c i)).length:Int)-1-(k:Int)) j)) 0 hrc hsr rfl rfl rfl (jr hsr 3 ?_)
      refine tN (?_)
      refine Jj 0 hsr rfl hr1 rfl ?_
      intro ay R
      have az:=lP R (List.Perm.cons _ (List.Perm.swap _ _ _))
      have aA:=lP az (List.Perm.swap _ _ _)
      have aB:=lP aA (List.Perm.cons _ (List.Perm.cons _ (List.Perm.swap _ _ _)))
      have aC:=lP aB (List.Perm.cons _ (List.Perm.swap _ _ _))
      have S:=yc [_,_] _ aC
      refine gh R 4 ?_
      refine cl YH (HQ fb nb m ed (kW xs (iY c i) k) ay (yd S (i:=0) rfl) oa hb (hIw k).1 j o_) ?_
      rintro _ bg ⟨rfl,ht⟩
      have U:=(yq S ht)
      have bh:fZ (jK (kW xs (iY c i) k) j):=(fZ.push (hIw k).1 o_).1
      refine gf U 2 ?_
      refine Jc 2 U rfl hr1 hr2 rfl ?_
      intro bi aD
      have aE:=lP aD (List.Perm.cons _ (List.Perm.swap _ _ _))
      have aF:=lP aE (List.Perm.swap _ _ _)
      have aG:=lP aF (List.Perm.cons _ (List.Perm.cons _ (List.Perm.swap _ _ _)))
      have aH:=lP aG (List.Perm.cons _ (List.Perm.swap _ _ _))
      have hs7:=aH
      rw[<-K7 hj]at hs7
      exact⟨_,rfl,rfl,yc [_,_,_,_] _ hs7⟩
     refine CR.mono (UK (fun(z:Nat)=>gG (Aj (jd l rc) e fb nb m ed (kW xs (iY c i) z))) l kb f (gx (iY c i)) (fun b=>b∉((fun(z:Nat)=>gG (Aj (jd l rc) e fb nb m ed (kW xs (iY c i) z))) 0).gU) wl hround (yd hpk (i:=0) rfl) (hpk.at (i:=3) rfl) (hpk.ZX (by simp[iR,blk,kA])) (St.Vk hpk (i:=2) (j:=0) rfl hPin rfl d_) (fun _ h=>h) (by simp only[gx,zr];omega)) ?_
     rintro _ w9 ⟨-,hturn⟩
     have hs9:=(yq hpk hturn)
     have aI:=ym [0,4,1,2,3,5,6] hs9
     exact⟨_,by simp[gx],aI⟩
   . rintro z dd bj hC aJ
     have V:=ym [0,1,2,3] aJ
     obtain⟨O0,a0,b0,hM0,hf0⟩:=U8 hR hn hC
     refine kT tt none V 3 ?_
     refine lp (α:=List Nd×Cx×Tr×Tr) (fun(ys,O,a', b')=>[(1,(Za i)),(2,(Zb e))]) (fun(ys,O,a', b') w1=>St [(w,(Zh fb nb m ed xs).gU)] (Aj (kA dd (some [])) e fb nb m ed ys) w1/\jo xs ys (jP c (.nd a i b)) O (.nd a' i b') q/\(fM ys i).flip=false/\fZ ys/\ys.length=m) (fun(ys,O,a', b')=>O.length) ((kW xs (iY c i) z),O0,a0,b0) ⟨rfl,rfl,trivial⟩ (⟨V,hM0,hf0,(hIw z).1,by have:=(hIw z).2;omega⟩) ?_
     rintro⟨ys,O,a', b'⟩ bl B ⟨hst3,hM,hfl,hIy,hyl⟩
     refine gh hst3 3 ?_
     rcases hM.sides hn hq with ⟨hO,hS⟩|⟨d,p,s2,hO,hS,hU,hS2⟩|⟨d,p,s2,d', g2,s3,c2,hO,hS,hU,hS2⟩
     . skip
       subst hO
       have C:=ym [2,3,0,1] hst3
       refine fP hst3 2 ?_
       refine cl mw (mu fb nb m ed ys B (C.at (i:=0) rfl) (C.at (i:=1) rfl) oa hb hIy i o_ hS) ?_
       rintro _ bm ⟨rfl,aK⟩
       have W:=y8 C aK
       refine gf W 21 ?_
       refine DM 2 W rfl rfl ?_
       intro w8 hs8
       exact⟨_,results_none Tryz.results195 _ _ _,_,rfl,rfl,ys,a', b', hM,hfl,hIy,yr (yc [_,_] _ hs8)⟩
     . skip
       subst hO
       subst hU
       have D:=ym [2,3,0,1] hst3
       refine fP hst3 2 ?_
       refine cl mw (mu fb nb m ed ys B (D.at (i:=0) rfl) (D.at (i:=1) rfl) oa hb hIy i o_ hS) ?_
       rintro _ aL ⟨rfl,aM⟩
       have n:=y8 D aM
       refine fP n 24 ?_
       refine js (o' := i*9+0) (i:=(i:Int)) rfl rfl rfl yj iS (o9 (show i<(ys).length from om)) o_ (fa (o' := i*9+2) rfl rfl yi rfl gq rfl (ld rfl rfl yf rfl (yz n (i:=1) rfl f_ om rfl) (fP n 8 ?_)))
       refine cl mw (mu fb nb m ed ys aL (n.at (i:=0) rfl) (n.at (i:=1) rfl) oa hb hIy ((fM ys i).up) (o9 (hIy.up i om)) hS2) ?_
       rintro _ aN ⟨rfl,aO⟩
       have X:=y8 n aO
       have Y:=yc [_,_] _ X
       refine fP X 18 ?_
       refine cl Bk (vO fb nb m ed ys aN (yd Y (i:=0) rfl) oa hb hIy i o_) ?_
       rintro _ bn ⟨rfl,ht⟩
       have Z:=(yq Y ht)
       have aP:fZ (iG ys i):=(fZ.rotate hIy o_).1
       have bo:(iG ys i).length=m:=(AB hIy o_).trans o_
       refine gf Z 2 ?_
       refine tN (?_)
       have aQ:=ym [2,3,0,1] Z
       obtain⟨a2,b2,hM2,hf2⟩:=hM.zig hn o_ hcnt hq hfl
       exact again (iG ys i,[],a2,b2) ⟨rfl,rfl,trivial⟩ (⟨aQ,hM2,hf2,aP,by have:=hM2.kl.len;omega⟩) (by simp only[zp,zx];omega)
     . skip
       subst hO
       subst hU
       have E:=ym [2,3,0,1] hst3
       refine fP hst3 2 ?_
       refine cl mw (mu fb nb m ed ys B (E.at (i:=0) rfl) (E.at (i:=1) rfl) oa hb hIy i o_ hS) ?_
       rintro _ aR ⟨rfl,aS⟩
       have o:=y8 E aS
       refine fP o 24 ?_
       refine js (o' := i*9+0) (i:=(i:Int)) rfl rfl rfl yj iS (o9 (show i<(ys).length from om)) o_ (fa (o' := i*9+2) rfl rfl yi rfl gq rfl (ld rfl rfl yf rfl (yz o (i:=1) rfl f_ om rfl) (fP o 8 ?_)))
       refine cl mw (mu fb nb m ed ys aR (o.at (i:=0) rfl) (o.at (i:=1) rfl) oa hb hIy ((fM ys i).up) (o9 (hIy.up i om)) hS2) ?_
       rintro _ aa ⟨rfl,aT⟩
       have s:=y8 o aT
       refine fP s 17 ?_
       by_cases aU:((sd d:Int):Int)=((sd d' : Int):Int)
       . have ab:=yc [_,_] _ s
         refine fP s 7 ?_
         refine cl Bk (vO fb nb m ed ys aa (yd ab (i:=0) rfl) oa hb hIy ((fM ys i).up) (o9 (hIy.up i om))) ?_
         rintro _ aV ⟨rfl,ht⟩
         have ac:=(yq ab ht)
         have G:fZ (iG ys ((fM ys i).up)):=(fZ.rotate hIy (o9 (hIy.up i om))).1
         have bp:(iG ys ((fM ys i).up)).length=m:=(AB hIy (o9 (hIy.up i om))).trans o_
         have ad:=yc [_,_] _ ac
         refine fP ac 5 ?_
         refine cl Bk (vO fb nb m ed (iG ys ((fM ys i).up)) aV (yd ad (i:=0) rfl) oa hb G i o_) ?_
         rintro _ bq ⟨rfl,ht⟩
         have ae:=(yq ad ht)
         have aW:fZ (iG (iG ys ((fM ys i).up)) i):=(fZ.rotate G o_).1
         have br:(iG (iG ys ((fM ys i).up)) i).length=m:=(AB G o_).trans o_
         refine gf ae 2 ?_
         refine tN (?_)
         have aX:=ym [2,3,0,1] ae
         have hdd:=X8 (Int.ofNat.inj aU)
         subst hdd
         obtain⟨a2,b2,hM2,hf2⟩:=hM.X5 hn o_ hcnt hq hfl
         exact again (iG (iG ys ((fM ys i).up)) i,c2,a2,b2) ⟨rfl,rfl,trivial⟩ (⟨aX,hM2,hf2,aW,by have:=hM2.kl.len;omega⟩) (by simp only[zp,zx];omega)
       . have af:=yc [_,_] _ s
         refine fP s 7 ?_
         refine cl Bk (vO fb nb m ed ys aa (yd af (i:=0) rfl) oa hb hIy i o_) ?_
         rintro _ aY ⟨rfl,ht⟩
         have ag:=(yq af ht)
         have H:fZ (iG ys i):=(fZ.rotate hIy o_).1
         have bt:(iG ys i).length=m:=(AB hIy o_).trans o_
         have ah:=yc [_,_] _ ag
         refine fP ag 5 ?_
         refine cl Bk (vO fb nb m ed (iG ys i) aY (yd ah (i:=0) rfl) oa hb H i o_) ?_
         rintro _ bu ⟨rfl,ht⟩
         have ai:=(yq ah ht)
         have aZ:fZ (iG (iG ys i) i):=(fZ.rotate H o_).1
         have bv:(iG (iG ys i) i).length=m:=(AB H o_).trans o_
         refine gf ai 2 ?_
         refine tN (?_)
         have a1:=ym [2,3,0,1] ai
         obtain⟨a2,b2,hM2,hf2⟩:=hM.Yt hn o_ hcnt hq hfl
         exact again (iG (iG ys i) i,c2,a2,b2) ⟨rfl,rfl,trivial⟩ (⟨a1,hM2,hf2,aZ,by have:=hM2.kl.len;omega⟩) (by simp only[zp,zx];omega)
 . skip
   have hon:=MF hat hout hC.2 N
   refine cl mw (mu fb nb m ed xs y (g.at (i:=0) rfl) (g.at (i:=1) rfl) oa hb hI j o_ N) ?_
   rintro _ bw ⟨rfl,a3⟩
   have t:=y8 g a3
   refine fP t 22 ?_
   refine js (o' := j*9+0) (i:=(j:Int)) rfl rfl rfl yj iS om o_ (fa (o' := j*9+2) rfl rfl yi rfl gq rfl (ld rfl rfl yf rfl (yz t (i:=1) rfl f_ om rfl) (gf t 3 ?_)))
   refine tN (?_)
   have a4:=ym [2,3,0,1] t
   exact again ((k+1),(fM xs j).up,f) ⟨rfl,rfl,rfl,gJ (by first|rfl|omega),trivial⟩ (⟨by rw[<-Gg hC.2];exact a4,hon.2⟩) (by show (c.length+1-(k+1):Nat)<c.length+1-k;omega)
 . skip
   have hon:=MF hat hout hC.2 P
   refine cl mw (mu fb nb m ed xs y (g.at (i:=0) rfl) (g.at (i:=1) rfl) oa hb hI j o_ P) ?_
   rintro _ bz ⟨rfl,a5⟩
   have u:=y8 g a5
   refine fP u 22 ?_
   refine js (o' := j*9+0) (i:=(j:Int)) rfl rfl rfl yj iS om o_ (fa (o' := j*9+2) rfl rfl yi rfl gq rfl (ld rfl rfl yf rfl (yz u (i:=1) rfl f_ om rfl) (gf u 3 ?_)))
   refine tN (?_)
   have a6:=ym [2,3,0,1] u
   exact again ((k+1),(fM xs j).up,f) ⟨rfl,rfl,rfl,gJ (by first|rfl|omega),trivial⟩ (⟨by rw[<-Gg hC.2];exact a6,hon.2⟩) (by show (c.length+1-(k+1):Nat)<c.length+1-k;omega)
end
section
open Go Go.Sx
theorem xA(fb nb m:Nat)(ed:Int)(xs:List Nd)(w:World)(hO:Own (Zh fb nb m ed xs) w)(hm:xs.length=m)(hb:m<=1000001)(hI:fZ xs)(F:FT)(hF:Fo xs F)(i:Nat)(hi:i≠0)(him:i<m) :
 CR ya 145 (Zn fb i) w (fun r w' => ∃ l:Nat,r = .int .i64 (l:Int)/\∃ ys a R,kK xs F ys i a R/\fZ ys/\gp (Zh fb nb m ed xs) w w' (Zh fb nb m ed ys)):=by
 obtain⟨k0,hE0⟩:=Ex.init hF (i:=i) o_
 refine en Tryz.func145 Tryz.ntmps145 ?_
 have hst0:=(yy hO).unpack
 refine p8 hst0 18 ?_
 refine lp (α:=List Nd×Nat×Nat×Nat×FT×Tr) (fun(zs,below,j,k,R,B)=>[(0,(Zb fb)),(1,(Za i)),(5,(Za below)),(6,(Za j))]) (fun(zs,below,j,k,R,B) w1=>St [(w,(Zh fb nb m ed xs).gU)] (J2 fb nb m ed zs) w1/\Ex xs F i zs below j k R B/\fZ zs/\zs.length=m) (fun(zs,below,j,k,R,B)=>k) (xs,0,i,k0,F,.nil) ⟨rfl,rfl,gJ (by first|rfl|omega),gJ (by first|rfl|omega),trivial⟩ (⟨hst0,hE0,hI,hm⟩) ?_
 rintro⟨zs,below,j,k,R,B⟩ ac E ⟨hst6,hE,hIz,hlz⟩
 have hbm:below<m:=by have h7:=hE.rep.xK o_;rw[hE.root]at h7;omega
 have hjm:j<m:=by have h7:=hE.lt;omega
 refine gh hst6 4 ?_
 by_cases S:((j:Int):Int)=(0:Int)
 . have hj1:j=0:=by omega
   refine fP hst6 1 ?_
   subst hj1
   obtain⟨hg1,hg2,hg3,hg4,hg5,hgo⟩:=hE.fin hi
   have G:=yc [_,_] _ hst6
   refine fP hst6 12 ?_
   refine cl NV (Ms fb nb m ed zs E (yd G (i:=0) rfl) (by first|exact hm|omega) hb hIz i 0 B hg1 hg2 hg3 hg4 hg5) ?_
   rintro _ ad ⟨rfl,u,H,U,I,J,V,ht⟩
   have K:=(yq G ht)
   have ae:u.length=m:=by have:=I.kl.len;omega
   refine gf K 9 ?_
   refine gF (v:=(Za below)) Tryz.results145 rfl ?_
   obtain⟨hb0,h1,h2,h3,h4,h5⟩:=hgo u H U I J
   subst hb0
   exact⟨below,rfl,u,H,R,⟨h1,J,h2,h3,h4,h5⟩,V,yr (yc [_,_] [] K)⟩
 . have hj0:j≠0:=fun h7=>S o_
   obtain⟨T,q,hg1,hg2,hg3,hg4,hg5,hgo⟩:=hE.go hj0
   have L:=yc [_,_] _ hst6
   refine fP hst6 12 ?_
   refine cl NV (Ms fb nb m ed zs E (yd L (i:=0) rfl) (by first|exact hm|omega) hb hIz j q T hg1 hg2 hg3 hg4 hg5) ?_
   rintro _ af ⟨rfl,f,M,W,N,X,y,ht⟩
   have z:=(yq L ht)
   have ag:f.length=m:=by have:=N.kl.len;omega
   refine fP z 9 ?_
   refine js (o' := j*9+0) (i:=(j:Int)) rfl rfl rfl yj iS (o9 (show j<(f).length from om)) o_ (gX z 4 ?_)
   refine jD z 28 ?_ (hA:=by refine' gN 11 ?k0;case k0=>refine' gw (fun wq hM=>rv (uw (o:=j*9+0) (o' := j*9+1) (i:=1) rfl rfl yw gq d_ rfl)) ?k1;case k1=>refine' gN 1 ?k2;case k2=>refine' gw (fun wq hM=>rv (oN (o' := ((fM f j).k1)*9+0) (i:=((fM f j).k1:Int)) rfl rfl yj iS (o9 (show ((fM f j).k1)<(f).length from(o9 (y.k1 j om)))) o_)) ?k3;case k3=>refine' gN 1 ?k4;case k4=>refine' gw (fun wq hM=>rv (gZ rfl yf rfl (yz hM (i:=1) rfl f_ (o9 (y.k1 j om)) rfl))) ?k5;case k5=>refine' gN 5 ?k6;case k6=>refine' gw (fun wq hM=>rv (oN (o' := below*9+0) (i:=(below:Int)) rfl rfl yj iS (o9 (show below<(f).length from om)) o_)) ?k7;case k7=>refine' gN 2 ?k8;case k8=>refine' gw (fun wq hM=>rv (kG (e:=(IntKind.i64.wrap ((fM f ((fM f j).k1)).total-(fM f below).total))) rfl rfl rfl rfl)) ?k9;case k9=>refine' gw (fun wq hM=>rv (kG (e:=(IntKind.i64.wrap ((fM f j).iO+(IntKind.i64.wrap ((fM f ((fM f j).k1)).total-(fM f below).total))))) rfl rfl rfl rfl)) ?k10;case k10=>exact iT)
   intro wq hM
   refine ni (L' := [blk fb 250 (Zm fb nb m ed),blk nb 254 ((fR f j (fun x=>{ x with iO:=(IntKind.i64.wrap ((fM f j).iO+(IntKind.i64.wrap ((fM f ((fM f j).k1)).total-(fM f below).total)))) })).flatMap Nd.cells)]) 1 rfl rfl rfl rfl gq rfl rfl hM rfl (nV (jF (cf:=Nd.cells) (sz:=9) (k:=j) (off:=7) (n:=1) f_ om (za rfl))) (jG (cf:=Nd.cells) (sz:=9) (k:=j) (off:=7) f_ om rfl (za rfl)) rfl (fun _ h=>(jC h (fun ah p=>?_)))
   have A:fZ (fR f j (fun x=>{ x with iO:=(IntKind.i64.wrap ((fM f j).iO+(IntKind.i64.wrap ((fM f ((fM f j).k1)).total-(fM f below).total)))) })):=fZ.iE y om (fun x a b c d e=>⟨a,b,c,d,e⟩)
   obtain⟨O,Y,ai,A,p⟩:=iF (m:=m) A p
   refine oZ tt none p 6 ?_
   refine fa (o' := j*9+0) rfl rfl yi rfl lD rfl (lV (o:=j*9+0) (o' := j*9+1) (i:=1) rfl rfl rfl yw gq d_ rfl (lM (L' := [blk fb 250 (Zm fb nb m ed),blk nb 254 ((fR O j (fun x=>{ x with k1:=below })).flatMap Nd.cells)]) 1 rfl rfl rfl rfl gq rfl rfl p rfl (jF (cf:=Nd.cells) (sz:=9) (k:=j) (off:=1) (n:=1) f_ om (za rfl)) (jG (cf:=Nd.cells) (sz:=9) (k:=j) (off:=1) f_ om rfl (za rfl)) rfl ?_))
   intro Z s aj
   have t:fZ (fR O j (fun x=>{ x with k1:=below })):=fZ.iE A om (fun x a b c d e=>⟨a,om,c,d,e⟩)
   obtain⟨P,aa,ak,t,s⟩:=iF (m:=m) t s
   have Q:=yc [_,_] _ s
   refine fP s 6 ?_
   refine cl lJ (lI fb nb m ed P Z (yd Q (i:=0) rfl) oa hb t j o_) ?_
   rintro _ al ⟨rfl,ht⟩
   have g:=(yq Q ht)
   have C:fZ (iJ P j):=fZ.lB t o_
   obtain⟨D,ab,am,C,g⟩:=iF (m:=m) C g
   refine fP g 14 ?_
   refine js (o' := j*9+0) (i:=(j:Int)) rfl rfl rfl yj iS om o_ (fa (o' := j*9+2) rfl rfl yi rfl gq rfl (ld rfl rfl yf rfl (yz g (i:=1) rfl f_ om rfl) (gf g 2 ?_)))
   refine tN (?_)
   have e9:kY f j below=D:=by rw[ab,aa,Y];rfl
   obtain⟨hup,hk9,k', R', hk,hE2⟩:=hgo f M W N X
   rw[e9]at hup hE2
   rw[<-hup]at hE2
   exact again (D,j,(fM D j).up,k', R', (.nd M j B)) ⟨rfl,rfl,gJ (by first|rfl|omega),gJ (by first|rfl|omega),trivial⟩ (⟨g,hE2,C,o_⟩) (by subst hk;exact Nat.lt_succ_self _)
end
section
open Go Go.Sx
theorem Ma(fb nb m:Nat)(ed:Int)(w:World)(hf:(zQ fb nb m ed).holds w)(hb:m<=1000001) :
 CR ya 193 (Zg fb) w (fun r w' => r = .bool true/\gD [] w w'):=by
 refine en Tryz.func193 Tryz.ntmps193 ?_
 have hst0:=jB w
 refine gh hst0 8 ?_
 refine ow (a:=some ⟨fb,0,none⟩) (c:=true) rfl rfl rfl Tryz.underlying141 rfl (fP hst0 6 ?_)
 refine Eu (a:=⟨fb,0,none⟩) rfl rfl rfl Tryz.underlying141 I3 (gf hst0 5 ?_)
 refine gF (v:=Zl) Tryz.results193 rfl ?_
 exact⟨rfl,hst0.gI s_⟩
theorem Il(fb nb m:Nat)(ed:Int)(w:World)(hf:(zQ fb nb m ed).holds w)(hb:m<=1000001)(v:Nat)(hv:v+1<m) :
 CR ya 194 (Zn fb v) w (fun r w' => r = .bool true/\gD [] w w'):=by
 refine en Tryz.func194 Tryz.ntmps194 ?_
 have hst0:=jB w
 refine gh hst0 8 ?_
 refine cl N6 (Ma fb nb m ed w (St.IU hst0 s_ hf) hb) ?_
 rintro _ d ⟨rfl,b⟩
 have a:=y8 hst0 b
 refine fP a 2 ?_
 refine cmp rfl rfl rfl (pS o_) (fP a 7 ?_)
 refine Et (m:=m) (c:=m) rfl rfl yj (fP a 1 ?_)
 refine cmp rfl rfl rfl (wD o_) (gf a 5 ?_)
 refine gF (v:=Zl) Tryz.results194 rfl ?_
 exact⟨rfl,a.gI s_⟩
theorem G9(fb nb m:Nat)(ed:Int)(w:World)(hf:(zQ fb nb m ed).holds w)(hb:m<=1000001)(v:Value)(vs:List Nat)(hv:Ints .i64 (fun _=>True) w v (gx vs))(hlt:∀ x∈vs,x+1<m) :
 CR ya 144 #[(Zb fb),v] w (fun r w' => r = .int .i64 0/\gD [] w w'):=by
 have hvl:(gx vs).length=vs.length:=by simp[gx]
 have hvl2:=hv.len
 refine en Tryz.func144 Tryz.ntmps144 ?_
 have hst0:=jB w
 refine gh hst0 9 ?_
 refine cl N6 (Ma fb nb m ed w (St.IU hst0 s_ hf) hb) ?_
 rintro _ h ⟨rfl,c⟩
 have a:=y8 hst0 c
 refine fP a 10 ?_
 refine tE (v:=v) rfl rfl yh hv (gX a 4 ?_)
 refine lp (α:=Nat) (fun k=>[(0,(Zb fb)),(10,v),(11,(Za ((gx vs).length:Int))),(12,(Za k))]) (fun k w1=>St [(w,[])] [] w1/\k<=vs.length) (fun k=>vs.length-k) 0 ⟨rfl,rfl,rfl,gJ (by first|rfl|omega),trivial⟩ (⟨a,o_⟩) ?_
 rintro k j d ⟨hst7,hk7⟩
 refine gh hst7 2 ?_
 by_cases l:((k:Int):Int)<(((gx vs).length:Int):Int)
 . obtain⟨x,hx⟩:=qg (show k<vs.length by omega)
   refine fP hst7 11 ?_
   refine EI (i:=(k:Int)) (el:=(x:Int)) rfl rfl rfl yh gq (St.Iy hst7 s_ hv) o_ (by rw[show ((k:Nat):Int).toNat=k by omega];simp[gx,hx]) ?_
   intro n o e f p
   have q:=f.i64
   refine ld rfl rfl yf rfl e (fP hst7 7 ?_)
   refine cl Ii (Il fb nb m ed d (St.IU hst7 s_ hf) hb x (by first|omega|exact hlt _ (zh hx))) ?_
   rintro _ s ⟨rfl,g⟩
   have b:=y8 hst7 g
   refine gf b 11 ?_
   refine tN (?_)
   exact again (k+1) ⟨rfl,rfl,rfl,gJ (by first|rfl|omega),trivial⟩ (⟨b,o_⟩) (by show (vs.length-(k+1):Nat)<vs.length-k;omega)
 . refine gf hst7 16 ?_
   refine gF (v:=Zc) Tryz.results144 rfl ?_
   exact⟨rfl,hst7.gI s_⟩
theorem Np(fb nb m:Nat)(ed:Int)(xs:List Nd)(w:World)(hO:Own (Zh fb nb m ed xs) w)(hm:xs.length=m)(hb:m<=1000001)(hI:fZ xs)(F:FT)(hF:Fo xs F)(i:Nat)(hi:i≠0)(him:i<m) :
 CR ya 199 (Zn fb i) w (fun r w' => r = .tuple #[]/\∃ ys a R,kK xs F ys i a R/\fZ ys/\gp (Zh fb nb m ed xs) w w' (Zh fb nb m ed (j6 ys i))):=by
 refine en Tryz.func199 Tryz.ntmps199 ?_
 have hst0:=(yy hO).unpack
 have g:=yc [_,_] _ hst0
 refine gh hst0 4 ?_
 refine cl xR (xA fb nb m ed xs w (yd g (i:=0) rfl) (by first|exact hm|omega) hb hI F hF i o_ o_) ?_
 rintro _ s ⟨l₁,rfl,f,p,q,h,j,ht⟩
 have l:=(yq g ht)
 have t:f.length=m:=by have:=h.len;omega
 refine fP l 8 ?_
 refine js (o' := i*9+0) (i:=(i:Int)) rfl rfl rfl yj iS (o9 (show i<(f).length from om)) o_ (fa (o' := i*9+3) rfl rfl yi rfl qM rfl (lM (L' := [blk fb 250 (Zm fb nb m ed),blk nb 254 ((fR f i (fun x=>{ x with flip:=true })).flatMap Nd.cells)]) 1 rfl rfl rfl rfl qM rfl rfl l rfl (jF (cf:=Nd.cells) (sz:=9) (k:=i) (off:=3) (n:=1) f_ om (za rfl)) (jG (cf:=Nd.cells) (sz:=9) (k:=i) (off:=3) f_ om rfl (za rfl)) rfl ?_))
 intro u o v
 have y:fZ (fR f i (fun x=>{ x with flip:=true })):=fZ.iE j om (fun x a b c d e=>⟨a,b,c,d,e⟩)
 refine gf o 1 ?_
 refine jf Tryz.results199 ?_
 have e9:j6 f i=fR f i (fun x=>{ x with flip:=true }):=rfl
 exact⟨rfl,f,p,q,h,j,yr (yc [_,_] [] o)⟩
theorem HL(fb nb m:Nat)(ed:Int)(xs:List Nd)(w:World)(hO:Own (Zh fb nb m ed xs) w)(hm:xs.length=m)(hb:m<=1000001)(hI:fZ xs)(F:FT)(hF:Fo xs F)(i j:Nat)(hi:i≠0)(him:i<m)(hj:j≠0)(hjm:j<m) :
 CR ya 151 (Z2 fb i j) w (fun r w' => r = .tuple #[]/\∃ ys a R zs b R2,kK xs F ys i a R/\kK (j6 ys i) ((.nd a i .nil,0) :: R) zs j b R2/\fZ zs/\gp (Zh fb nb m ed xs) w w' (Zh fb nb m ed zs)):=by
 refine en Tryz.func151 Tryz.ntmps151 ?_
 have hst0:=(yy hO).unpack
 have e:=yc [_,_] _ hst0
 refine gh hst0 4 ?_
 refine cl NS (Np fb nb m ed xs w (yd e (i:=0) rfl) (by first|exact hm|omega) hb hI F hF i o_ o_) ?_
 rintro _ p ⟨rfl,c,f,g,d,q,ht⟩
 have h:=(yq e ht)
 have s:c.length=m:=by have:=d.len;omega
 have t:fZ (j6 c i):=q.lead o_
 have y:(j6 c i).length=m:=(sZ _ _).trans s
 have k:=yc [_,_] _ h
 refine fP h 5 ?_
 refine cl xR (xA fb nb m ed (j6 c i) p (yd k (i:=0) rfl) (by first|exact hm|omega) hb t ((.nd f i .nil,0) :: g) d.BN.fo j o_ o_) ?_
 rintro _ z ⟨l₁,rfl,l,u,v,n,x,ht⟩
 have o:=(yq k ht)
 have A:l.length=m:=by have:=n.len;omega
 refine gf o 1 ?_
 refine jf Tryz.results151 ?_
 exact⟨rfl,c,f,g,l,u,v,d,n,x,yr (yc [_,_] [] o)⟩
end
section
open Go Go.Sx
theorem FK(fb nb m:Nat)(ed:Int)(xs:List Nd)(w:World)(hO:Own (Zh fb nb m ed xs) w)(hm:xs.length=m)(hb:m<=1000001)(hI:fZ xs)(F:FT)(hF:Fo xs F)(a b:Nat)(ha:a+1<m)(hb2:b+1<m) :
 CR ya 162 (Z2 fb a b) w (fun r w' => ∃ B zs F2,r = .bool B/\(B=true↔Joined xs F (a+1) (b+1))/\Fo zs F2/\fZ zs/\zs.length=m/\(∀ u v,Joined zs F2 u v↔Joined xs F u v)/\(∀ k,(fM zs k).key=(fM xs k).key)/\gp (Zh fb nb m ed xs) w w' (Zh fb nb m ed zs)):=by
 refine en Tryz.func162 Tryz.ntmps162 ?_
 have hst0:=(yy hO).unpack
 refine gh hst0 10 ?_
 refine cl Ii (Il fb nb m ed w (hst0.at (i:=0) rfl) hb a o_) ?_
 rintro _ q ⟨rfl,s⟩
 have h:=y8 hst0 s
 refine fP h 4 ?_
 refine cl Ii (Il fb nb m ed q (h.at (i:=0) rfl) hb b o_) ?_
 rintro _ t ⟨rfl,x⟩
 have f:=y8 h x
 refine fP f 12 ?_
 by_cases D:((a:Int):Int)=((b:Int):Int)
 . refine gf f 11 ?_
   refine gF (v:=Zl) Tryz.results162 rfl ?_
   have hab:a=b:=by omega
   subst hab
   exact⟨true,xs,F,rfl,⟨fun _=>hF.Se o_ o_,fun _=>rfl⟩,hF,hI,hm,fun _ _=>Iff.rfl,fun _=>rfl,yr (yc [_,_] _ f)⟩
 . have j:=yc [_,_] _ f
   refine fP f 11 ?_
   refine cl xR (xA fb nb m ed xs t (yd j (i:=0) rfl) (by first|exact hm|omega) hb hI F hF (a+1) o_ o_) ?_
   rintro _ y ⟨l₁,rfl,l,z,A,d,C,ht⟩
   have n:=(yq j ht)
   have E:l.length=m:=by have:=d.len;omega
   have o:=yc [_,_] _ n
   refine fP n 7 ?_
   refine cl xR (xA fb nb m ed l y (yd o (i:=0) rfl) (by first|exact hm|omega) hb C ((.nd z (a+1) .nil,0) :: A) d.fo (b+1) o_ o_) ?_
   rintro _ G ⟨l₂,rfl,g,H,I,c,p,ht⟩
   have e:=(yq o ht)
   have J:g.length=m:=by have:=c.len;omega
   refine fP e 10 ?_
   refine js (o' := (a+1)*9+0) (i:=(a:Int)+1) rfl rfl rfl yj iS (o9 (show (a+1)<(g).length from om)) o_ (fa (o' := (a+1)*9+2) rfl rfl yi rfl gq rfl (ld rfl rfl yf rfl (yz e (i:=1) rfl f_ om rfl) ?_))
   by_cases K:(((fM g (a+1)).up:Int):Int)=(0:Int)
   . refine gf e 5 ?_
     refine gF (v:=Zq) Tryz.results162 rfl ?_
     have hju:=LQ d c (show a+1≠b+1 by omega)
     exact⟨false,g,_,rfl,⟨fun h9=>(by cases h9),fun h9=>absurd (hju.2 h9) o_⟩,c.fo,p,by have:=c.len;omega,fun u v=>(c.joined u v).trans (d.joined u v),fun k=>(c.key k).trans (d.key k),yr (yc [_,_] _ e)⟩
   . refine gf e 5 ?_
     refine gF (v:=Zl) Tryz.results162 rfl ?_
     have hju:=LQ d c (show a+1≠b+1 by omega)
     exact⟨true,g,_,rfl,⟨fun _=>hju.1 o_,fun _=>rfl⟩,c.fo,p,by have:=c.len;omega,fun u v=>(c.joined u v).trans (d.joined u v),fun k=>(c.key k).trans (d.key k),yr (yc [_,_] _ e)⟩
theorem Yg(fb nb m:Nat)(ed:Int)(xs:List Nd)(w:World)(hO:Own (Zh fb nb m ed xs) w)(hm:xs.length=m)(hb:m<=1000001)(hI:fZ xs)(F:FT)(hF:Fo xs F)(v:Nat)(hv:v+1<m)(key:Int)(hk:iC .i64 key) :
 CR ya 95 (Z2 fb v key) w (fun r w' => r = .int .i64 0/\∃ zs F2,Fo zs F2/\fZ zs/\zs.length=m/\gp (Zh fb nb m ed xs) w w' (Zh fb nb m ed zs)):=by
 refine en Tryz.func95 Tryz.ntmps95 ?_
 have hst0:=(yy hO).unpack
 refine gh hst0 10 ?_
 refine nk (vs:=(Zf v)) (cs:=(Zf v)) rfl rfl yh gq rfl (by simp[Value.cells]) rfl rfl rfl hst0 (fun l z H I g=>cl Ie (G9 fb nb m ed z (g.at (i:=1) rfl) hb (Zx l) [v] (wI g (i:=0) rfl (C5 (m:=m) (P:=[v]) (by intro j hj;simp at hj;omega) hb)).any (by intro j hj;simp at hj;omega)) ?_)
 rintro _ A ⟨rfl,B⟩
 have o:=y8 g B
 have C:=ym [1,2,0] o
 have p:=yc [_,_] _ C
 refine fP o 17 ?_
 refine cl xR (xA fb nb m ed xs A (yd p (i:=0) rfl) (by first|exact hm|omega) hb hI F hF (v+1) o_ o_) ?_
 rintro _ J ⟨l₁,rfl,f,K,L,h,D,ht⟩
 have q:=(yq p ht)
 have M:f.length=m:=by have:=h.len;omega
 refine fP q 11 ?_
 refine js (o' := (v+1)*9+0) (i:=(v:Int)+1) rfl rfl rfl yj iS (o9 (show (v+1)<(f).length from om)) o_ (fa (o' := (v+1)*9+4) rfl rfl yi rfl ti2 rfl (lM (L' := [blk fb 250 (Zm fb nb m ed),blk nb 254 ((fR f (v+1) (fun x=>{ x with key:=key })).flatMap Nd.cells),iA .i64 (Zx l) 3 ([(v:Int)])]) 1 rfl rfl rfl rfl ti2 rfl rfl q rfl (jF (cf:=Nd.cells) (sz:=9) (k:=(v+1)) (off:=4) (n:=1) f_ om (za rfl)) (jG (cf:=Nd.cells) (sz:=9) (k:=(v+1)) (off:=4) f_ om rfl (za rfl)) rfl ?_))
 intro E s N
 have t:fZ (fR f (v+1) (fun x=>{ x with key:=key })):=fZ.iE D om (fun x a b c d e=>⟨a,b,c,d,hk⟩)
 have u:=yc [_,_] _ s
 refine fP s 7 ?_
 refine cl lJ (lI fb nb m ed (fR f (v+1) (fun x=>{ x with key:=key })) E (yd u (i:=0) rfl) oa hb t (v+1) om) ?_
 rintro _ O ⟨rfl,ht⟩
 have y:=(yq u ht)
 have G:fZ (iJ (fR f (v+1) (fun x=>{ x with key:=key })) (v+1)):=fZ.lB t om
 refine gf y 8 ?_
 refine gF (v:=Zc) Tryz.results95 rfl ?_
 have e9:uW f (v+1) key=iJ (fR f (v+1) (fun x=>{ x with key:=key })) (v+1):=rfl
 have h9:=Vf (c:=key) h.fo
 exact⟨rfl,iJ (fR f (v+1) (fun x=>{ x with key:=key })) (v+1),_,h9.1,G,by rw[<-e9,h9.2.1];have:=h.len;omega,yr (yc [_,_] _ y)⟩
theorem Xc(fb nb m:Nat)(ed:Int)(xs:List Nd)(w:World)(hO:Own (Zh fb nb m ed xs) w)(hm:xs.length=m)(hb:m<=1000001)(hI:fZ xs)(F:FT)(hF:Fo xs F)(a b:Nat)(ha:a+1<m)(hb2:b+1<m) :
 CR ya 150 (Z2 fb a b) w (fun r w' => ∃ d zs F2,r = .int .i64 d/\Fo zs F2/\fZ zs/\zs.length=m/\(d=1->∃ b' R,F2=(.nd b' (b+1) .nil,0) :: R/\gA zs false (.nd b' (b+1) .nil)=[a+1,b+1])/\gp (Zh fb nb m ed xs) w w' (Zh fb nb m ed zs)):=by
 refine en Tryz.func150 Tryz.ntmps150 ?_
 have hst0:=(yy hO).unpack
 have k:=yc [_,_] _ hst0
 refine gh hst0 11 ?_
 refine cl Ip (FK fb nb m ed xs w (yd k (i:=0) rfl) (by first|exact hm|omega) hb hI F hF a b o_ o_) ?_
 rintro _ s ⟨t,l,F2₁,rfl,u,h,n,x,y,B,ht⟩
 have f:=(yq k ht)
 refine gX f 3 ?_
 cases o:(t:Bool)
 . skip
   subst o
   refine jr f 8 ?_
   refine gF (v:=Zv) Tryz.results150 rfl ?_
   exact⟨-1,l,_,rfl,h,n,x,fun h9=>absurd h9 d_,yr (yc [_,_] _ f)⟩
 . skip
   subst o
   have p:=yc [_,_] _ f
   refine gh f 10 ?_
   refine cl Ic (HL fb nb m ed l s (yd p (i:=0) rfl) (by first|exact hm|omega) hb n F2₁ h (a+1) (b+1) o_ o_ o_ o_) ?_
   rintro _ C ⟨rfl,D,E,G,c,q,z,j,e,A,ht⟩
   have g:=(yq p ht)
   have H:c.length=m:=by have h7:=e.len;have h8:=j.len;rw[sZ]at h7;omega
   have hb9:0<=(fM c (b+1)).size/\(fM c (b+1)).size<=1000000:=by have h7:=(e.fo.rep (.nd q (b+1) .nil,0) s_).2.2.1.size;have h8:=e.fo.count;simp only[Tr.mem]at h7 h8;rw[h7];omega
   refine fP g 10 ?_
   refine js (o' := (b+1)*9+0) (i:=(b:Int)+1) rfl rfl rfl yj iS (o9 (show (b+1)<(c).length from om)) o_ (fa (o' := (b+1)*9+5) rfl rfl yi rfl gq rfl (ld rfl rfl yf rfl (yz g (i:=1) rfl f_ om rfl) (gf g 5 ?_)))
   refine gF (v:=(Za (((fM c (b+1)).size)-1))) Tryz.results150 rfl ?_
   have hJ9:=(y (a+1) (b+1)).2 (u.1 rfl)
   have hd9:=fun hs=>Vi h hJ9 j e hs
   skip
   exact⟨(fM c (b+1)).size-1,c,_,rfl,e.fo,A,by have h7:=e.len;have h8:=j.len;rw[sZ]at h7;omega,fun h9=>⟨q,z,rfl,hd9 o_⟩,yr (yc [_,_] _ g)⟩
theorem YL(fb nb m:Nat)(ed:Int)(xs:List Nd)(w:World)(hO:Own (Zh fb nb m ed xs) w)(hm:xs.length=m)(hb:m<=1000001)(hI:fZ xs)(F:FT)(hF:Fo xs F)(a b:Nat)(ha:a+1<m)(hb2:b+1<m) :
 CR ya 119 (Z2 fb a b) w (fun r w' => ∃ (f:Nat) (B:Bool),∃ zs F2,r = .tuple (sH f B)/\f+1<m/\Fo zs F2/\fZ zs/\zs.length=m/\gp (Zh fb nb m ed xs) w w' (Zh fb nb m ed zs)):=by
 refine en Tryz.func119 Tryz.ntmps119 ?_
 have hst0:=(yy hO).unpack
 have h:=yc [_,_] _ hst0
 refine gh hst0 12 ?_
 refine cl Ip (FK fb nb m ed xs w (yd h (i:=0) rfl) (by first|exact hm|omega) hb hI F hF a b o_ o_) ?_
 rintro _ s ⟨t,j,F2₁,rfl,y,k,l,u,z,A,ht⟩
 have d:=(yq h ht)
 refine gX d 3 ?_
 cases n:(t:Bool)
 . skip
   subst n
   refine jr d 9 ?_
   refine jm (v:=Zc) (v' := Zq) Tryz.results119 rfl rfl ?_
   exact⟨0,false,j,_,rfl,o_,k,l,u,yr (yc [_,_] _ d)⟩
 . skip
   subst n
   have o:=yc [_,_] _ d
   refine gh d 10 ?_
   refine cl Ic (HL fb nb m ed j s (yd o (i:=0) rfl) (by first|exact hm|omega) hb l F2₁ k (a+1) (b+1) o_ o_ o_ o_) ?_
   rintro _ C ⟨rfl,D,E,G,c,x,H,p,e,q,ht⟩
   have g:=(yq o ht)
   have I:c.length=m:=by have h7:=e.len;have h8:=p.len;rw[sZ]at h7;omega
   have hb9:(fM c (b+1)).first≠0/\(fM c (b+1)).first<m:=by have h7:=e.fo.rep (.nd x (b+1) .nil,0) s_;have h8:=h7.oK _ h7.2.2.1.first.1;have h9:=q.first (b+1) o_;omega
   refine fP g 10 ?_
   refine js (o' := (b+1)*9+0) (i:=(b:Int)+1) rfl rfl rfl yj iS (o9 (show (b+1)<(c).length from om)) o_ (fa (o' := (b+1)*9+6) rfl rfl yi rfl gq rfl (ld rfl rfl yf rfl (yz g (i:=1) rfl f_ om rfl) (gf g 6 ?_)))
   refine jm (v:=(Za (((fM c (b+1)).first:Int)-1))) (v' := Zl) Tryz.results119 rfl rfl ?_
   exact⟨(fM c (b+1)).first-1,true,c,_,by rw[show (((fM c (b+1)).first-1:Nat):Int)=((fM c (b+1)).first:Int)-1 by omega],o_,e.fo,q,by have h7:=e.len;have h8:=p.len;rw[sZ]at h7;omega,yr (yc [_,_] _ g)⟩
theorem WM(fb nb m:Nat)(ed:Int)(xs:List Nd)(w:World)(hO:Own (Zh fb nb m ed xs) w)(hm:xs.length=m)(hb:m<=1000001)(hI:fZ xs)(F:FT)(hF:Fo xs F)(a b:Nat)(ha:a+1<m)(hb2:b+1<m) :
 CR ya 163 (Z2 fb a b) w (fun r w' => ∃ e ed', ∃ zs F2,r = .int .i64 e/\Fo zs F2/\fZ zs/\zs.length=m/\gp (Zh fb nb m ed xs) w w' (Zh fb nb m ed' zs)):=by
 refine en Tryz.func163 Tryz.ntmps163 ?_
 have hst0:=(yy hO).unpack
 refine gh hst0 11 ?_
 refine nk (vs:=(Zj a b)) (cs:=(Zj a b)) rfl rfl yh gq rfl (by simp[Value.cells]) rfl rfl rfl hst0 (fun s M aj ak t=>cl Ie (G9 fb nb m ed M (t.at (i:=1) rfl) hb (wP s) [a,b] (wI t (i:=0) rfl (C5 (m:=m) (P:=[a,b]) (by intro j hj;simp at hj;omega) hb)).any (by intro j hj;simp at hj;omega)) ?_)
 rintro _ N ⟨rfl,O⟩
 have g:=y8 t O
 refine fP g 17 ?_
 by_cases al:((a:Int):Int)=((b:Int):Int)
 . refine gf g 11 ?_
   refine gF (v:=(.int .i64 9)) Tryz.results163 rfl ?_
   have Q:=ym [1,2,0] g
   exact⟨_,ed,xs,F,rfl,hF,hI,hm,yr (yc [_,_] _ Q)⟩
 . skip
   have R:=ym [1,2,0] g
   have z:=yc [_,_] _ R
   refine fP g 12 ?_
   refine cl Ip (FK fb nb m ed xs N (yd z (i:=0) rfl) (by first|exact hm|omega) hb hI F hF a b o_ o_) ?_
   rintro _ S ⟨U,u,F2₁,rfl,V,y,A,W,X,am,ht⟩
   have l:=(yq z ht)
   refine gX l 2 ?_
   cases B:(U:Bool)
   . skip
     subst B
     have C:=yc [_,_] _ l
     refine gh l 8 ?_
     refine cl NS (Np fb nb m ed u S (yd C (i:=0) rfl) (by first|exact hm|omega) hb A F2₁ y (a+1) o_ o_) ?_
     rintro _ Y ⟨rfl,o,Z,aa,p,ab,ht⟩
     have D:=(yq C ht)
     have ac:o.length=m:=by have:=p.len;omega
     have ad:fZ (j6 o (a+1)):=ab.lead o_
     have an:(j6 o (a+1)).length=m:=(sZ _ _).trans ac
     have E:=yc [_,_] _ D
     refine fP D 7 ?_
     refine cl xR (xA fb nb m ed (j6 o (a+1)) Y (yd E (i:=0) rfl) (by first|exact hm|omega) hb ad ((.nd Z (a+1) .nil,0) :: aa) p.BN.fo (b+1) o_ o_) ?_
     rintro _ ao ⟨l₁,rfl,f,ap,aq,q,ae,ht⟩
     have G:=(yq E ht)
     have au:f.length=m:=by have:=q.len;omega
     refine fP G 12 ?_
     refine js (o' := (a+1)*9+0) (i:=(a:Int)+1) rfl rfl rfl yj iS (o9 (show (a+1)<(f).length from om)) o_ (fa (o' := (a+1)*9+2) rfl rfl yi rfl gq rfl (lM (L' := [blk fb 250 (Zm fb nb m ed),blk nb 254 ((fR f (a+1) (fun x=>{ x with up:=(b+1) })).flatMap Nd.cells),iA .i64 (wP s) 3 ([(a:Int),(b:Int)])]) 1 rfl rfl rfl rfl gq rfl rfl G rfl (jF (cf:=Nd.cells) (sz:=9) (k:=(a+1)) (off:=2) (n:=1) f_ om (za rfl)) (jG (cf:=Nd.cells) (sz:=9) (k:=(a+1)) (off:=2) f_ om rfl (za rfl)) rfl ?_))
     intro av H aw
     have af:fZ (fR f (a+1) (fun x=>{ x with up:=(b+1) })):=fZ.iE ae om (fun x a b c d e=>⟨a,b,om,d,e⟩)
     refine gX H 3 ?_
     refine jD H 21 ?_ (hA:=by refine' gN 6 ?k0;case k0=>refine' gw (fun wq hM=>rv (oN (o' := (b+1)*9+0) (i:=(b:Int)+1) rfl rfl yj iS (o9 (show (b+1)<(fR f (a+1) (fun x=>{ x with up:=(b+1) })).length from om)) o_)) ?k1;case k1=>refine' gN 8 ?k2;case k2=>refine' gw (fun wq hM=>rv (oN (o' := (a+1)*9+0) (i:=(a:Int)+1) rfl rfl yj iS (o9 (show (a+1)<(fR f (a+1) (fun x=>{ x with up:=(b+1) })).length from om)) o_)) ?k3;case k3=>refine' gN 2 ?k4;case k4=>refine' gw (fun wq hM=>rv (kG (e:=(IntKind.i64.wrap ((fM (fR f (a+1) (fun x=>{ x with up:=(b+1) })) (b+1)).iO+(fM (fR f (a+1) (fun x=>{ x with up:=(b+1) })) (a+1)).total))) rfl rfl rfl rfl)) ?k5;case k5=>refine' gw (fun wq hM=>rv (oN (o' := (b+1)*9+0) (i:=(b:Int)+1) rfl rfl yj iS (o9 (show (b+1)<(fR f (a+1) (fun x=>{ x with up:=(b+1) })).length from om)) o_)) ?k6;case k6=>exact iT)
     intro wq hM
     refine ni (L' := [blk fb 250 (Zm fb nb m ed),blk nb 254 ((fR (fR f (a+1) (fun x=>{ x with up:=(b+1) })) (b+1) (fun x=>{ x with iO:=(IntKind.i64.wrap ((fM (fR f (a+1) (fun x=>{ x with up:=(b+1) })) (b+1)).iO+(fM (fR f (a+1) (fun x=>{ x with up:=(b+1) })) (a+1)).total)) })).flatMap Nd.cells),iA .i64 (wP s) 3 ([(a:Int),(b:Int)])]) 1 rfl rfl rfl rfl gq rfl rfl hM rfl (nV (jF (cf:=Nd.cells) (sz:=9) (k:=(b+1)) (off:=7) (n:=1) f_ om (za rfl))) (jG (cf:=Nd.cells) (sz:=9) (k:=(b+1)) (off:=7) f_ om rfl (za rfl)) rfl (fun _ h=>(jC h (fun ag I=>?_)))
     have J:fZ (fR (fR f (a+1) (fun x=>{ x with up:=(b+1) })) (b+1) (fun x=>{ x with iO:=(IntKind.i64.wrap ((fM (fR f (a+1) (fun x=>{ x with up:=(b+1) })) (b+1)).iO+(fM (fR f (a+1) (fun x=>{ x with up:=(b+1) })) (a+1)).total)) })):=fZ.iE af om (fun x a b c d e=>⟨a,b,c,d,e⟩)
     have K:=yc [_,_] _ I
     refine oZ tt none I 6 ?_
     refine cl lJ (lI fb nb m ed (fR (fR f (a+1) (fun x=>{ x with up:=(b+1) })) (b+1) (fun x=>{ x with iO:=(IntKind.i64.wrap ((fM (fR f (a+1) (fun x=>{ x with up:=(b+1) })) (b+1)).iO+(fM (fR f (a+1) (fun x=>{ x with up:=(b+1) })) (a+1)).total)) })) ag (yd K (i:=0) rfl) oa hb J (b+1) om) ?_
     rintro _ ax ⟨rfl,ht⟩
     have L:=(yq K ht)
     have ah:fZ (iJ (fR (fR f (a+1) (fun x=>{ x with up:=(b+1) })) (b+1) (fun x=>{ x with iO:=(IntKind.i64.wrap ((fM (fR f (a+1) (fun x=>{ x with up:=(b+1) })) (b+1)).iO+(fM (fR f (a+1) (fun x=>{ x with up:=(b+1) })) (a+1)).total)) })) (b+1)):=fZ.lB J om
     refine fP L 8 ?_
     refine ar (e:=(IntKind.i64.wrap (ed+1))) rfl rfl rfl rfl rfl (lW L 11 fun ay ai=>?_)
     refine gF (v:=Zc) Tryz.results163 rfl ?_
     have hnJ:¬ Joined u F2₁ (a+1) (b+1):=fun h9=>by have h8:=V.2 ((X _ _).1 h9);cases h8
     obtain⟨R3,hR3⟩:=Uw y p q hnJ o_ o_ o_ o_
     have hk9:=TM (q.fo.perm (hR3.cons _))
     have e9:pJ f (a+1) (b+1)=iJ (fR (fR f (a+1) (fun x=>{ x with up:=(b+1) })) (b+1) (fun x=>{ x with iO:=(IntKind.i64.wrap ((fM (fR f (a+1) (fun x=>{ x with up:=(b+1) })) (b+1)).iO+(fM (fR f (a+1) (fun x=>{ x with up:=(b+1) })) (a+1)).total)) })) (b+1):=rfl
     exact⟨_,_,iJ (fR (fR f (a+1) (fun x=>{ x with up:=(b+1) })) (b+1) (fun x=>{ x with iO:=(IntKind.i64.wrap ((fM (fR f (a+1) (fun x=>{ x with up:=(b+1) })) (b+1)).iO+(fM (fR f (a+1) (fun x=>{ x with up:=(b+1) })) (a+1)).total)) })) (b+1),_,rfl,hk9.1,ah,by rw[<-e9,hk9.2.1];have h7:=q.len;have h8:=p.len;rw[sZ]at h7;omega,yr (yc [_,_] _ ai)⟩
   . skip
     subst B
     refine jr l 8 ?_
     refine gF (v:=(.int .i64 6)) Tryz.results163 rfl ?_
     exact⟨_,ed,u,_,rfl,y,A,W,yr (yc [_,_] _ l)⟩
theorem X6(fb nb m:Nat)(ed:Int)(xs:List Nd)(w:World)(hO:Own (Zh fb nb m ed xs) w)(hm:xs.length=m)(hb:m<=1000001)(hI:fZ xs)(F:FT)(hF:Fo xs F)(a b:Nat)(ha:a+1<m)(hb2:b+1<m) :
 CR ya 99 (Z2 fb a b) w (fun r w' => ∃ e ed', ∃ zs F2,r = .int .i64 e/\Fo zs F2/\fZ zs/\zs.length=m/\gp (Zh fb nb m ed xs) w w' (Zh fb nb m ed' zs)):=by
 refine en Tryz.func99 Tryz.ntmps99 ?_
 have hst0:=(yy hO).unpack
 refine gh hst0 11 ?_
 refine nk (vs:=(Zj a b)) (cs:=(Zj a b)) rfl rfl yh gq rfl (by simp[Value.cells]) rfl rfl rfl hst0 (fun l I X Y p=>cl Ie (G9 fb nb m ed I (p.at (i:=1) rfl) hb (wP l) [a,b] (wI p (i:=0) rfl (C5 (m:=m) (P:=[a,b]) (by intro j hj;simp at hj;omega) hb)).any (by intro j hj;simp at hj;omega)) ?_)
 rintro _ J ⟨rfl,K⟩
 have t:=y8 p K
 have L:=ym [1,2,0] t
 have u:=yc [_,_] _ L
 refine fP t 18 ?_
 refine cl XJ (Xc fb nb m ed xs J (yd u (i:=0) rfl) (by first|exact hm|omega) hb hI F hF a b o_ o_) ?_
 rintro _ M ⟨N,y,F2₁,rfl,q,z,O,Q,ht⟩
 have g:=(yq u ht)
 by_cases Z:(N:Int)=(1:Int)
 . have A:=yc [_,_] _ g
   refine fP g 13 ?_
   refine cl Ic (HL fb nb m ed y M (yd A (i:=0) rfl) (by first|exact hm|omega) hb z F2₁ q (a+1) (b+1) o_ o_ o_ o_) ?_
   rintro _ aa ⟨rfl,ab,ac,ad,f,ae,af,s,h,R,ht⟩
   have B:=(yq A ht)
   have ag:f.length=m:=by have h7:=h.len;have h8:=s.len;rw[sZ]at h7;omega
   refine fP B 10 ?_
   refine js (o' := (a+1)*9+0) (i:=(a:Int)+1) rfl rfl rfl yj iS (o9 (show (a+1)<(f).length from om)) o_ (fa (o' := (a+1)*9+2) rfl rfl yi rfl gq rfl (lM (L' := [blk fb 250 (Zm fb nb m ed),blk nb 254 ((fR f (a+1) (fun x=>{ x with up:=0 })).flatMap Nd.cells),iA .i64 (wP l) 3 ([(a:Int),(b:Int)])]) 1 rfl rfl rfl rfl gq rfl rfl B rfl (jF (cf:=Nd.cells) (sz:=9) (k:=(a+1)) (off:=2) (n:=1) f_ om (za rfl)) (jG (cf:=Nd.cells) (sz:=9) (k:=(a+1)) (off:=2) f_ om rfl (za rfl)) rfl ?_))
   intro ah C ai
   have S:fZ (fR f (a+1) (fun x=>{ x with up:=0 })):=fZ.iE R om (fun x a b c d e=>⟨a,b,om,d,e⟩)
   refine fP C 10 ?_
   refine js (o' := (b+1)*9+0) (i:=(b:Int)+1) rfl rfl rfl yj iS (o9 (show (b+1)<(fR f (a+1) (fun x=>{ x with up:=0 })).length from om)) o_ (fa (o' := (b+1)*9+0) rfl rfl yi rfl lD rfl (lV (o:=(b+1)*9+0) (o' := (b+1)*9+0) (i:=0) rfl rfl rfl yw gq d_ rfl (lM (L' := [blk fb 250 (Zm fb nb m ed),blk nb 254 ((fR (fR f (a+1) (fun x=>{ x with up:=0 })) (b+1) (fun x=>{ x with k0:=0 })).flatMap Nd.cells),iA .i64 (wP l) 3 ([(a:Int),(b:Int)])]) 1 rfl rfl rfl rfl gq rfl rfl C rfl (jF (cf:=Nd.cells) (sz:=9) (k:=(b+1)) (off:=0) (n:=1) f_ om (za rfl)) (jG (cf:=Nd.cells) (sz:=9) (k:=(b+1)) (off:=0) f_ om rfl (za rfl)) rfl ?_)))
   intro U D aj
   have E:fZ (fR (fR f (a+1) (fun x=>{ x with up:=0 })) (b+1) (fun x=>{ x with k0:=0 })):=fZ.iE S om (fun x a b c d e=>⟨om,b,c,d,e⟩)
   have G:=yc [_,_] _ D
   refine fP D 7 ?_
   refine cl lJ (lI fb nb m ed (fR (fR f (a+1) (fun x=>{ x with up:=0 })) (b+1) (fun x=>{ x with k0:=0 })) U (yd G (i:=0) rfl) oa hb E (b+1) om) ?_
   rintro _ ak ⟨rfl,ht⟩
   have H:=(yq G ht)
   have V:fZ (iJ (fR (fR f (a+1) (fun x=>{ x with up:=0 })) (b+1) (fun x=>{ x with k0:=0 })) (b+1)):=fZ.lB E om
   refine fP H 8 ?_
   refine ar (e:=(IntKind.i64.wrap (ed-1))) rfl rfl rfl rfl rfl (lW H 11 fun al W=>?_)
   refine gF (v:=Zc) Tryz.results99 rfl ?_
   obtain⟨b9,R9,hF9,hs9⟩:=Q o_
   subst hF9
   obtain⟨hb9,ha9⟩:=UE q hs9 s h
   have hf9:=h.fo
   rw[hb9]at hf9
   have hu9:=RX hf9
   have e9:s7 f (a+1) (b+1)=iJ (fR (fR f (a+1) (fun x=>{ x with up:=0 })) (b+1) (fun x=>{ x with k0:=0 })) (b+1):=rfl
   exact⟨_,_,iJ (fR (fR f (a+1) (fun x=>{ x with up:=0 })) (b+1) (fun x=>{ x with k0:=0 })) (b+1),_,rfl,hu9.1,V,by rw[<-e9,hu9.2.1];have h7:=h.len;have h8:=s.len;rw[sZ]at h7;omega,yr (yc [_,_] _ W)⟩
 . refine gf g 11 ?_
   refine gF (v:=(.int .i64 5)) Tryz.results99 rfl ?_
   exact⟨_,ed,y,_,rfl,q,z,O,yr (yc [_,_] _ g)⟩
end
section
open Go Go.Sx
theorem Uf(n:Nat)(w:World)(hn:n<=65536) :
 CR ya 94 (rO n) w (fun r w' => ∃ fb nb,r = .tuple (Z8 fb)/\gp (gG []) w w' (gG (Rg fb nb (n+1) (l9 n n)))):=by
 refine en Tryz.func94 Tryz.ntmps94 ?_
 have hst0:=jB w
 refine gh hst0 10 ?_
 refine cmp rfl rfl rfl (nE o_) (fP hst0 2 ?_)
 refine cmp rfl rfl rfl (tv o_) (fP hst0 10 ?_)
 refine BA (cf:=Nd.cells) (z0:=uf) (m:=n+1) (c:=n+1) rfl (gJ o_) (gJ o_) yj iS rfl f_ d_ (zn _) o_ o_ hst0 ?_
 intro a f p q g
 have h:St [(w,[])] [blk a 254 ((l9 n 0).flatMap Nd.cells)] f:=by rw[Tg];exact g
 refine lX (pvs:=[(1,(Zs a (n+1)))]) (v:=.agg (QD a (n+1))) rfl rfl (kV [(1,(Fa a (n+1)))] I3 ZY rfl ⟨rfl,rfl,trivial⟩ rfl) (bx (v:=(.agg (QD a (n+1)))) (cs:=[Z1,(Zs a (n+1)),Zc]) rfl rfl rfl h (fun b s t u j=>vp j 20 fun x l=>?_))
 refine lp (α:=Nat) (fun k=>[(4,(Zb b)),(21,(Za n)),(22,(Za k))]) (fun k w1=>St [(w,[])] (Rg b a (n+1) (l9 n k)) w1/\k<=n) (fun k=>n-k) 0 ⟨rfl,rfl,gJ (by first|rfl|omega),trivial⟩ (⟨l,o_⟩) ?_
 rintro k y o ⟨hst9,hk9⟩
 refine gh hst9 2 ?_
 by_cases z:((k:Int):Int)<((n:Int):Int)
 . have d:=yc [_,_] [] hst9
   refine fP hst9 19 ?_
   refine cl lJ (lI b a (n+1) 0 (l9 n k) o (yd d (i:=0) rfl) (oI n k) o_ (Ni o_) (k+1) o_) ?_
   rintro _ A ⟨rfl,ht⟩
   rw[Ub (show k<n by omega)]at ht
   have e:=(yq d ht)
   refine gf e 7 ?_
   refine tN (?_)
   exact again (k+1) ⟨rfl,rfl,gJ (by first|rfl|omega),trivial⟩ (⟨e,o_⟩) (by show (n-(k+1):Nat)<n-k;omega)
 . refine gf hst9 18 ?_
   refine jm (v:=(Zb b)) (v' := Zc) Tryz.results94 rfl rfl ?_
   obtain rfl:k=n:=by omega
   exact⟨b,a,rfl,St.eM (yc [_,_] [] hst9)⟩
end
section
open Go Go.Sx
def kR(fb nb m:Nat):gi where
 gU:=[fb,nb]
 holds w:=∃ (ed:Int) (xs:List Nd) (F:FT),(xs.length=m/\fZ xs/\Fo xs F)/\(Zh fb nb m ed xs).holds w
 loc w w' h hh:=by
  obtain⟨ed,xs,F,h1,h2⟩:=hh
  exact⟨ed,xs,F,h1,(Zh fb nb m ed xs).loc w w' (fun b hb=>h b (by simpa[gG,iR,blk]using hb)) h2⟩
theorem ur(fb nb m:Nat)(ed:Int)(xs:List Nd):(Zh fb nb m ed xs).gU=(kR fb nb m).gU:=by simp[gG,iR,blk,kR]
theorem Dq{fb nb m:Nat}{w:World}(h:Own (kR fb nb m) w):∃ (ed:Int) (xs:List Nd) (F:FT),xs.length=m/\fZ xs/\Fo xs F/\Own (Zh fb nb m ed xs) w:=by
 obtain⟨ed,xs,F,⟨h1,h2,h3⟩,h4⟩:=h.holds
 exact⟨ed,xs,F,h1,h2,h3,h4,by rw[ur];exact h.nodup,fun b hb=>h.lt b (by rw[ur]at hb;exact hb)⟩
theorem C4{fb nb m:Nat}{w w' : World}{ed ed' : Int}{xs zs:List Nd}{F:FT}(h:gp (Zh fb nb m ed xs) w w' (Zh fb nb m ed' zs))(h1:zs.length=m)(h2:fZ zs)(h3:Fo zs F):gp (kR fb nb m) w w' (kR fb nb m) :=
 ⟨⟨ed', zs,F,⟨h1,h2,h3⟩,h.holds⟩,by have:=h.gI;rw[ur]at this;exact this,fun b hb=>by have:=h.place b (by rw[ur];exact hb);rw[ur]at this;exact this,by have:=h.nodup;rw[ur]at this;exact this,fun b hb=>h.lt b (by rw[ur];exact hb)⟩
theorem RK{fb nb m:Nat}{w w' : World}{ed:Int}{xs:List Nd}{F:FT}(h:gp (gG []) w w' (Zh fb nb m ed xs))(h1:xs.length=m)(h2:fZ xs)(h3:Fo xs F):gp (gG []) w w' (kR fb nb m) :=
 h.Ev (ur fb nb m ed xs).symm fun hh=>⟨ed,xs,F,⟨h1,h2,h3⟩,hh⟩
theorem NF(fb nb m:Nat)(w:World)(hO:Own (kR fb nb m) w)(hb:m<=1000001)(a:Nat)(ha:a+1<m)(key:Int)(hk:iC .i64 key) :
 CR ya 95 (Z2 fb a key) w (fun r w' => r = .int .i64 0/\gp (kR fb nb m) w w' (kR fb nb m)):=by
 obtain⟨ed,xs,F,h1,h2,h3,hO2⟩:=Dq hO
 exact CR.mono (Yg fb nb m ed xs w hO2 h1 hb h2 F h3 a ha key hk) fun r w' ⟨e,zs,F2,h4,h5,h6,ht⟩=>⟨e,C4 ht h6 h5 h4⟩
theorem Xr(fb nb m:Nat)(w:World)(hO:Own (kR fb nb m) w)(hb:m<=1000001)(a b:Nat)(ha:a+1<m)(hb2:b+1<m) :
 CR ya 119 (Z2 fb a b) w (fun r w' => ∃ (f:Nat) (B:Bool),r = .tuple (sH f B)/\f+1<m/\gp (kR fb nb m) w w' (kR fb nb m)):=by
 obtain⟨ed,xs,F,h1,h2,h3,hO2⟩:=Dq hO
 exact CR.mono (YL fb nb m ed xs w hO2 h1 hb h2 F h3 a b ha hb2) fun r w' ⟨f,B,zs,F2,e,hf,h4,h5,h6,ht⟩=>⟨f,B,e,hf,C4 ht h6 h5 h4⟩
theorem My(fb nb m:Nat)(w:World)(hO:Own (kR fb nb m) w)(hb:m<=1000001)(a b:Nat)(ha:a+1<m)(hb2:b+1<m) :
 CR ya 163 (Z2 fb a b) w (fun r w' => ∃ e:Int,r = .int .i64 e/\gp (kR fb nb m) w w' (kR fb nb m)):=by
 obtain⟨ed,xs,F,h1,h2,h3,hO2⟩:=Dq hO
 exact CR.mono (WM fb nb m ed xs w hO2 h1 hb h2 F h3 a b ha hb2) fun r w' ⟨e,ed', zs,F2,he,h4,h5,h6,ht⟩=>⟨e,he,C4 ht h6 h5 h4⟩
theorem Nf(fb nb m:Nat)(w:World)(hO:Own (kR fb nb m) w)(hb:m<=1000001)(a b:Nat)(ha:a+1<m)(hb2:b+1<m) :
 CR ya 99 (Z2 fb a b) w (fun r w' => ∃ e:Int,r = .int .i64 e/\gp (kR fb nb m) w w' (kR fb nb m)):=by
 obtain⟨ed,xs,F,h1,h2,h3,hO2⟩:=Dq hO
 exact CR.mono (X6 fb nb m ed xs w hO2 h1 hb h2 F h3 a b ha hb2) fun r w' ⟨e,ed', zs,F2,he,h4,h5,h6,ht⟩=>⟨e,he,C4 ht h6 h5 h4⟩
end
section
open Go Go.Sx
def QS.R(hb n:Nat)(s:QS):gi:=jZ (s.ok n) (gG [blk hb 247 [(Zb hb),(Za n),s.iv,s.pv],fV gj.cells s.iv 139 2 s.fO,fV gP s.pv 266 1 s.ps,gH gL 268 64 s.ps s.pl])
def QS.SR(sb hb n:Nat)(s:QS):gi:=gG [blk sb 200 (pX n hb),(QS.R hb n s)]
abbrev vD(a:WW)(b:Nat):=(QS.SR a.sb a.hb b a.q:gi)
abbrev EM a (b c d:Nat) (e:Int) (f g:Nat) h:=(gG [a,blk b 74 (Zi c),blk d 2 (Zf e),blk c 200 (pX f g),QS.R g f h]:gi)
abbrev zR(a b c:Nat)(d:Int)(e:Nat)(f:Int)(g h:Nat) i:=(gG [blk a 74 (Zi b),blk c 3 (Zf d),blk e 2 (Zf f),blk b 200 (pX g h),QS.R h g i]:gi)
theorem Nb(n:Nat)(w:World)(hn:n<=65536) :
 CR ya 93 (rO n) w (fun r w' => ∃ hb s,r = .tuple (Z8 hb)/\s.fO=[]/\gp (gG []) w w' (QS.R hb n s)) :=
 CR.mono (WB n w hn) fun r w' ⟨hb,pv,h1,ht⟩=>⟨hb,⟨.slice none 0 0,pv,List.replicate ((n+63) / 64) none,[],List.replicate (64*((n+63) / 64)) 0⟩,h1,rfl,ht.oQ ⟨Hp.new rfl,je.new hn rfl,Ord.nil⟩⟩
theorem Vo(hb n:Nat)(s:QS)(w:World)(hO:Own (QS.R hb n s) w)(i:Nat)(hi:i<n)(hf:∀ e∈s.fO,e.ix≠i) :
 CR ya 158 (Zn hb i) w (fun r w' => r = .tuple JH/\gp (QS.R hb n s) w w' (QS.R hb n s)) :=
 CR.mono (VU hb n s.iv s.pv s.ps s.fO s.pl w hO.un hO.fact.hp hO.fact.ir i hi (hO.fact.free hi hf)) fun r w' ⟨h1,ht⟩=>⟨h1,ht.oV hO.fact⟩
theorem Vn(hb n:Nat)(s:QS)(w:World)(hO:Own (QS.R hb n s) w)(i:Nat)(hi:i<n)(hf:∀ e∈s.fO,e.ix≠i)(key:Int)(hk:iC .i64 key) :
 CR ya 117 (Z2 hb i key) w (fun r w' => ∃ s2,r = .int .i64 0/\(∀ e,e∈s2.fO↔e∈s.fO\/e=⟨i,key⟩)/\gp (QS.R hb n s) w w' (QS.R hb n s2)) :=
 CR.mono (Mr hb n s.iv s.pv s.ps s.fO s.pl w hO.un hO.fact.hp hO.fact.ir hO.fact.ord i hi (hO.fact.free hi hf) key hk) fun r w' ⟨h1,jv,qs,ys,zl,a,b,c,d,_,_,ht⟩=>⟨⟨jv,s.pv,qs,ys,zl⟩,h1,d,ht.oV ⟨a,b,c⟩⟩
theorem S3(hb n:Nat)(s:QS)(w:World)(hO:Own (QS.R hb n s) w)(i:Nat)(hi:i<n)(key:Int)(hk:iC .i64 key) :
 CR ya 117 (Z2 hb i key) w (fun r w' => ∃ z s2,r = .int .i64 z/\gp (QS.R hb n s) w w' (QS.R hb n s2)):=by
 rcases vt (fM s.pl i)with h0|h0
 . exact CR.mono (Mr hb n s.iv s.pv s.ps s.fO s.pl w hO.un hO.fact.hp hO.fact.ir hO.fact.ord i hi h0 key hk) fun r w' ⟨h1,jv,qs,ys,zl,a,b,c,d,_,_,ht⟩=>⟨0,⟨jv,s.pv,qs,ys,zl⟩,h1,ht.oV ⟨a,b,c⟩⟩
 . exact CR.mono (SS hb n s.iv s.pv s.ps s.fO s.pl w hO.un hO.fact.hp hO.fact.ir i hi (fM s.pl i-1) o_ key) fun r w' ⟨h1,ht⟩=>⟨6,s,h1,ht.oV hO.fact⟩
theorem Mx(hb n:Nat)(s:QS)(w:World)(hO:Own (QS.R hb n s) w)(h0:s.fO.length=0) :
 CR ya 97 (Zg hb) w (fun r w' => r = .tuple Cj/\gp (QS.R hb n s) w w' (QS.R hb n s)) :=
 CR.mono (L7 hb n s.iv s.pv s.ps s.fO s.pl w hO.un hO.fact.hp hO.fact.ir h0) fun r w' ⟨h1,ht⟩=>⟨h1,ht.oV hO.fact⟩
theorem MP(hb n:Nat)(s:QS)(w:World)(hO:Own (QS.R hb n s) w)(h0:0<s.fO.length) :
 CR ya 97 (Zg hb) w (fun r w' => r = .tuple (Ch ((fM s.fO 0).ix:Int) ((fM s.fO 0).key))/\gp (QS.R hb n s) w w' (QS.R hb n s)) :=
 CR.mono (MN hb n s.iv s.pv s.ps s.fO s.pl w hO.un hO.fact.hp hO.fact.ir h0) fun r w' ⟨h1,ht⟩=>⟨h1,ht.oV hO.fact⟩
theorem VB(hb n:Nat)(s:QS)(w:World)(hO:Own (QS.R hb n s) w)(h0:s.fO.length=0) :
 CR ya 58 (Zg hb) w (fun r w' => r = .tuple Cj/\gp (QS.R hb n s) w w' (QS.R hb n s)) :=
 CR.mono (V3 hb n s.iv s.pv s.ps s.fO s.pl w hO.un hO.fact.hp hO.fact.ir h0) fun r w' ⟨h1,ht⟩=>⟨h1,ht.oV hO.fact⟩
theorem MK(hb n:Nat)(s:QS)(w:World)(hO:Own (QS.R hb n s) w)(h0:0<s.fO.length) :
 CR ya 58 (Zg hb) w (fun r w' => ∃ s2,r = .tuple (Ch ((fM s.fO 0).ix:Int) ((fM s.fO 0).key))/\((∀ e,e∈s2.fO↔e∈s.fO/\e.ix≠(fM s.fO 0).ix)/\s2.fO.length+1=s.fO.length)/\gp (QS.R hb n s) w w' (QS.R hb n s2)) :=
 CR.mono (U2 hb n s.iv s.pv s.ps s.fO s.pl w hO.un hO.fact.hp hO.fact.ir hO.fact.ord h0) fun r w' ⟨h1,jv,qs,ys,zl,a,b,c,d,_,f,ht⟩=>⟨⟨jv,s.pv,qs,ys,zl⟩,h1,⟨d,f⟩,ht.oV ⟨a,b,c⟩⟩
theorem Vc(hb n:Nat)(s:QS)(w:World)(hO:Own (QS.R hb n s) w) :
 CR ya 111 (Zg hb) w (fun r w' => ∃ hb2 s2,r = .pointer (some ⟨hb2,0,none⟩)/\s2.fO=s.fO/\gp (QS.R hb n s) w w' (gG [QS.R hb n s,QS.R hb2 n s2])) :=
 CR.mono (VA hb n s.iv s.pv s.ps s.fO s.pl w hO.un hO.fact.hp hO.fact.ir) fun r w' ⟨hb2,iv2,pv2,qs,h1,h2,_,ht⟩=>⟨hb2,⟨iv2,pv2,qs,s.fO,s.pl⟩,h1,rfl,(gp.Ej (A:=[blk hb 247 [(.pointer (some ⟨hb,0,none⟩)),(.int .i64 n),s.iv,s.pv],fV gj.cells s.iv 139 2 s.fO,fV gP s.pv 266 1 s.ps,gH gL 268 64 s.ps s.pl]) (B:=[blk hb2 247 [(.pointer (some ⟨hb2,0,none⟩)),(.int .i64 n),iv2,pv2],fV gj.cells iv2 139 2 s.fO,fV gP pv2 266 1 qs,gH gL 268 64 qs s.pl]) ht).Fg.Ev rfl (fun h=>by
  intro Q hQ
  simp only[zb,rF,or_false]at hQ
  rcases hQ with rfl|rfl
  . exact⟨hO.fact,h _ s_⟩
  . exact⟨⟨hO.fact.hp,h2,hO.fact.ord⟩,h _ s_⟩)⟩
end
section
open Go Go.Sx
theorem AL(sb hb n:Nat)(s:QS)(w:World)(hO:Own (QS.SR sb hb n s) w) :
 CR ya 55 (Zg sb) w (fun r w' => r = .bool true/\gp (QS.SR sb hb n s) w w' (QS.SR sb hb n s)):=by
 refine en Tryz.func55 Tryz.ntmps55 ?_
 have hst0:=Own.of hO
 have hok:=(y0 hst0 (i:=1) rfl:s.ok n)
 refine gh hst0 8 ?_
 refine ow (a:=some ⟨sb,0,none⟩) (c:=true) rfl rfl rfl Tryz.underlying74 rfl (fP hst0 5 ?_)
 refine ow (a:=some ⟨hb,0,none⟩) (c:=true) rfl rfl rfl Ci rfl (gf hst0 5 ?_)
 refine gF (v:=Zl) Tryz.results55 rfl ?_
 exact⟨rfl,yr (yc [_,_] _ hst0)⟩
theorem Xs(n:Nat)(w:World)(hn:n<=65536) :
 CR ya 52 (rO n) w (fun r w' => ∃ sb hb s,r = .tuple (Z8 sb)/\s.fO=[]/\gp (gG []) w w' (QS.SR sb hb n s)):=by
 refine en Tryz.func52 Tryz.ntmps52 ?_
 have hst0:=jB w
 refine gh hst0 9 ?_
 refine cl OX (Nb n w hn) ?_
 rintro _ g ⟨a,e,rfl,f,ht⟩
 have b:=(ou hst0 ht)
 refine fP b 21 ?_
 refine lX (pvs:=[(0,(Za n)),(1,(Zb a))]) (v:=.agg #[(Za n),(Zb a)]) rfl rfl (kV [(0,(Zf n)),(1,(Zi a))] IW Oy rfl ⟨rfl,rfl,rfl,rfl,trivial⟩ rfl) (bx (v:=(EY n a)) (cs:=(pX n a)) rfl rfl rfl b (fun c h i j d=>gf d 5 ?_))
 refine jm (v:=(Zb c)) (v' := Zc) Tryz.results52 rfl rfl ?_
 exact⟨c,a,e,rfl,f,St.eM (yc [_,_] _ d)⟩
theorem Uk(sb hb n:Nat)(s:QS)(w:World)(hO:Own (QS.SR sb hb n s) w)(h0:s.fO.length=0) :
 CR ya 66 (Zg sb) w (fun r w' => r = .tuple Cj/\gp (QS.SR sb hb n s) w w' (QS.SR sb hb n s)):=by
 refine en Tryz.func66 Tryz.ntmps66 ?_
 have hst0:=Own.of hO
 have hok:=(y0 hst0 (i:=1) rfl:s.ok n)
 refine gh hst0 2 ?_
 refine al (cs:=Zz) rfl iy rfl hst0 ?_
 intro k e l m b
 have f:=ym [1,2,0] b
 have c:=yc [_,_] _ f
 refine fP b 7 ?_
 refine cl Bp (AL sb hb n s e (yd c (i:=0) rfl)) ?_
 rintro _ g ⟨rfl,ht⟩
 have h:=yt 0 c ht
 have a:=j8 h
 refine fP a 12 ?_
 refine cl xZ (Mx hb n s g (yd a (i:=1) rfl) h0) ?_
 rintro _ p ⟨rfl,ht⟩
 have j:=yt 1 a ht
 refine lW j 7 fun q d=>?_
 refine qw (v:=JM) (v' := Zq) Tryz.results66 (p5 (cs:=Zz) rfl yu rfl iy rfl (mW d (i:=2) (o:=0) (vs:=Zz) rfl rfl)) (qO rfl) ?_
 exact⟨rfl,yr (yc [_,_] _ d)⟩
theorem TU(sb hb n:Nat)(s:QS)(w:World)(hO:Own (QS.SR sb hb n s) w)(h0:0<s.fO.length) :
 CR ya 66 (Zg sb) w (fun r w' => r = .tuple (Ch ((fM s.fO 0).ix:Int) ((fM s.fO 0).key))/\gp (QS.SR sb hb n s) w w' (QS.SR sb hb n s)):=by
 refine en Tryz.func66 Tryz.ntmps66 ?_
 have hst0:=Own.of hO
 have hok:=(y0 hst0 (i:=1) rfl:s.ok n)
 refine gh hst0 2 ?_
 refine al (cs:=Zz) rfl iy rfl hst0 ?_
 intro k e l m b
 have f:=ym [1,2,0] b
 have c:=yc [_,_] _ f
 refine fP b 7 ?_
 refine cl Bp (AL sb hb n s e (yd c (i:=0) rfl)) ?_
 rintro _ g ⟨rfl,ht⟩
 have h:=yt 0 c ht
 have a:=j8 h
 refine fP a 12 ?_
 refine cl xZ (MP hb n s g (yd a (i:=1) rfl) h0) ?_
 rintro _ p ⟨rfl,ht⟩
 have j:=yt 1 a ht
 refine lW j 7 fun q d=>?_
 refine qw (v:=(zZ ((fM s.fO 0).ix:Int) ((fM s.fO 0).key))) (v' := Zl) Tryz.results66 (p5 (cs:=(Zj ((fM s.fO 0).ix:Int) ((fM s.fO 0).key))) rfl yu rfl iy rfl (mW d (i:=2) (o:=0) (vs:=(Zj ((fM s.fO 0).ix:Int) ((fM s.fO 0).key))) rfl rfl)) (qO rfl) ?_
 exact⟨rfl,yr (yc [_,_] _ d)⟩
theorem W7(b1 b2 b3 sb hb n:Nat)(s:QS)(w:World)(i:Nat)(hi:i<n)(hf:∀ e∈s.fO,e.ix≠i)(key:Int)(hk:iC .i64 key)(hO:Own (zR b1 sb b2 i b3 key n hb s) w) :
 CR ya 115 #[Zq,(Zb b1),(Zb b2),(Zb b3)] w (fun r w' => ∃ s2,r = .int .i64 0/\(∀ e,e∈s2.fO↔e∈s.fO\/e=⟨i,key⟩)/\gp (zR b1 sb b2 i b3 key n hb s) w w' (zR b1 sb b2 i b3 key n hb s2)):=by
 refine en Tryz.func115 Tryz.ntmps115 ?_
 have hst0:=Own.of hO
 refine p8 hst0 15 ?_
 refine jD hst0 6 ?_
 intro wq hM
 refine kC rfl rfl (iX rfl NU) (Vn hb n s wq (yd hM (i:=4) rfl) i hi hf key hk) ?_
 rintro _ _ ⟨c,rfl,hF1,ht1⟩
 refine jC (yt 4 hM (ht1.oQ hF1)) (fun h d=>?_)
 have a:=ym [4,0,1,2,3] d
 have f:=nL a
 have b:=jV a
 refine jE tt none b 2 ?_
 refine gF (v:=Zc) Tryz.results115 rfl ?_
 have g:=ym [1,2,3,4,0] b
 exact⟨c,rfl,f,yr (yc [_,_,_,_,_] _ g)⟩
theorem VC(b1 b2 b3 sb hb n:Nat)(s:QS)(w:World)(i:Nat)(hi:i<n)(hf:∀ e∈s.fO,e.ix≠i)(key:Int)(hk:iC .i64 key)(hO:Own (zR b1 sb b2 i b3 key n hb s) w) :
 CR ya 114 #[(Zb sb),(Za i),(.func (.func 115) #[] #[(Zb b1),(Zb b2),(Zb b3)])] w (fun r w' => ∃ s2,r = .int .i64 0/\(∀ e,e∈s2.fO↔e∈s.fO\/e=⟨i,key⟩)/\gp (zR b1 sb b2 i b3 key n hb s) w w' (zR b1 sb b2 i b3 key n hb s2)):=by
 refine en Tryz.func114 Tryz.ntmps114 ?_
 have hst0:=Own.of hO
 have g:=ym [3,4,0,1,2] hst0
 have b:=yc [_,_] _ g
 refine gh hst0 9 ?_
 refine cl Bp (AL sb hb n s w (yd b (i:=0) rfl)) ?_
 rintro _ h ⟨rfl,ht⟩
 have j:=yt 0 b ht
 have a:=j8 j
 refine fP a 10 ?_
 refine cmp rfl rfl rfl (nE o_) (fP a 6 ?_)
 refine cmp rfl rfl rfl (uH o_) (fP a 13 ?_)
 refine cl XQ (Vo hb n s h (yd a (i:=1) rfl) i hi hf) ?_
 rintro _ k ⟨rfl,ht⟩
 have c:=yt 1 a ht
 have l:=ym [2,3,4,0,1] c
 have d:=yc [_,_,_,_,_] _ l
 refine fP c 11 ?_
 refine wR (fi:=[]) (ca:=(Rh b1 b2 b3)) rfl rfl rfl YC (W7 b1 b2 b3 sb hb n s k i hi hf key hk (yd d (i:=0) rfl)) ?_
 rintro _ q ⟨m,rfl,o,ht⟩
 have p:=yt 0 d ht
 have f:=j8 p
 refine gf f 4 ?_
 refine gF (v:=Zc) Tryz.results114 rfl ?_
 exact⟨m,rfl,o,yr (yc [_,_,_,_,_] _ f)⟩
theorem Xy(sb hb n:Nat)(s:QS)(w:World)(hO:Own (QS.SR sb hb n s) w)(i:Nat)(hi:i<n)(hf:∀ e∈s.fO,e.ix≠i)(key:Int)(hk:iC .i64 key) :
 CR ya 72 (Z2 sb i key) w (fun r w' => ∃ s2,r = .int .i64 0/\(∀ e,e∈s2.fO↔e∈s.fO\/e=⟨i,key⟩)/\gp (QS.SR sb hb n s) w w' (QS.SR sb hb n s2)):=by
 refine en Tryz.func72 Tryz.ntmps72 ?_
 have hst0:=Own.of hO
 have hok:=(y0 hst0 (i:=1) rfl:s.ok n)
 refine gh hst0 2 ?_
 refine bx (v:=(Zb sb)) (cs:=(Zi sb)) rfl rfl rfl hst0 (fun a t u x h=>bx (v:=(Za i)) (cs:=(Zf i)) rfl rfl rfl h (fun b y z A j=>bx (v:=(Za key)) (cs:=(Zf key)) rfl rfl rfl j (fun c k B C d=>fP d 7 ?_)))
 refine wJ (vf:=[]) (vc:=(Rh a b c)) rfl rfl rfl ?_
 have l:=ym [2,1,0,3,4] d
 have f:=yc [_,_,_,_,_] _ l
 refine cl XF (VC a b c sb hb n s k i hi hf key hk (yd f (i:=0) rfl)) ?_
 rintro _ D ⟨m,rfl,o,ht⟩
 have p:=yt 0 f ht
 have g:=j8 p
 refine gf g 4 ?_
 refine gF (v:=Zc) Tryz.results72 rfl ?_
 have q:=ym [3,4,0,1,2] g
 exact⟨m,rfl,o,yr (yc [_,_] _ q)⟩
end
section
open Go Go.Sx
theorem X3(sb:Nat)(now:Int)(w:World) :
 CR ya 56 (Zn sb now) w (fun r w' => ∃ xb tb,r = .func (.func 96) #[] (Fc xb tb)/\gp (gG []) w w' (gG [blk xb 74 (Zi sb),blk tb 2 (Zf now)])):=by
 refine en Tryz.func56 Tryz.ntmps56 ?_
 have hst0:=jB w
 refine gh hst0 2 ?_
 refine bx (v:=(Zb sb)) (cs:=(Zi sb)) rfl rfl rfl hst0 (fun a f g h d=>bx (v:=(Za now)) (cs:=(Zf now)) rfl rfl rfl d (fun b i j k c=>fP c 5 ?_))
 refine wJ (vf:=[]) (vc:=(wV a b)) rfl rfl rfl (gf c 4 ?_)
 refine gF (v:=(.func (.func 96) #[] (Fc a b))) Tryz.results56 rfl ?_
 have e:=ym [1,0] c
 exact⟨a,b,rfl,St.eM (yc [_,_] _ e)⟩
theorem WX{γ:Type}(Cl:γ->gi)(pr:γ->List Nat)(z0:γ)(l xb tb sb hb n:Nat)(s:QS)(now:Int)(w:World)(hy:∀ (z:γ) (i:Nat) (bs:List (World×List Nat)) (L:List gi) (w:World),i<n->(pr z).length<=65536->St bs (Cl z :: L) w->YR ya l (Zf i) w (fun v w' => v = .bool true/\∃ z2,pr z2=pr z++[i]/\St bs (Cl z2 :: L) w'))(hz0:(pr z0).length=0)(hn:n<=65536)(hO:Own (EM (Cl z0) xb sb tb now n hb s) w) :
 CR ya 96 (Q8 (.func (.yield l) #[] #[]) xb tb) w (fun r w' => ∃ z s2 ds,r = .tuple #[]/\pr z=pr z0++ds/\pO n s s2 ds now/\gp (EM (Cl z0) xb sb tb now n hb s) w w' (EM (Cl z) xb sb tb now n hb s2)):=by
 refine en Tryz.func96 Tryz.ntmps96 ?_
 have hst0:=Own.of hO
 have hok:=(y0 hst0 (i:=4) rfl:s.ok n)
 refine p8 hst0 1 ?_
 refine lp (α:=γ×QS) (fun(z,t)=>[(0,(.func (.yield l) #[] #[])),(1,(Zb xb)),(2,(Zb tb))]) (fun(z,t) w1=>St [(w,(EM (Cl z0) xb sb tb now n hb s).gU)] [(Cl z),blk xb 74 (Zi sb),blk tb 2 (Zf now),blk sb 200 (pX n hb),(QS.R hb n t)] w1/\∃ ds,tF s.fO t.fO ds now/\pr z=pr z0++ds) (fun(z,t)=>t.fO.length) (z0,s) ⟨rfl,rfl,rfl,trivial⟩ (⟨hst0,[],tF.start _ _,by rw[qC]⟩) ?_
 rintro⟨z,t⟩ D c ⟨hst3,ds,hI,hpz⟩
 have hkt:=(y0 hst3 (i:=4) rfl:t.ok n)
 obtain⟨k,E⟩:∃ q,vt t.fO.length=q:=⟨_,rfl⟩
 refine gh hst3 7 ?_
 rcases k with h0|h0
 . skip
   refine cl xZ (Mx hb n t c (yd hst3 (i:=4) rfl) h0) ?_
   rintro _ G ⟨rfl,ht⟩
   have d:=yt 4 hst3 ht
   refine fP d 3 ?_
   refine al (cs:=Zz) rfl iy rfl d (fun H I J K m=>lW m 23 fun M o=>?_)
   refine BL Tryz.results96 ?_
   have p:=ym [1,2,3,4,5,0] o
   have hdn:=hI.fin hok hkt (Or.inl h0)
   exact⟨z,t,ds,rfl,hpz,hdn,yr (yc [_,_,_,_,_] _ p)⟩
 . skip
   refine cl xZ (MP hb n t c (yd hst3 (i:=4) rfl) h0) ?_
   rintro _ N ⟨rfl,ht⟩
   have e:=yt 4 hst3 ht
   refine fP e 3 ?_
   refine al (cs:=Zz) rfl iy rfl e (fun O P Q S u=>mU u 13 fun x a=>?_)
   by_cases f:((fM t.fO 0).key:Int)>(now:Int)
   . have hkey:now<(fM t.fO 0).key:=by have h7:=@f;omega
     refine gf a 10 ?_
     refine BL Tryz.results96 ?_
     have y:=ym [1,2,3,4,5,0] a
     have hdn:=hI.fin hok hkt (Or.inr hkey)
     exact⟨z,t,ds,rfl,hpz,hdn,yr (yc [_,_,_,_,_] _ y)⟩
   . have hkey:(fM t.fO 0).key<=now:=by have h7:=@f;omega
     refine fP a 13 ?_
     refine cl OD (MK hb n t x (yd a (i:=5) rfl) h0) ?_
     rintro _ U ⟨g,rfl,b,ht⟩
     have h:=yt 5 a ht
     have A:=ym [1,2,3,4,5,0] h
     have hxi:=hkt.lt (pG.2 ⟨0,h0,rfl⟩)
     have hpl9:(pr z).length<=65536:=by have h7:=hI.len;have h8:=hok.hp.len;rw[hpz,zw,hz0];omega
     refine fP h 7 ?_
     refine yl (vl:=(Zf ((fM t.fO 0).ix:Int))) rfl rfl rfl (hy z (fM t.fO 0).ix _ _ _ hxi hpl9 A) ?_
     rintro _ V ⟨rfl,B,hz9,j⟩
     refine gf j 6 ?_
     refine tN (?_)
     have C:=ym [0,1,2,3,4] j
     exact again (B,g) ⟨rfl,rfl,rfl,trivial⟩ (⟨C,(ds++[(fM t.fO 0).ix]),hI.step h0 hkey b.1 b.2,by rw[hz9,hpz,mT]⟩) (by have h7:=b.2;show g.fO.length<t.fO.length;omega)
theorem RP(ds:List Nat)(i:Nat):gx (ds++[i])=gx ds++[(i:Int)]:=by simp[gx]
theorem Xp(sb hb n:Nat)(s:QS)(w:World)(hO:Own (QS.SR sb hb n s) w)(now:Int)(hn:n<=65536) :
 CR ya 28 (Zn sb now) w (fun r w' => ∃ v ds t,r=v/\pO n s t ds now/\gp (QS.SR sb hb n s) w w' (gG [(QS.SR sb hb n t),iA .i64 v 3 (gx ds)])):=by
 refine DL (vs:=(EK sb now)) Tryz.func28 rfl Tryz.ntmps28 rfl ?_
 have hst0:=Own.of hO
 have hok:=(y0 hst0 (i:=1) rfl:s.ok n)
 have f:=yc [_,_] _ hst0
 refine gh hst0 9 ?_
 refine cl Bp (AL sb hb n s w (yd f (i:=0) rfl)) ?_
 rintro _ M ⟨rfl,ht⟩
 have u:=yt 0 f ht
 have g:=j8 u
 refine fP g 8 ?_
 refine al (cs:=[Zk]) rfl nH rfl g (fun a x N O h=>fP h 7 ?_)
 refine cl ZT (X3 sb now x) ?_
 rintro _ y ⟨c,d,rfl,ht⟩
 have j:=j8 (ou h ht)
 have A:St _ [iA .i64 Zk 3 ([]),blk c 74 (Zi sb),blk d 2 (Zf now),blk a 62 [Zk],blk sb 200 (pX n hb),(QS.R hb n s)] y:=u6 j 3 1
 have B:=ym [3,0,1,2,4,5] A
 have C:=B
 have D:=C
 refine gX j 3 ?_
 refine rf (α:=Value×List Nat×QS) (ps:=[13]) (fi:=[]) (ca:=(wV c d)) (fun(v,ds,t)=>[blk a 62 [v],iA .i64 v 3 (gx ds),blk c 74 (Zi sb),blk d 2 (Zf now),blk sb 200 (pX n hb),(QS.R hb n t)]) (fun(v,ds,t)=>pO n s t ds now) D rfl ZL ?_ ?_
 . intro fn dd l wl rc hrc hsl
   have E:=ym [0,2,3,4,5,6,7,1] hsl
   have hpk:=yc [jd l rc,blk a 62 [Zk],iA .i64 Zk 3 (gx ([]))] [blk c 74 (Zi sb),blk d 2 (Zf now),blk sb 200 (pX n hb),(QS.R hb n s),kA dd (some [])] E
   have hr1:rc.state = .ready:=by rw[hrc]
   have hr2:rc.pending=none:=by rw[hrc]
   have hround:∀ (z:Value×List Nat) (i:Nat) (bs:List (World×List Nat)) (L:List gi) (w:World),i<n->((Prod.snd:Value×List Nat->List Nat) z).length<=65536->St bs ((fun((v,ds):Value×List Nat)=>gG [jd l rc,blk a 62 [v],iA .i64 v 3 (gx ds)]) z :: L) w->YR ya l (Zf i) w (fun v w' => v = .bool true/\∃ z2,(Prod.snd:Value×List Nat->List Nat) z2=(Prod.snd:Value×List Nat->List Nat) z++[i]/\St bs ((fun((v,ds):Value×List Nat)=>gG [jd l rc,blk a 62 [v],iA .i64 v 3 (gx ds)]) z2 :: L) w'):=by
    intro z i bs LT wr hi hlz hsr
    have hsr:=hsr.unpack
    refine J7 (vl:=(Zf i)) 0 hrc hsr rfl rfl rfl (jr hsr 3 ?_)
    refine tN (?_)
    refine Jj 0 hsr rfl hr1 rfl (fun P m=>gh m 4 ?_)
    refine nk (vs:=(Zf i)) (cs:=(Zf i)) rfl rfl yh gq rfl (by simp[Value.cells]) rfl rfl rfl m (fun G Q S U o=>Jm (k:=.i64) (ys:=gx z.2) (zs:=[(i:Int)]) (LL:=fun b=>(iA .i64 (Zx G) 3 ([(i:Int)]) :: jd l { rc with state:=.busy } :: blk a 62 [z.1] :: iA .i64 b 3 ((gx z.2)++([(i:Int)])) :: LT)) 3 rfl rfl rfl yh gq rfl o rfl (oU o (i:=0) rfl) (by simp only[gx,zr,zp,zx,maxLen];first|omega|skip) (by simp only[gx,zr,zp,zx,maxLen];first|omega|skip) f_ ?_)
    intro b V H W
    have e:=St.sub (L' := (jd l { rc with state:=.busy } :: blk a 62 [z.1] :: iA .i64 b 3 ((gx z.2)++([(i:Int)])) :: LT)) H (List.Sublist.cons _ (List.Sublist.refl _))
    refine mD (L' := (jd l { rc with state:=.busy } :: blk a 62 [b] :: iA .i64 b 3 ((gx z.2)++([(i:Int)])) :: LT)) 1 rfl rfl rfl (cells_one (mg e (i:=2) rfl)) nH rfl (oe (mg e (i:=2) rfl) tC) e rfl rfl rfl rfl (fun X p=>gf p 2 ?_)
    refine Jc 0 p rfl hr1 hr2 rfl ?_
    intro Y I
    have hs7:=I
    rw[<-RP]at hs7
    exact⟨_,rfl,rfl,(b,z.2++[i]),rfl,yc [_,_,_] _ hs7⟩
   have hpk2:=yc [_,_,_,_,_] _ hpk
   refine CR.mono (WX (fun((v,ds):Value×List Nat)=>gG [jd l rc,blk a 62 [v],iA .i64 v 3 (gx ds)]) Prod.snd (.slice none 0 0,[]) l c d sb hb n s now wl hround rfl hn (yd hpk2 (i:=0) rfl)) ?_
   rintro _ w9 ⟨z,t,ds,-,hpz,hdn,hturn⟩
   have hs9:=(yq hpk2 hturn).unpack
   have J:=ym [0,7,1,2,3,4,5,6] hs9
   exact⟨(z.1,z.2,t),by rw[show z.2=ds by simpa using hpz];exact hdn,J⟩
 . rintro⟨v,ds,t⟩ dd Z hC q
   refine jE tt none q 9 ?_
   refine DM 0 q rfl rfl ?_
   intro w8 hs8
   have K:=ym [5,6,2,0,1,3,4] hs8
   have hp9:=yc [_,_] _ K
   have hp10:St _ (gG [(QS.SR sb hb n t),iA .i64 v 3 (gx ds)] :: _) _:=yc [_,_] _ hp9
   have hT:gp (QS.SR sb hb n s) w _ (gG [(QS.SR sb hb n t),iA .i64 v 3 (gx ds)]):=yr hp10
   exact⟨_,results_tmp Tryz.results28 _ _ _,_,rfl,by rw[s5];exact⟨v,ds,t,rfl,hC,hT⟩⟩
theorem Vs(sb hb n:Nat)(s:QS)(w:World)(hO:Own (QS.SR sb hb n s) w) :
 CR ya 68 (Zg sb) w (fun r w' => ∃ sb2 hb2 s2,r = .pointer (some ⟨sb2,0,none⟩)/\s2.fO=s.fO/\gp (QS.SR sb hb n s) w w' (gG [(QS.SR sb hb n s),(QS.SR sb2 hb2 n s2)])):=by
 refine en Tryz.func68 Tryz.ntmps68 ?_
 have hst0:=Own.of hO
 have hok:=(y0 hst0 (i:=1) rfl:s.ok n)
 have b:=yc [_,_] _ hst0
 refine gh hst0 9 ?_
 refine cl Bp (AL sb hb n s w (yd b (i:=0) rfl)) ?_
 rintro _ o ⟨rfl,ht⟩
 have f:=yt 0 b ht
 have c:=j8 f
 refine gX c 7 ?_
 refine oE (Γ:=Nat×QS×Nat) mixed [[],[0],[0,1],[0,1,2],[],[4],[4,5],[4,5,6],[4,5,6,7],[0,1,2,3,4,5,6,7,8],[0,1,2,3,4,5,6,7,8,9],[0,1,2,3,4,5,6,7,8,9,10]] [8,10] d_ [fun _=>(Zb sb),fun _=>(Zb sb),fun _=>(Zb sb),fun _=>(Za n),fun _=>(Zb sb),fun _=>(Zb sb),fun _=>(zF sb),fun _=>(Zb hb),fun(hb2₁,s2₁,a)=>(Zb hb2₁),fun(hb2₁,s2₁,a)=>(EY n hb2₁),fun(hb2₁,s2₁,a)=>(Zb a),fun(hb2₁,s2₁,a)=>(Zb a)] [(fun(hb2₁,s2₁,a)=>[blk sb 200 (pX n hb),(QS.R hb n s)],fun _ _=>True),(fun(hb2₁,s2₁,a)=>[blk sb 200 (pX n hb),jZ (s2₁.fO=s.fO) (gG [(QS.R hb n s),(QS.R hb2₁ n s2₁)])],fun _ _=>True),(fun(hb2₁,s2₁,a)=>[blk a 200 (pX n hb2₁),blk sb 200 (pX n hb),jZ (s2₁.fO=s.fO) (gG [(QS.R hb n s),(QS.R hb2₁ n s2₁)])],fun _ _=>True)] (hb,s,0) (fun(hb2₁,s2₁,a)=>(2,(Zb a)) :: (16,(Zb a)) :: (15,(EY n hb2₁)) :: (14,(Zb hb2₁)) :: (13,(Zb hb)) :: (12,(zF sb)) :: (11,(Zb sb)) :: (10,(Zb sb)) :: (9,(Za n)) :: (8,(Zb sb)) :: (7,(Zb sb)) :: (6,(Zb sb)) :: _) rfl c (fun _ _=>trivial) ?_ (fun(hb2₁,s2₁,a)=>rfl) rfl ?_
 . skip
   refine gC (fun(hb2₁,s2₁,a) _=>iD (v:=(Zb sb)) rfl) ?_
   refine gC (fun(hb2₁,s2₁,a) _=>jY rfl) ?_
   refine gC (fun(hb2₁,s2₁,a) _=>jL (o' := 0) rfl E9 rfl gq rfl) ?_
   refine nZ rfl rfl rfl rfl rfl (fun(hb2₁,s2₁,a) wq hM hF=>qv rfl rfl (gZ rfl yf rfl (yo hM (i:=0) rfl rfl))) (fun(hb2₁,s2₁,a) wq hM hF=>qv rfl rfl (gZ rfl yf rfl (yo hM (i:=0) rfl rfl))) (gC (fun(hb2₁,s2₁,a) _=>iD (v:=(Zb sb)) rfl) ?_)
   refine gC (fun(hb2₁,s2₁,a) _=>jY rfl) ?_
   refine gC (fun(hb2₁,s2₁,a) _=>jL (o' := 1) rfl E9 rfl Bm rfl) ?_
   refine lU rfl rfl rfl rfl (fun(hb2₁,s2₁,a) wq hM hF=>qv rfl rfl (gZ rfl Ci rfl (yo hM (i:=0) rfl rfl))) (kg rfl rfl rfl rfl (fun(hb2₁,s2₁,a) wq hM hF=>kC rfl rfl (iX rfl XX) (Vc hb n s wq (yd hM (i:=1) rfl)) (fun _ _ hz=>by obtain⟨hb2₁', s2₁', rfl,hF1,ht1⟩:=hz;exact⟨(hb2₁', s2₁', a),⟨(yt 1 hM (ht1.oQ hF1)),trivial⟩,rfl,fS rfl (fS rfl (fS rfl (fS rfl (fS rfl (fS rfl (fS rfl (fS rfl (fS trivial (fS trivial (fS trivial (fS trivial (kM))))))))))))⟩)) (gC (fun(hb2₁,s2₁,a) _=>uI (pvs:=[(0,(Za n)),(1,(Zb hb2₁))]) (v:=.agg #[(Za n),(Zb hb2₁)]) rfl (kV [(0,(Zf n)),(1,(Zi hb2₁))] IW Oy rfl ⟨rfl,rfl,rfl,rfl,trivial⟩ rfl)) ?_))
   refine kg rfl rfl rfl rfl (fun(hb2₁,s2₁,a) wq hM hF=>Er (v:=(EY n hb2₁)) (cs:=(pX n hb2₁)) rfl rfl rfl hM (fun g _ h=>⟨(hb2₁,s2₁,g),⟨h,trivial⟩,rfl,fS rfl (fS rfl (fS rfl (fS rfl (fS rfl (fS rfl (fS rfl (fS rfl (fS rfl (fS rfl (fS trivial (fS trivial (kM))))))))))))⟩)) (gC (fun(hb2₁,s2₁,a) _=>tB (v:=(Zb a)) rfl) ?_)
   exact og
 rintro⟨hb2₁,s2₁,a⟩ p j -
 have d:=ym [2,0,1] j
 have k:=nL d
 have l:=jV d
 have e:=j8 l
 refine jE tt none e 2 ?_
 refine gF (v:=(Zb a)) Tryz.results68 rfl ?_
 have m:=ym [3,0,2,1] e
 exact⟨a,hb2₁,s2₁,rfl,k,(gp.Ej (A:=[_,_]) (B:=[_,_]) (yr (yc [_,_,_,_] _ m)))⟩
end
section
open Go Go.Sx
def GW.R(fQ fN ob:Nat)(s:GW):gi:=jZ (s.ok fQ fN) (gG [blk ob 147 (Aa fQ fN s (some s.mb)),(kR s.fb s.nb (fN+fQ+1)),(QS.R s.hb fN s.q),gR s.mb .i64 Ed.enc s.m])
abbrev vG(a b:Nat)(c:WW):=(GW.R a b c.ob c.g:gi)
abbrev QI(a:Nat)(b c:Int)(d:Lv)(e:Int)(f:WW)(g:Int)(h i j k:Nat)(l:Int) m n:=([blk a 42 [.int .i64 b,.int .u64 c,.int .u64 d.u,.int .u64 d.v,.int .i64 d.wt,.int .i64 d.t,.int .i64 e],blk f.cb 134 (Zj g f.now),blk h 40 (Zo d),blk i 77 (sP g j k l f),jZ m (fW.R k j f.ub n),QS.SR f.sb f.hb j f.q,GW.R k j f.ob f.g]:List gi)
theorem Gz(fQ fN ob:Nat)(s:GW)(w:World)(hO:Own (GW.R fQ fN ob s) w) :
 CR ya 57 (Zg ob) w (fun r w' => r = .bool true/\gp (GW.R fQ fN ob s) w w' (GW.R fQ fN ob s)):=by
 refine en Tryz.func57 Tryz.ntmps57 ?_
 have hst0:=Own.of hO.un
 have hG:s.ok fQ fN:=hO.fact
 refine gh hst0 8 ?_
 refine ow (a:=some ⟨ob,0,none⟩) (c:=true) rfl rfl rfl Tryz.underlying75 rfl (fP hst0 5 ?_)
 refine Qm (a:=some s.mb) (c:=true) rfl rfl rfl qK rfl (gf hst0 5 ?_)
 refine gF (v:=Zl) Tryz.results57 rfl ?_
 exact⟨rfl,yv (yx (p:=s.ok fQ fN) (yc [_,_,_,_] _ hst0) hG) zg⟩
theorem Na(fQ fN ob:Nat)(s:GW)(w:World)(hO:Own (GW.R fQ fN ob s) w)(v:Nat)(hv:v<fQ) :
 CR ya 118 (Zn ob v) w (fun r w' => r = .bool true/\gp (GW.R fQ fN ob s) w w' (GW.R fQ fN ob s)):=by
 have hvn:=hO.fact.vn
 have hv2:=hO.fact.v2
 have hen:=hO.fact.en
 refine en Tryz.func118 Tryz.ntmps118 ?_
 have hst0:=Own.of hO.un
 have hG:s.ok fQ fN:=hO.fact
 have b:=yx (p:=GW.ok fQ fN s) (yc [_,_,_,_] _ hst0) hG
 refine gh hst0 8 ?_
 refine cl Iu (Gz fQ fN ob s w (yd b (i:=0) rfl)) ?_
 rintro _ d ⟨rfl,ht⟩
 have c:=yt 0 b ht
 have a:=(jV c).unpack
 refine fP a 2 ?_
 refine cmp rfl rfl rfl (pS o_) (fP a 7 ?_)
 refine cmp rfl rfl rfl (wD o_) (gf a 5 ?_)
 refine gF (v:=Zl) Tryz.results118 rfl ?_
 exact⟨rfl,yv (yx (p:=s.ok fQ fN) (yc [_,_,_,_] _ a) hG) zg⟩
theorem Gc(fQ fN ob:Nat)(s:GW)(w:World)(hO:Own (GW.R fQ fN ob s) w)(k:Nat)(hk:k+1<(fN+fQ+1)) :
 CR ya 120 (Zn ob k) w (fun r w' => ∃ (s2:GW),r = .tuple #[]/\gp (GW.R fQ fN ob s) w w' (GW.R fQ fN ob s2)):=by
 have hvn:=hO.fact.vn
 have hv2:=hO.fact.v2
 have hen:=hO.fact.en
 have hke:=hO.fact.get (k:Int)
 have hka:=hke.a
 have hkb:=hke.b
 refine en Tryz.func120 Tryz.ntmps120 ?_
 have hst0:=Own.of hO.un
 have hG:s.ok fQ fN:=hO.fact
 refine gh hst0 7 ?_
 refine Ah (a:=(k:Int)) (mm:=s.m) (enc:=Ed.enc) (k:=.i64) 3 rfl rfl rfl qK yf qY rfl hst0 rfl (al (cs:=E5) rfl qY rfl hst0 (fun j y z A l=>vp l 4 fun B n=>?_))
 refine jD n 8 ?_
 intro wq hM
 refine kC rfl rfl (iX rfl OH) (NF s.fb s.nb (fN+fQ+1) wq (yd hM (i:=2) rfl) o_ k hk ((fU s.m (k:Int)).exp) hke.exp) ?_
 rintro _ _ ⟨rfl,ht1⟩
 refine jC (yt 2 hM ht1) (fun C o=>?_)
 have d:=ym [2,0,1,3,4] o
 refine kT tt none d 2 ?_
 refine jD d 13 ?_ (hA:=by refine' gN 12 ?k0;case k0=>refine' gw (fun wq hM=>rv (kG (e:=(((fN+(fU s.m (k:Int)).a):Nat):Int)) rfl rfl rfl (by rw[iV o_];omega))) ?k1;case k1=>exact iT)
 intro wq hM
 refine kC rfl rfl (iX rfl N1) (My s.fb s.nb (fN+fQ+1) wq (yd hM (i:=0) rfl) o_ k (fN+(fU s.m (k:Int)).a) hk o_) ?_
 rintro _ _ ⟨D,rfl,ht1⟩
 refine jC (yt 0 hM ht1) (fun E f=>?_)
 refine kT tt none f 2 ?_
 refine jD f 13 ?_ (hA:=by refine' gN 12 ?k0;case k0=>refine' gw (fun wq hM=>rv (kG (e:=(((fN+(fU s.m (k:Int)).b):Nat):Int)) rfl rfl rfl (by rw[iV o_];omega))) ?k1;case k1=>exact iT)
 intro wq hM
 refine kC rfl rfl (iX rfl N1) (My s.fb s.nb (fN+fQ+1) wq (yd hM (i:=0) rfl) o_ k (fN+(fU s.m (k:Int)).b) hk o_) ?_
 rintro _ _ ⟨G,rfl,ht1⟩
 refine jC (yt 0 hM ht1) (fun H t=>?_)
 refine Qk tt none t 8 fun I u=>?_
 refine jD u 6 ?_
 intro wq hM
 refine wj (a:=(k:Int)) (c:=(⟨((fU s.m (k:Int)).a),((fU s.m (k:Int)).b),(fU s.m (k:Int)).exp,true⟩:Ed)) (mm:=s.m) (enc:=Ed.enc) (k:=.i64) (L' := [(kR s.fb s.nb (fN+fQ+1)),blk j 150 [(Za ((fU s.m (k:Int)).a:Int)),(Za ((fU s.m (k:Int)).b:Int)),(Za ((fU s.m (k:Int)).exp)),Zl],blk ob 147 (Aa fQ fN s (some s.mb)),(QS.R s.hb fN s.q),gR s.mb .i64 Ed.enc (gm s.m (k:Int) (⟨((fU s.m (k:Int)).a),((fU s.m (k:Int)).b),(fU s.m (k:Int)).exp,true⟩:Ed))]) 4 rfl rfl rfl rfl qK yf hM rfl rfl (fun _ h=>(jC h (fun J g=>?_)))
 refine oZ tt none g 6 ?_
 refine ar (e:=(IntKind.i64.wrap (s.trees+1))) rfl rfl rfl rfl rfl (lW g 4 fun K v=>?_)
 refine jf Tryz.results120 ?_
 have x:=ym [2,0,3,4,1] v
 exact⟨(⟨s.fb,s.nb,s.hb,s.mb,(IntKind.i64.wrap (s.trees+1)),s.q,(gm s.m (k:Int) (⟨((fU s.m (k:Int)).a),((fU s.m (k:Int)).b),(fU s.m (k:Int)).exp,true⟩:Ed))⟩:GW),rfl,yv (yx (p:=GW.ok fQ fN (⟨s.fb,s.nb,s.hb,s.mb,(IntKind.i64.wrap (s.trees+1)),s.q,(gm s.m (k:Int) (⟨((fU s.m (k:Int)).a),((fU s.m (k:Int)).b),(fU s.m (k:Int)).exp,true⟩:Ed))⟩:GW)) (yc [_,_,_,_] _ x) (hG.put (by exact⟨hke.a,hke.b,hke.exp⟩))) zg⟩
theorem Ga(fQ fN ob:Nat)(s:GW)(w:World)(hO:Own (GW.R fQ fN ob s) w)(k:Nat)(hk:k+1<(fN+fQ+1)) :
 CR ya 59 (Zn ob k) w (fun r w' => ∃ (s2:GW),r = .tuple #[]/\gp (GW.R fQ fN ob s) w w' (GW.R fQ fN ob s2)):=by
 have hvn:=hO.fact.vn
 have hv2:=hO.fact.v2
 have hen:=hO.fact.en
 have hke:=hO.fact.get (k:Int)
 have hka:=hke.a
 have hkb:=hke.b
 refine en Tryz.func59 Tryz.ntmps59 ?_
 have hst0:=Own.of hO.un
 have hG:s.ok fQ fN:=hO.fact
 refine gh hst0 7 ?_
 refine Ah (a:=(k:Int)) (mm:=s.m) (enc:=Ed.enc) (k:=.i64) 3 rfl rfl rfl qK yf qY rfl hst0 rfl (al (cs:=E5) rfl qY rfl hst0 (fun g x y z j=>vp j 4 fun A l=>?_))
 refine jD l 13 ?_ (hA:=by refine' gN 12 ?k0;case k0=>refine' gw (fun wq hM=>rv (kG (e:=(((fN+(fU s.m (k:Int)).a):Nat):Int)) rfl rfl rfl (by rw[iV o_];omega))) ?k1;case k1=>exact iT)
 intro wq hM
 refine kC rfl rfl (iX rfl OO) (Nf s.fb s.nb (fN+fQ+1) wq (yd hM (i:=2) rfl) o_ k (fN+(fU s.m (k:Int)).a) hk o_) ?_
 rintro _ _ ⟨B,rfl,ht1⟩
 refine jC (yt 2 hM ht1) (fun C n=>?_)
 have d:=ym [2,0,1,3,4] n
 refine kT tt none d 2 ?_
 refine jD d 13 ?_ (hA:=by refine' gN 12 ?k0;case k0=>refine' gw (fun wq hM=>rv (kG (e:=(((fN+(fU s.m (k:Int)).b):Nat):Int)) rfl rfl rfl (by rw[iV o_];omega))) ?k1;case k1=>exact iT)
 intro wq hM
 refine kC rfl rfl (iX rfl OO) (Nf s.fb s.nb (fN+fQ+1) wq (yd hM (i:=0) rfl) o_ k (fN+(fU s.m (k:Int)).b) hk o_) ?_
 rintro _ _ ⟨D,rfl,ht1⟩
 refine jC (yt 0 hM ht1) (fun E o=>?_)
 refine Qk tt none o 8 fun G t=>?_
 refine jD t 6 ?_
 intro wq hM
 refine wj (a:=(k:Int)) (c:=(⟨((fU s.m (k:Int)).a),((fU s.m (k:Int)).b),(fU s.m (k:Int)).exp,false⟩:Ed)) (mm:=s.m) (enc:=Ed.enc) (k:=.i64) (L' := [(kR s.fb s.nb (fN+fQ+1)),blk g 150 [(Za ((fU s.m (k:Int)).a:Int)),(Za ((fU s.m (k:Int)).b:Int)),(Za ((fU s.m (k:Int)).exp)),Zq],blk ob 147 (Aa fQ fN s (some s.mb)),(QS.R s.hb fN s.q),gR s.mb .i64 Ed.enc (gm s.m (k:Int) (⟨((fU s.m (k:Int)).a),((fU s.m (k:Int)).b),(fU s.m (k:Int)).exp,false⟩:Ed))]) 4 rfl rfl rfl rfl qK yf hM rfl rfl (fun _ h=>(jC h (fun H f=>?_)))
 refine oZ tt none f 6 ?_
 refine ar (e:=(IntKind.i64.wrap (s.trees-1))) rfl rfl rfl rfl rfl (lW f 4 fun I u=>?_)
 refine jf Tryz.results59 ?_
 have v:=ym [2,0,3,4,1] u
 exact⟨(⟨s.fb,s.nb,s.hb,s.mb,(IntKind.i64.wrap (s.trees-1)),s.q,(gm s.m (k:Int) (⟨((fU s.m (k:Int)).a),((fU s.m (k:Int)).b),(fU s.m (k:Int)).exp,false⟩:Ed))⟩:GW),rfl,yv (yx (p:=GW.ok fQ fN (⟨s.fb,s.nb,s.hb,s.mb,(IntKind.i64.wrap (s.trees-1)),s.q,(gm s.m (k:Int) (⟨((fU s.m (k:Int)).a),((fU s.m (k:Int)).b),(fU s.m (k:Int)).exp,false⟩:Ed))⟩:GW)) (yc [_,_,_,_] _ v) (hG.put (by exact⟨hke.a,hke.b,hke.exp⟩))) zg⟩
end
section
open Go Go.Sx
theorem VJ(hb n:Nat)(s:QS)(w:World)(hO:Own (QS.R hb n s) w) :
 CR ya 58 (Zg hb) w (fun r w' => ∃ (i:Nat) (k:Int) (b:Bool) (s2:QS),r = .tuple #[.agg (qN i k),.bool b]/\(b=true->i<n)/\gp (QS.R hb n s) w w' (QS.R hb n s2)):=by
 rcases vt s.fO.length with h0|h0
 . exact CR.mono (VB hb n s w hO h0) fun r w' ⟨h1,ht⟩=>⟨0,0,false,s,h1,fun h=>(by cases h),ht⟩
 . exact CR.mono (MK hb n s w hO h0) fun r w' ⟨s2,h1,_,ht⟩=>⟨_,_,true,s2,h1,fun _=>hO.fact.hp.ix 0 h0,ht⟩
theorem SO(fQ fN ob:Nat)(s:GW)(w:World)(hO:Own (GW.R fQ fN ob s) w) :
 CR ya 29 (Zg ob) w (fun r w' => ∃ (s2:GW) (i:Nat) (b:Bool),r = .tuple (sH i b)/\gp (GW.R fQ fN ob s) w w' (GW.R fQ fN ob s2)):=by
 have hvn:=hO.fact.vn
 have hv2:=hO.fact.v2
 have hen:=hO.fact.en
 refine en Tryz.func29 Tryz.ntmps29 ?_
 have hst0:=Own.of hO.un
 have hG:s.ok fQ fN:=hO.fact
 have l:=yx (p:=GW.ok fQ fN s) (yc [_,_,_,_] _ hst0) hG
 refine gh hst0 10 ?_
 refine cl Iu (Gz fQ fN ob s w (yd l (i:=0) rfl)) ?_
 rintro _ C ⟨rfl,ht⟩
 have D:=yt 0 l ht
 have j:=(jV D).unpack
 refine fP j 12 ?_
 refine cl OD (VJ s.hb fN s.q C (yd j (i:=2) rfl)) ?_
 rintro _ N ⟨d,n,E,e,rfl,G,ht⟩
 have o:=yt 2 j ht
 have hpi:=G
 refine fP o 3 ?_
 refine al (cs:=Zz) rfl iy rfl o (fun t O P Q H=>vp H 11 fun S g=>?_)
 cases u:(E:Bool)
 . skip
   subst u
   refine jr g 9 ?_
   refine jm (v:=Zc) (v' := Zq) Tryz.results29 rfl rfl ?_
   have I:=ym [1,2,3,4,0] g
   exact⟨(⟨s.fb,s.nb,s.hb,s.mb,s.trees,e,s.m⟩:GW),0,false,rfl,yv (yx (p:=GW.ok fQ fN (⟨s.fb,s.nb,s.hb,s.mb,s.trees,e,s.m⟩:GW)) (yc [_,_,_,_] _ I) hG.same) zg⟩
 . skip
   subst u
   refine p8 g 5 ?_
   have hpl:=hpi rfl
   refine kS g (fun J f=>?_) (hA:=by refine' gN 6 ?k0;case k0=>refine' gw (fun wq hM=>rv (sx (a:=(d:Int)) (mm:=s.m) (enc:=Ed.enc) (k:=.i64) 4 rfl rfl qK yf qY rfl hM rfl)) ?k1;case k1=>refine' gw (fun wq hM=>rv (MM (cs:=#[(Za ((fU s.m (d:Int)).a:Int)),(Za ((fU s.m (d:Int)).b:Int)),(Za ((fU s.m (d:Int)).exp)),(.bool ((fU s.m (d:Int)).tree))]) (v:=(.bool ((fU s.m (d:Int)).tree))) rfl Tryz.underlying150 rfl ny rfl rfl)) ?k2;case k2=>exact iT)
   refine kT tt none f 1 ?_
   cases U:((fU s.m (d:Int)).tree:Bool)
   . skip
     refine p8 f 4 ?_
     refine jD f 6 ?_
     intro wq hM
     refine Pc (a:=(d:Int)) (mm:=s.m) (enc:=Ed.enc) (k:=.i64) (L' := [blk t 139 (Zj d n),blk ob 147 (Aa fQ fN s (some s.mb)),(kR s.fb s.nb (fN+fQ+1)),(QS.R s.hb fN e),gR s.mb .i64 Ed.enc (gK s.m (d:Int))]) 4 rfl rfl rfl qK yf hM rfl rfl (fun _ h=>(jC h (fun V x=>?_)))
     refine jE tt none x 10 ?_
     refine jm (v:=(Za d)) (v' := Zl) Tryz.results29 rfl rfl ?_
     have K:=ym [1,2,3,4,0] x
     exact⟨(⟨s.fb,s.nb,s.hb,s.mb,s.trees,e,(gK s.m (d:Int))⟩:GW),d,true,rfl,yv (yx (p:=GW.ok fQ fN (⟨s.fb,s.nb,s.hb,s.mb,s.trees,e,(gK s.m (d:Int))⟩:GW)) (yc [_,_,_,_] _ K) hG.del) zg⟩
   . skip
     have L:=ym [1,2,3,4,0] f
     have y:=yx (p:=GW.ok fQ fN (⟨s.fb,s.nb,s.hb,s.mb,s.trees,e,s.m⟩:GW)) (yc [_,_,_,_] _ L) hG.same
     refine gh f 5 ?_
     refine cl I5 (Ga fQ fN ob (⟨s.fb,s.nb,s.hb,s.mb,s.trees,e,s.m⟩:GW) J (yd y (i:=0) rfl) d o_) ?_
     rintro _ W ⟨c,rfl,ht⟩
     have z:=yt 0 y ht
     have M:GW.ok fQ fN c:=nL z
     have A:=(jV z).unpack
     refine gX A 3 ?_
     refine jD A 6 ?_
     intro wq hM
     refine Pc (a:=(d:Int)) (mm:=c.m) (enc:=Ed.enc) (k:=.i64) (L' := [blk ob 147 (Aa fQ fN c (some c.mb)),(kR c.fb c.nb (fN+fQ+1)),(QS.R c.hb fN c.q),gR c.mb .i64 Ed.enc (gK c.m (d:Int)),blk t 139 (Zj d n)]) 3 rfl rfl rfl qK yf hM rfl rfl (fun _ h=>(jC h (fun X B=>?_)))
     refine jE tt none B 10 ?_
     refine jm (v:=(Za d)) (v' := Zl) Tryz.results29 rfl rfl ?_
     exact⟨(⟨c.fb,c.nb,c.hb,c.mb,c.trees,c.q,(gK c.m (d:Int))⟩:GW),d,true,rfl,yv (yx (p:=GW.ok fQ fN (⟨c.fb,c.nb,c.hb,c.mb,c.trees,c.q,(gK c.m (d:Int))⟩:GW)) (yc [_,_,_,_] _ B) M.del) zg⟩
theorem Xj(fQ fN ob:Nat)(s:GW)(w:World)(hO:Own (GW.R fQ fN ob s) w)(k a b:Nat)(exp:Int)(hk:k<fN)(ha:a<fQ)(hb:b<fQ)(hx:iC .i64 exp) :
 CR ya 73 #[(Zb ob),(Za k),(Za a),(Za b),(Za exp)] w (fun r w' => ∃ (s2:GW) (e:Int),r = .int .i64 e/\gp (GW.R fQ fN ob s) w w' (GW.R fQ fN ob s2)):=by
 have hvn:=hO.fact.vn
 have hv2:=hO.fact.v2
 have hen:=hO.fact.en
 refine en Tryz.func73 Tryz.ntmps73 ?_
 have hst0:=Own.of hO.un
 have hG:s.ok fQ fN:=hO.fact
 have z:=yx (p:=GW.ok fQ fN s) (yc [_,_,_,_] _ hst0) hG
 refine gh hst0 9 ?_
 refine cl Iu (Gz fQ fN ob s w (yd z (i:=0) rfl)) ?_
 rintro _ aa ⟨rfl,ht⟩
 have ab:=yt 0 z ht
 have n:=(jV ab).unpack
 refine fP n 10 ?_
 refine cmp rfl rfl rfl (nE o_) (fP n 6 ?_)
 refine cmp rfl rfl rfl (uH o_) ?_
 have A:=yx (p:=GW.ok fQ fN s) (yc [_,_,_,_] _ n) hG
 refine fP n 4 ?_
 refine cl Ox (Na fQ fN ob s aa (yd A (i:=0) rfl) a o_) ?_
 rintro _ ac ⟨rfl,ht⟩
 have ad:=yt 0 A ht
 have B:=(jV ad).unpack
 have C:=yx (p:=GW.ok fQ fN s) (yc [_,_,_,_] _ B) hG
 refine fP B 5 ?_
 refine cl Ox (Na fQ fN ob s ac (yd C (i:=0) rfl) b o_) ?_
 rintro _ aC ⟨rfl,ht⟩
 have ae:=yt 0 C ht
 have g:=(jV ae).unpack
 refine fP g 12 ?_
 by_cases aD:((a:Int):Int)=((b:Int):Int)
 . refine gf g 11 ?_
   refine gF (v:=(.int .i64 9)) wW rfl ?_
   exact⟨s,9,rfl,yv (yx (p:=GW.ok fQ fN s) (yc [_,_,_,_] _ g) hG) zg⟩
 . refine fP g 14 ?_
   refine aaW (a:=(k:Int)) (mm:=s.m) (enc:=Ed.enc) (k:=.i64) 3 rfl rfl rfl qK yf qY rfl g rfl (fP g 3 ?_)
   refine al (cs:=E5) rfl qY rfl g (fun af aE aF aG ag=>vp ag 9 fun ah l=>?_)
   cases aH:((ij s.m (k:Int)).isSome:Bool)
   . skip
     refine gh l 11 ?_
     refine cl NU (S3 s.hb fN s.q ah (yd l (i:=3) rfl) k o_ exp hx) ?_
     rintro _ aI ⟨aJ,d,rfl,ht⟩
     have D:=yt 3 l ht
     refine fP D 12 ?_
     refine lX (pvs:=[(0,(Za a)),(1,(Za b)),(2,(Za exp))]) (v:=.agg #[(Za a),(Za b),(Za exp),Zq]) rfl rfl (kV [(0,(Zf a)),(1,(Zf b)),(2,(Zf exp))] qY ZR rfl ⟨rfl,rfl,rfl,rfl,rfl,rfl,trivial⟩ rfl) (EL (a:=(k:Int)) (c:=(⟨a,b,exp,false⟩:Ed)) (mm:=s.m) (enc:=Ed.enc) (k:=.i64) (L' := [blk af 150 [(Za ((fU s.m (k:Int)).a:Int)),(Za ((fU s.m (k:Int)).b:Int)),(Za ((fU s.m (k:Int)).exp)),(.bool ((fU s.m (k:Int)).tree))],blk ob 147 (Aa fQ fN s (some s.mb)),(kR s.fb s.nb (fN+fQ+1)),(QS.R s.hb fN d),gR s.mb .i64 Ed.enc (gm s.m (k:Int) (⟨a,b,exp,false⟩:Ed))]) 4 rfl rfl rfl rfl qK yf D rfl rfl (fun aK E=>gX E 4 ?_))
     refine jD E 17 ?_ (hA:=by refine' gN 10 ?k0;case k0=>refine' gw (fun wq hM=>rv (kG (e:=((fN+a:Nat):Int)) rfl rfl rfl (by rw[iV o_];omega))) ?k1;case k1=>refine' gN 5 ?k2;case k2=>refine' gw (fun wq hM=>rv (kG (e:=((fN+b:Nat):Int)) rfl rfl rfl (by rw[iV o_];omega))) ?k3;case k3=>exact iT)
     intro wq hM
     refine kC rfl rfl (iX rfl Ys) (Xr s.fb s.nb (fN+fQ+1) wq (yd hM (i:=2) rfl) o_ (fN+a) (fN+b) o_ o_) ?_
     rintro _ _ ⟨h,ai,rfl,hF1,ht1⟩
     refine jC (yt 2 hM (ht1.oQ hF1)) (fun aj ak=>?_)
     have G:=ym [2,0,1,3,4] ak
     have aL:=nL G
     have j:=jV G
     refine kT tt none j 6 ?_
     cases H:(ai:Bool)
     . skip
       subst H
       have am:=ym [2,0,3,4,1] j
       have I:=yx (p:=GW.ok fQ fN (⟨s.fb,s.nb,s.hb,s.mb,s.trees,d,(gm s.m (k:Int) (⟨a,b,exp,false⟩:Ed))⟩:GW)) (yc [_,_,_,_] _ am) (hG.put (by exact⟨ha,hb,hx⟩))
       refine gh j 7 ?_
       refine cl HY (Gc fQ fN ob (⟨s.fb,s.nb,s.hb,s.mb,s.trees,d,(gm s.m (k:Int) (⟨a,b,exp,false⟩:Ed))⟩:GW) aj (yd I (i:=0) rfl) k o_) ?_
       rintro _ aM ⟨o,rfl,ht⟩
       have J:=yt 0 I ht
       have an:GW.ok fQ fN o:=nL J
       have K:=(jV J).unpack
       refine gf K 8 ?_
       refine gF (v:=Zc) wW rfl ?_
       exact⟨o,0,rfl,yv (yx (p:=GW.ok fQ fN o) (yc [_,_,_,_] _ K) an) zg⟩
     . skip
       subst H
       refine gh j 8 ?_
       refine Ah (a:=(h:Int)) (mm:=(gm s.m (k:Int) (⟨a,b,exp,false⟩:Ed))) (enc:=Ed.enc) (k:=.i64) 4 rfl rfl rfl qK yf qY rfl j rfl (al (cs:=E5) rfl qY rfl j (fun aN aO aP aQ ao=>mU ao 9 fun L f=>?_))
       by_cases aR:((fU (gm s.m (k:Int) (⟨a,b,exp,false⟩:Ed)) (h:Int)).exp:Int)>(exp:Int)
       . refine gf f 23 ?_
         refine gF (v:=Zc) wW rfl ?_
         have ap:=ym [3,1,4,5,0,2] f
         exact⟨(⟨s.fb,s.nb,s.hb,s.mb,s.trees,d,(gm s.m (k:Int) (⟨a,b,exp,false⟩:Ed))⟩:GW),0,rfl,yv (yx (p:=GW.ok fQ fN (⟨s.fb,s.nb,s.hb,s.mb,s.trees,d,(gm s.m (k:Int) (⟨a,b,exp,false⟩:Ed))⟩:GW)) (yc [_,_,_,_] _ ap) (hG.put (by exact⟨ha,hb,hx⟩))) zg⟩
       . refine fP f 5 ?_
         by_cases aS:((fU (gm s.m (k:Int) (⟨a,b,exp,false⟩:Ed)) (h:Int)).exp:Int)=(exp:Int)
         . refine fP f 4 ?_
           by_cases aT:((h:Int):Int)>((k:Int):Int)
           . refine gf f 14 ?_
             refine gF (v:=Zc) wW rfl ?_
             have aq:=ym [3,1,4,5,0,2] f
             exact⟨(⟨s.fb,s.nb,s.hb,s.mb,s.trees,d,(gm s.m (k:Int) (⟨a,b,exp,false⟩:Ed))⟩:GW),0,rfl,yv (yx (p:=GW.ok fQ fN (⟨s.fb,s.nb,s.hb,s.mb,s.trees,d,(gm s.m (k:Int) (⟨a,b,exp,false⟩:Ed))⟩:GW)) (yc [_,_,_,_] _ aq) (hG.put (by exact⟨ha,hb,hx⟩))) zg⟩
           . skip
             have ar:=ym [3,1,4,5,0,2] f
             have M:=yx (p:=GW.ok fQ fN (⟨s.fb,s.nb,s.hb,s.mb,s.trees,d,(gm s.m (k:Int) (⟨a,b,exp,false⟩:Ed))⟩:GW)) (yc [_,_,_,_] _ ar) (hG.put (by exact⟨ha,hb,hx⟩))
             refine fP f 11 ?_
             refine cl I5 (Ga fQ fN ob (⟨s.fb,s.nb,s.hb,s.mb,s.trees,d,(gm s.m (k:Int) (⟨a,b,exp,false⟩:Ed))⟩:GW) L (yd M (i:=0) rfl) h o_) ?_
             rintro _ au ⟨t,rfl,ht⟩
             have N:=yt 0 M ht
             have av:GW.ok fQ fN t:=nL N
             have O:=(jV N).unpack
             have P:=yx (p:=GW.ok fQ fN t) (yc [_,_,_,_] _ O) av
             refine fP O 6 ?_
             refine cl HY (Gc fQ fN ob t au (yd P (i:=0) rfl) k o_) ?_
             rintro _ aU ⟨u,rfl,ht⟩
             have Q:=yt 0 P ht
             have aw:GW.ok fQ fN u:=nL Q
             have S:=(jV Q).unpack
             refine gf S 8 ?_
             refine gF (v:=Zc) wW rfl ?_
             exact⟨u,0,rfl,yv (yx (p:=GW.ok fQ fN u) (yc [_,_,_,_] _ S) aw) zg⟩
         . skip
           have ax:=ym [3,1,4,5,0,2] f
           have U:=yx (p:=GW.ok fQ fN (⟨s.fb,s.nb,s.hb,s.mb,s.trees,d,(gm s.m (k:Int) (⟨a,b,exp,false⟩:Ed))⟩:GW)) (yc [_,_,_,_] _ ax) (hG.put (by exact⟨ha,hb,hx⟩))
           refine fP f 15 ?_
           refine cl I5 (Ga fQ fN ob (⟨s.fb,s.nb,s.hb,s.mb,s.trees,d,(gm s.m (k:Int) (⟨a,b,exp,false⟩:Ed))⟩:GW) L (yd U (i:=0) rfl) h o_) ?_
           rintro _ ay ⟨x,rfl,ht⟩
           have V:=yt 0 U ht
           have az:GW.ok fQ fN x:=nL V
           have W:=(jV V).unpack
           have X:=yx (p:=GW.ok fQ fN x) (yc [_,_,_,_] _ W) az
           refine fP W 6 ?_
           refine cl HY (Gc fQ fN ob x ay (yd X (i:=0) rfl) k o_) ?_
           rintro _ aV ⟨y,rfl,ht⟩
           have Y:=yt 0 X ht
           have aA:GW.ok fQ fN y:=nL Y
           have Z:=(jV Y).unpack
           refine gf Z 8 ?_
           refine gF (v:=Zc) wW rfl ?_
           exact⟨y,0,rfl,yv (yx (p:=GW.ok fQ fN y) (yc [_,_,_,_] _ Z) aA) zg⟩
   . skip
     refine jr l 8 ?_
     refine gF (v:=(.int .i64 6)) wW rfl ?_
     have aB:=ym [1,2,3,4,0] l
     exact⟨s,6,rfl,yv (yx (p:=GW.ok fQ fN s) (yc [_,_,_,_] _ aB) hG) zg⟩
end
section
open Go Go.Sx
theorem Xa(n:Nat)(w:World)(hn:n<=65536) :
 CR ya 94 (rO n) w (fun r w' => ∃ fb nb,r = .tuple (Z8 fb)/\gp (gG []) w w' (kR fb nb (n+1))) :=
 CR.mono (Uf n w hn) fun r w' ⟨fb,nb,e,ht⟩=>⟨fb,nb,e,RK (ed:=0) (xs:=l9 n n) (by simpa using ht) (oI n n) (Ni o_) (Uy o_)⟩
theorem Wz(fQ fN:Nat)(w:World)(h2:2<=fQ)(hv:fQ<=4096)(he:fN<=16384) :
 CR ya 53 (qN fQ fN) w (fun r w' => ∃ (ob:Nat) (s:GW),r = .tuple (Z8 ob)/\gp (gG []) w w' (GW.R fQ fN ob s)):=by
 refine en Tryz.func53 Tryz.ntmps53 ?_
 have hst0:=jB w
 refine gh hst0 10 ?_
 refine cmp rfl rfl rfl (nE o_) (fP hst0 2 ?_)
 refine cmp rfl rfl rfl (tv o_) (fP hst0 3 ?_)
 refine cmp rfl rfl rfl (nE o_) (fP hst0 3 ?_)
 refine cmp rfl rfl rfl (tv o_) (fP hst0 10 ?_)
 refine ar (e:=((fN+fQ:Nat):Int)) rfl rfl rfl rfl (by rw[iV o_];omega) (cl ZD (Xa (fN+fQ) w o_) ?_)
 rintro _ t ⟨a,d,rfl,ht⟩
 have g:=(ou hst0 ht)
 refine gX g 25 ?_
 refine lp (α:=Nat) (fun k=>[(0,(Za fQ)),(1,(Za fN)),(4,Z1),(5,Zc),(6,(Zb a)),(7,Zc),(34,(Za fQ)),(35,(Za ((k:Nat):Int)))]) (fun k w1=>St [(w,[])] [(kR a d (fN+fQ+1))] w1/\k<=fQ) (fun k=>fQ-k) 0 ⟨rfl,rfl,rfl,rfl,rfl,rfl,rfl,gJ (by first|rfl|omega),trivial⟩ (⟨g,o_⟩) ?_
 rintro k u h ⟨hst3,hk3⟩
 refine gh hst3 2 ?_
 by_cases x:(((k:Nat):Int):Int)<((fQ:Int):Int)
 . refine fP hst3 19 ?_
   refine ar (e:=((fN+k:Nat):Int)) rfl rfl rfl rfl (by rw[iV o_];omega) (cl OH (NF a d (fN+fQ+1) h (yd hst3 (i:=0) rfl) o_ (fN+k) o_ 9223372036854775807 (lE d_)) ?_)
   rintro _ y ⟨rfl,ht⟩
   have j:=yt 0 hst3 ht
   refine gf j 7 ?_
   refine tN (?_)
   exact again (k+1) ⟨rfl,rfl,rfl,rfl,rfl,rfl,rfl,gJ (by first|rfl|omega),trivial⟩ (⟨j,o_⟩) (by show (fQ-(k+1):Nat)<fQ-k;omega)
 . refine fP hst3 13 ?_
   refine cl OX (Nb fN h o_) ?_
   rintro _ z ⟨b,l,rfl,A,ht⟩
   have f:=(ou hst3 ht)
   refine fP f 22 ?_
   refine lX (pvs:=[(0,(Zb a))]) (v:=.agg (Zg a)) rfl rfl (kV [(0,(Zi a))] II Y8 rfl ⟨rfl,rfl,trivial⟩ rfl) (fP f 1 ?_)
   refine mkV Ed.enc .i64 rfl rfl f (fun c B C D o=>lX (pvs:=[(0,(Za fQ)),(1,(Za fN)),(2,(.agg (Zg a))),(3,(Zb b)),(4,(.map (some c)))]) (v:=.agg (Q0 fQ fN a b (some c))) rfl rfl (kV [(0,(Zf fQ)),(1,(Zf fN)),(2,(Zi a)),(3,(Zi b)),(4,[(.map (some c))])] O9 Y6 rfl ⟨rfl,rfl,rfl,rfl,rfl,rfl,rfl,rfl,rfl,rfl,trivial⟩ rfl) (bx (v:=(.agg (Q0 fQ fN a b (some c)))) (cs:=[(Za fQ),(Za fN),(Zb a),(Zb b),(.map (some c)),Zc]) rfl rfl rfl o (fun m E G H n=>gf n 5 ?_)))
   refine jm (v:=(Zb m)) (v' := Zc) Tryz.results53 rfl rfl ?_
   have q:=ym [0,3,2,1] n
   exact⟨m,(⟨a,d,b,c,0,l,[]⟩:GW),rfl,St.AX (yx (p:=GW.ok fQ fN (⟨a,d,b,c,0,l,[]⟩:GW)) (yc [_,_,_,_] _ q) ⟨h2,hv,he,fun p hp=>by cases hp⟩) s_⟩
end
section
open Go Go.Sx
theorem W9(c:Cf)(w:World)(h1:1<=c.win)(h2:1<=c.fN/\c.fN<=16384)(h3:2<=c.fQ/\c.fQ<=4096)(h4:0<=c.jw/\c.jw<=16384) :
 CR ya 49 (QK c.win c.fN c.fQ c.jw) w (fun r w' => r = .bool true/\gD [] w w'):=by
 refine en Tryz.func49 Tryz.ntmps49 ?_
 have hst0:=jB w
 refine gh hst0 2 ?_
 refine bx (v:=(wN c.win c.fN c.fQ c.jw)) (cs:=(zU c.win c.fN c.fQ c.jw)) rfl rfl rfl hst0 (fun b d e f a=>fP a 7 ?_)
 refine cmp rfl rfl rfl (pS o_) (fP a 3 ?_)
 refine cmp rfl rfl rfl (pS o_) (fP a 4 ?_)
 refine cmp rfl rfl rfl (zC o_) (fP a 4 ?_)
 refine cmp rfl rfl rfl (pS o_) (fP a 4 ?_)
 refine cmp rfl rfl rfl (zC o_) (fP a 4 ?_)
 refine cmp rfl rfl rfl (pS o_) (fP a 4 ?_)
 refine cmp rfl rfl rfl (zC o_) (gf a 5 ?_)
 refine gF (v:=Zl) Tryz.results49 rfl ?_
 exact⟨rfl,a.gI s_⟩
end
section
open Go Go.Sx
theorem XP(a b:Int)(w:World)(ha:iC .i64 a)(hb:iC .i64 b) :
 CR ya 103 (qN a b) w (fun r w' => r = .tuple (qN ((oP a b).1) ((oP a b).2))/\gD [] w w'):=by
 have ha' := ha.i64
 have hb' := hb.i64
 obtain⟨s,hs⟩:∃ s,s=IntKind.i64.wrap (a+b):=⟨_,rfl⟩
 have hw:=hs
 rw[IntKind.wrap_i64]at hw
 refine en Tryz.func103 Tryz.ntmps103 ?_
 have hst0:=jB w
 refine gh hst0 10 ?_
 refine ar (e:=s) rfl rfl rfl rfl hs.symm (fP hst0 7 ?_)
 by_cases d:(a:Int)<(0:Int)
 . refine fP hst0 2 ?_
   by_cases f:(b:Int)<(0:Int)
   . refine fP hst0 1 ?_
     refine DK (c:=true) rfl rfl rfl ny rfl (fP hst0 2 ?_)
     by_cases g:(s:Int)<(0:Int)
     . refine fP hst0 3 ?_
       refine DS (c:=false) rfl rfl rfl ny rfl (gf hst0 14 ?_)
       refine jm (v:=(Za s)) (v' := Zc) zG rfl rfl ?_
       have h9:=xL (a:=a) (b:=b) o_
       have h8:s=a+b:=by omega
       exact⟨by rw[h9,h8],hst0.gI s_⟩
     . refine fP hst0 3 ?_
       refine DS (c:=true) rfl rfl rfl ny rfl (gf hst0 12 ?_)
       refine jm (v:=Zc) (v' := (.int .i64 7)) zG rfl rfl ?_
       have h9:=M9 (a:=a) (b:=b) o_
       exact⟨by rw[h9],hst0.gI s_⟩
   . refine fP hst0 1 ?_
     refine DK (c:=false) rfl rfl rfl ny rfl (gf hst0 20 ?_)
     refine jm (v:=(Za s)) (v' := Zc) zG rfl rfl ?_
     have h9:=xL (a:=a) (b:=b) o_
     have h8:s=a+b:=by omega
     exact⟨by rw[h9,h8],hst0.gI s_⟩
 . refine fP hst0 2 ?_
   by_cases h:(b:Int)<(0:Int)
   . refine fP hst0 1 ?_
     refine DK (c:=false) rfl rfl rfl ny rfl (gf hst0 20 ?_)
     refine jm (v:=(Za s)) (v' := Zc) zG rfl rfl ?_
     have h9:=xL (a:=a) (b:=b) o_
     have h8:s=a+b:=by omega
     exact⟨by rw[h9,h8],hst0.gI s_⟩
   . refine fP hst0 1 ?_
     refine DK (c:=true) rfl rfl rfl ny rfl (fP hst0 2 ?_)
     by_cases i:(s:Int)<(0:Int)
     . refine fP hst0 3 ?_
       refine DS (c:=true) rfl rfl rfl ny rfl (gf hst0 12 ?_)
       refine jm (v:=Zc) (v' := (.int .i64 7)) zG rfl rfl ?_
       have h9:=M9 (a:=a) (b:=b) o_
       exact⟨by rw[h9],hst0.gI s_⟩
     . refine fP hst0 3 ?_
       refine DS (c:=false) rfl rfl rfl ny rfl (gf hst0 14 ?_)
       refine jm (v:=(Za s)) (v' := Zc) zG rfl rfl ?_
       have h9:=xL (a:=a) (b:=b) o_
       have h8:s=a+b:=by omega
       exact⟨by rw[h9,h8],hst0.gI s_⟩
theorem MU(win t:Int)(w:World)(hwin:iC .i64 win)(htt:iC .i64 t) :
 CR ya 64 (qN win t) w (fun r w' => r = .tuple (qN ((oP t win).1) ((oP t win).2))/\gD [] w w'):=by
 refine en Tryz.func64 Tryz.ntmps64 ?_
 have hst0:=jB w
 refine gh hst0 10 ?_
 refine cl Yf (XP t win w htt hwin) ?_
 rintro _ c ⟨rfl,b⟩
 have a:=y8 hst0 b
 refine gf a 7 ?_
 refine jm (v:=(Za ((oP t win).1))) (v' := (Za ((oP t win).2))) Tryz.results64 rfl rfl ?_
 exact⟨rfl,a.gI s_⟩
theorem Gx(cb:Nat)(win now:Int)(w:World)(hO:Own (Zr cb win now) w)(h1:1<=win)(hwin:iC .i64 win) :
 CR ya 54 (Zg cb) w (fun r w' => r = .bool true/\gp (Zr cb win now) w w' (Zr cb win now)):=by
 refine en Tryz.func54 Tryz.ntmps54 ?_
 have hst0:=yy hO
 refine gh hst0 8 ?_
 refine ow (a:=some ⟨cb,0,none⟩) (c:=true) rfl rfl rfl Tryz.underlying72 rfl (fP hst0 5 ?_)
 refine cmp rfl rfl rfl (pS o_) (gf hst0 5 ?_)
 refine gF (v:=Zl) Tryz.results54 rfl ?_
 exact⟨rfl,yr hst0⟩
theorem Wq(cb:Nat)(win now:Int)(w:World)(hO:Own (Zr cb win now) w)(h1:1<=win)(hwin:iC .i64 win) :
 CR ya 26 (Zg cb) w (fun r w' => r = .int .i64 now/\gp (Zr cb win now) w w' (Zr cb win now)):=by
 refine en Tryz.func26 Tryz.ntmps26 ?_
 have hst0:=yy hO
 refine gh hst0 9 ?_
 refine cl IK (Gx cb win now w (yd hst0 (i:=0) rfl) h1 hwin) ?_
 rintro _ b ⟨rfl,ht⟩
 have a:=yt 0 hst0 ht
 refine gf a 16 ?_
 refine gF (v:=(Za now)) Tryz.results26 rfl ?_
 exact⟨rfl,yr a⟩
theorem Ly(cb:Nat)(win now:Int)(w:World)(hO:Own (Zr cb win now) w)(h1:1<=win)(hwin:iC .i64 win)(t:Int)(htt:iC .i64 t) :
 CR ya 31 (Zn cb t) w (fun r w' => r = .int .i64 (qy win now t)/\gp (Zr cb win now) w w' (Zr cb win now)):=by
 refine en Tryz.func31 Tryz.ntmps31 ?_
 have hst0:=yy hO
 refine gh hst0 9 ?_
 refine cl IK (Gx cb win now w (yd hst0 (i:=0) rfl) h1 hwin) ?_
 rintro _ c ⟨rfl,ht⟩
 have a:=yt 0 hst0 ht
 refine fP a 14 ?_
 by_cases e:(t:Int)<(now:Int)
 . refine gf a 11 ?_
   refine gF (v:=(.int .i64 10)) Tryz.results31 rfl ?_
   exact⟨gJ (by unfold qy;rw[if_pos (by assumption)]),yr a⟩
 . refine fP a 13 ?_
   refine cl Pa (MU win t c hwin htt) ?_
   rintro _ f ⟨rfl,d⟩
   have b:=y8 a d
   refine gf b 14 ?_
   refine gF (v:=(Za ((oP t win).2))) Tryz.results31 rfl ?_
   exact⟨gJ (by unfold qy;rw[if_neg (by assumption)]),yr b⟩
theorem Sw(cb:Nat)(win now:Int)(w:World)(hO:Own (Zr cb win now) w)(h1:1<=win)(hwin:iC .i64 win)(t:Int)(htt:iC .i64 t) :
 CR ya 69 (Zn cb t) w (fun r w' => r = .tuple (qN ((oP t win).1) ((oP t win).2))/\gp (Zr cb win now) w w' (Zr cb win now)):=by
 refine en Tryz.func69 Tryz.ntmps69 ?_
 have hst0:=yy hO
 refine gh hst0 10 ?_
 refine cl IK (Gx cb win now w (yd hst0 (i:=0) rfl) h1 hwin) ?_
 rintro _ c ⟨rfl,ht⟩
 have a:=yt 0 hst0 ht
 refine fP a 13 ?_
 refine cl Pa (MU win t c hwin htt) ?_
 rintro _ e ⟨rfl,d⟩
 have b:=y8 a d
 refine gf b 7 ?_
 refine jm (v:=(Za ((oP t win).1))) (v' := (Za ((oP t win).2))) Tryz.results69 rfl rfl ?_
 exact⟨rfl,yr b⟩
theorem R4(cb:Nat)(win now:Int)(w:World)(hO:Own (Zr cb win now) w)(h1:1<=win)(hwin:iC .i64 win)(t:Int)(htt:iC .i64 t) :
 CR ya 27 (Zn cb t) w (fun r w' => r = .int .i64 (qy win now t)/\gp (Zr cb win now) w w' (Zr cb win (if qy win now t=0 then t else now))):=by
 refine en Tryz.func27 Tryz.ntmps27 ?_
 have hst0:=yy hO
 refine gh hst0 9 ?_
 refine cl O3 (Ly cb win now w (yd hst0 (i:=0) rfl) h1 hwin t htt) ?_
 rintro _ c ⟨rfl,ht⟩
 have a:=yt 0 hst0 ht
 refine fP a 7 ?_
 by_cases d:(qy win now t:Int)=(0:Int)
 . refine lW a 19 fun e b=>?_
   refine gF (v:=(Za (qy win now t))) Tryz.results27 rfl ?_
   have e9:(if qy win now t=0 then t else now)=t:=if_pos (by assumption)
   refine⟨rfl,?_⟩
   rw[e9]
   exact yr b
 . refine gf a 13 ?_
   refine gF (v:=(Za (qy win now t))) Tryz.results27 rfl ?_
   have e9:(if qy win now t=0 then t else now)=now:=if_neg (by assumption)
   refine⟨rfl,?_⟩
   rw[e9]
   exact yr a
theorem WJ(win:Int)(w:World)(h1:1<=win) :
 CR ya 50 (rO win) w (fun r w' => ∃ cb,r = .tuple (Z8 cb)/\gp (gG []) w w' (blk cb 134 [(Za win),Zc])):=by
 refine en Tryz.func50 Tryz.ntmps50 ?_
 have hst0:=jB w
 refine gh hst0 10 ?_
 refine cmp rfl rfl rfl (nE o_) (fP hst0 8 ?_)
 refine lX (pvs:=[(0,(Za win))]) (v:=.agg (Ak win)) rfl rfl (kV [(0,(Zf win))] OG aav rfl ⟨rfl,rfl,trivial⟩ rfl) (bx (v:=(.agg (Ak win))) (cs:=[(Za win),Zc]) rfl rfl rfl hst0 (fun a c d e b=>gf b 5 ?_))
 refine jm (v:=(Zb a)) (v' := Zc) Tryz.results50 rfl rfl ?_
 exact⟨a,rfl,St.eM b⟩
end
section
open Go Go.Sx
def WW.R(c:WC)(wb:Nat)(s:WW):gi:=jZ (s.ok c) (gG [blk wb 77 (sP c.win c.fN c.fQ c.jw s),(sI s c.win),(fW.R c.fQ c.fN s.ub s.u),(QS.SR s.sb s.hb c.fN s.q),(GW.R c.fQ c.fN s.ob s.g)])
abbrev Fl a (b:Nat) c (d:Nat):=([WW.R a b c,blk d 71 [.pointer (some ⟨b,0,none⟩),.bool false,.int .u64 0,.slice none 0 0,.int .i64 0,.slice none 0 0,.slice none 0 0,.slice none 0 0,.slice none 0 0,.slice none 0 0,.pointer none,.pointer none,.int .i64 0]]:List gi)
abbrev JS(a b:Nat) c d:=(gG [blk a 71 [.pointer (some ⟨b,0,none⟩),.bool false,.int .u64 0,.slice none 0 0,.int .i64 0,.slice none 0 0,.slice none 0 0,.slice none 0 0,.slice none 0 0,.slice none 0 0,.pointer none,.pointer none,.int .i64 0],WW.R c b d]:gi)
abbrev Qs a (b:Nat) c (d:Nat):=(gG (Fl a b c d):gi)
theorem xx(c:WC)(wb:Nat)(s:WW)(w:World)(hO:Own (WW.R c wb s) w) :
 CR ya 18 (Zg wb) w (fun r w' => r = .bool true/\gp (WW.R c wb s) w w' (WW.R c wb s)):=by
 refine en Tryz.func18 Tryz.ntmps18 ?_
 have hst0:=Own.of hO.un
 have hW:s.ok c:=hO.fact
 have hw1:=hW.w1
 have hw2:=hW.wi
 have hw3:=hW.n0
 have hw4:=hW.n1
 refine gh hst0 8 ?_
 refine ow (a:=some ⟨wb,0,none⟩) (c:=true) rfl rfl rfl Ft rfl (fP hst0 5 ?_)
 refine ow (a:=some ⟨s.cb,0,none⟩) (c:=true) rfl rfl rfl Tryz.underlying72 rfl (gf hst0 5 ?_)
 refine gF (v:=Zl) Tryz.results18 rfl ?_
 exact⟨rfl,yv (yx (p:=s.ok c) (yc [_,_,_,_,_] _ hst0) hW) zg⟩
theorem Xl(c:WC)(wb:Nat)(s:WW)(w:World)(hO:Own (WW.R c wb s) w) :
 CR ya 13 (Zg wb) w (fun r w' => r = .int .i64 s.now/\gp (WW.R c wb s) w w' (WW.R c wb s)):=by
 refine en Tryz.func13 Tryz.ntmps13 ?_
 have hst0:=Own.of hO.un
 have hW:s.ok c:=hO.fact
 have hw1:=hW.w1
 have hw2:=hW.wi
 have hw3:=hW.n0
 have hw4:=hW.n1
 have b:=yx (p:=s.ok c) (yc [_,_,_,_,_] _ hst0) hW
 refine gh hst0 9 ?_
 refine cl yM (xx c wb s w (yd b (i:=0) rfl)) ?_
 rintro _ e ⟨rfl,ht⟩
 have f:=yt 0 b ht
 have a:=(jV f).unpack
 refine fP a 12 ?_
 refine cl ZH (Wq s.cb c.win s.now e (yd a (i:=1) rfl) hw1 (lE o_)) ?_
 rintro _ g ⟨rfl,ht⟩
 have d:=yt 1 a ht
 refine gf d 4 ?_
 refine gF (v:=(Za s.now)) Tryz.results13 rfl ?_
 exact⟨rfl,yv (yx (p:=s.ok c) (yc [_,_,_,_,_] _ d) hW) zg⟩
end
end Go.Proofs.YtjhkmopeagfnlaaGreatDoor
