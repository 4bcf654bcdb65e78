/- Walks through code, under what is said of arguments. -/
import Derived.Ground.Names2Prog
import Derived.Shelf.Slices.Delete
import Derived.Test.YtedjjkcihkmjgaaGreatDoorVb
set_option linter.unusedVariables false
set_option linter.unusedSimpArgs false
set_option maxRecDepth 100000
set_option maxHeartbeats 4000000
namespace Go.Proofs.YtedjjkcihkmjgaaGreatDoor
open Go Go.Sx Go.Proofs.Tryz
open Go.Shelf Go.Lib Go.Sort Go.RowKit in
def Tryz.aa2:Go.Shelf.Ren:=⟨fun|23=>130|n=>n,fun|22=>37|3=>3|4=>4|0=>0|n=>n,fun|n=>n⟩
open Go.Shelf Go.Lib Go.Sort Go.RowKit in
theorem Tryz.aa1:Go.Proofs.Lays2.n23 Proofs.Tryz.prog Tryz.aa2 where
 mixed:=by kernel_rfl
 f23:=Proofs.Tryz.func130.trans (congrArg some<|by kernel_rfl)
 t0:=Proofs.Tryz.underlying0
 a0:=Proofs.Tryz.isAgg0
 z0:=Proofs.Tryz.sizeOf0
 v0:=Proofs.Tryz.zeroValue0
 t3:=Proofs.Tryz.underlying3
 a3:=Proofs.Tryz.isAgg3
 z3:=Proofs.Tryz.sizeOf3
 v3:=Proofs.Tryz.zeroValue3
 t4:=Proofs.Tryz.underlying4
 a4:=Proofs.Tryz.isAgg4
 z4:=Proofs.Tryz.sizeOf4
 v4:=Proofs.Tryz.zeroValue4
 t22:=Proofs.Tryz.underlying37
 a22:=Proofs.Tryz.isAgg37
 z22:=Proofs.Tryz.sizeOf37
 v22:=Proofs.Tryz.zeroValue37
 i3:=by kernel_rfl
variable{s:Nat}(fb nb m:Nat)(ed:Int)(xs:List Nd)(v:Value)(w:World)
theorem JR(xs:List Int)(w:World)(i:Nat)(f:Own (iD .i64 v 3 xs) w)(hi:i<xs.length) :
 CR ya 130 #[v,.int .i64 (i:Int),.int .i64 ((i+1:Nat):Int)] w (fun r w' => fP (iD .i64 v 3 xs) w w' (iD .i64 r 3 (xs.eraseIdx i))) :=
 X6 f hi fun b a c d e=>Any.slices_Delete_int Tryz.aa1 b 0 a i (i+1) xs w c d e o_ o_
theorem Kw(xs:List Int)(x:Int)(k:Nat)(w:World)(hv:Ints .i64 (fun _=>True) w v xs)(z:xs.length<=1000000)(hk:xs[k]? = some x)(s:∀ (j:Nat) (y:Int),j<k->xs[j]? = some y->y≠x) :
 CK ya 129 #[v,(Za x)] w (.int .i64 (k:Int)):=by
 have u:=(zp.1 hk).1
 refine iE func129 9 fun p=>?_
 refine jO (v:=v) rfl rfl yc hv (fZ p 4 ?_)
 refine lp (α:=Nat) (fun q=>[(0,v),(1,(Za x)),(7,(Za xs.length)),(8,(Za q))]) (fun q w1=>St [(w,[])] [] w1/\q<=k) (fun q=>k-q) 0 oh (⟨p,o_⟩) ?_
 rintro q d e ⟨m,A⟩
 obtain⟨y,n⟩:=oT (show q<xs.length by omega)
 refine fM m 2 ?_
 refine gz rfl (pL o_) (cH m 19 ?_)
 refine DG (i:=(q:Int)) (el:=y) rfl rfl rfl yc fU (St.Gh m s_ hv) o_ (by rw[show ((q:Nat):Int).toNat=q by omega];exact n) ?_
 intro f g b c h
 have l:=c.i64
 refine ld rfl rfl yf rfl b ?_
 by_cases a:(x:Int)=(y:Int)
 . have t:q=k:=(CT q k).elim (fun o=>absurd (show y=x from by have r:=a;omega) (s q y o n)) (fun o=>by omega)
   refine gm m 16 (Za q) ?_
   obtain rfl:q=k:=by omega
   exact⟨rfl,m.gf s_⟩
 . have t:q≠k:=by rintro rfl;rw[hk]at n;cases n;exact(by have r:=a;omega:False)
   refine fK m 11 ?_
   exact gM (q+1) oh (⟨m,o_⟩) o1
theorem US(ub:Nat)(s:fR)(w:World)(hO:Own (fR.R fb nb ub s) w)(i:Nat)(hi:s.A.iw i) :
 CR ya 75 (Zk ub i) w (fun r w' => ∃ (s2:fR),r = .tuple #[(wU (cE s.live i)),.int .i64 0]/\((∀ y,s2.has y↔s.has y/\y.slot≠(i:Int))/\s2.last=s.last/\TW.Kp s.t s2.t)/\fP (fR.R fb nb ub s) w w' (fR.R fb nb ub s2)):=by
 have b7:s.t.A.used<=s.t.A.n:=hO.fact.tok.ul
 have b2:=hO.fact.n
 have b3:=hO.fact.tn
 have b1:=hO.fact.en
 have b4:=hO.fact.vn
 have b0:s.A.used<=s.A.begun:=by have T:=hO.fact.lY.used;omega
 have bZ:=hO.fact.lY.le
 have b6:=hO.fact.ll
 have b5:=hi.1
 have bk:=hO.fact.ne i hi
 refine gj func75 ?_
 have bY:=Own.of hO.un
 have F:s.ok fb nb:=hO.fact
 refine fM bY 2 ?_
 refine ir bY (fun C aT bE bF an=>?_)
 have aU:=ye [1,2,3,4,5,6,0] an
 have ao:=yn (p:=s.ok fb nb) (yd [_,_,_,_,_,_] _ aU) F
 refine cH an 7 ?_
 refine gF 0 ao (Cp fb nb ub s aT ·) fun aV aW=>?_
 have Y:=(j7 aW).unpack
 refine cH Y 14 ?_
 refine cl (U9 s.jx s.aw aV (yg Y 4 rfl) i hi) ?_
 rintro _ bG ⟨g,rfl,S,ht⟩
 have Z:=yt 4 Y ht
 have bb:=(j6 Z (i:=4) rfl:g.A.ok)
 refine cH Z 21 ?_
 refine ir Z (fun D bH bI bJ aX=>?_)
 refine gh aX 10 fun bK ap=>?_
 refine iL (pvs:=[]) (v:=.agg IA) rfl rfl (i6 [] o7 LC rfl trivial rfl) (cH ap 1 ?_)
 refine iz (f:=(fun _=>(⟨0,0,0,0,0,0,0⟩:Lv))) 2 ap (fun aY K=>?_)
 refine cH K 11 ?_
 refine iL (pvs:=[(0,(Zo ((cE s.live i).u))),(1,(Zo ((cE s.live i).v)))]) (v:=.agg (vA ((cE s.live i).u) ((cE s.live i).v))) rfl rfl (uN [(0,(Zw ((cE s.live i).u))),(1,(Zw ((cE s.live i).v)))] vi y8 jm rfl oh rfl s_) (fZ K 4 ?_)
 refine qn 3 (iF (fM K 13 ?_))
 refine mO (i:=0) rfl rfl rfl y8 ym rfl jm d_ rfl ?_
 have aZ:=ye [4,0,1,2,3,5,6,7] K
 have L:=AF ((cE s.live i).u) aZ
 refine cH K 10 ?_
 refine qK (a:=(cE s.live i).u) (mm:=s.im) (enc:=p_) (k:=.u64) 5 rfl rfl rfl yz ym kF rfl L rfl (kq (v:=((qI s i).1)) rfl rfl (cH L 5 ?_))
 refine mv (v:=((qI s i).1)) rfl rfl ?_
 have a0:=((F.inc (cE s.live i).u i).2 ⟨hi,.inl rfl⟩)
 obtain⟨b,aq,au,a1⟩:=Ks a0 (F.nd _)
 have a2:b<(gi (qI s i).2).length:=(zp.1 au).1
 have av:(gi (qI s i).2).length<=1000000:=by rw[gi,zm];exact kS (F.Kv _) d_
 refine cH L 1 ?_
 refine ig L (Kw ((qI s i).1) (gi (qI s i).2) (i:Int) b aY (yA L (i:=0) rfl (Lh (by rw[gi,zm]at av;exact fun j hj=>Ku F (fun _ h=>h) hj))).any av au a1) fun a3 M=>cH M 6 ?_
 refine gz rfl (ot o_) (cH M 4 ?_)
 refine mv (v:=((qI s i).1)) rfl rfl (cH M 2 ?_)
 refine gL (e:=((b+1:Nat):Int)) rfl iX (cl (JR ((qI s i).1) (gi (qI s i).2) a3 b (yg M 0 rfl) a2) ?_)
 rintro d bL ht
 have bv:=yt 0 M ht
 rw[Lg]at bv
 have E:=bv
 refine cH E 7 ?_
 refine iA (m:=(gi ((qI s i).2.eraseIdx b)).length) 0 rfl rfl yc E rfl ?_
 by_cases ax:(((gi ((qI s i).2.eraseIdx b)).length:Nat):Int)>0
 . have a5:(qI s i).2.eraseIdx b≠[]:=by intro e9;have T:=@ax;rw[e9]at T;simp[gi]at T
   refine cH E 12 ?_
   refine rq (a:=(cE s.live i).u) (c:=(d,(qI s i).2.eraseIdx b)) (mm:=s.im) (enc:=p_) (k:=.u64) (L' := (Ox d (gi ((fS s.im ((cE s.live i).u)).2.eraseIdx b)) (jo s.im ((cE s.live i).u)) D (cE s.live i) ub fb nb s (some s.mb) (cO s.live i (fun _=>(⟨0,0,0,0,0,0,0⟩:Lv))) (gr s.im ((cE s.live i).u) (d,(fS s.im ((cE s.live i).u)).2.eraseIdx b)) g C)) 5 rfl rfl rfl rfl yz ym E rfl rfl ?_
   intro a6 ay
   have aa:=AK ay
   have x:nk s.im s.t (vG s i d b) s.t (cE s.live i).u i:=nk.keep (F.nd _) aq a5
   refine fK ay 10 ?_
   refine tN (iF (fM aa 13 ?_))
   refine mO (i:=1) rfl rfl rfl y8 ym rfl jm d_ rfl ?_
   have N:=AF ((cE s.live i).v) aa
   refine cH aa 10 ?_
   refine qK (a:=(cE s.live i).v) (mm:=(vG s i d b)) (enc:=p_) (k:=.u64) 5 rfl rfl rfl yz ym kF rfl N rfl (kq (v:=((qH s i d b).1)) rfl rfl (cH N 5 ?_))
   refine mv (v:=((qH s i d b).1)) rfl rfl ?_
   have a7:=((x.get (cE s.live i).v i).2 ⟨(F.inc (cE s.live i).v i).2 ⟨hi,.inr rfl⟩,fun e=>absurd e.symm bk⟩)
   obtain⟨l,az,aA,a8⟩:=Ks a7 (x.nd F.nd _)
   have a9:l<(gi (qH s i d b).2).length:=(zp.1 aA).1
   have aB:(gi (qH s i d b).2).length<=1000000:=by rw[gi,zm];exact kS (inc_le F x _) d_
   refine cH N 1 ?_
   refine ig N (Kw ((qH s i d b).1) (gi (qH s i d b).2) (i:Int) l a6 (yA N (i:=0) rfl (Lh (by rw[gi,zm]at aB;exact fun j hj=>Ku F (fun _ h=>((x.get _ _).1 h).1) hj))).any aB aA a8) fun ba O=>cH O 6 ?_
   refine gz rfl (ot o_) (cH O 4 ?_)
   refine mv (v:=((qH s i d b).1)) rfl rfl (cH O 2 ?_)
   refine gL (e:=((l+1:Nat):Int)) rfl iX (cl (JR ((qH s i d b).1) (gi (qH s i d b).2) ba l (yg O 0 rfl) a9) ?_)
   rintro G bM ht
   have bW:=yt 0 O ht
   rw[Lg]at bW
   have H:=bW
   refine cH H 7 ?_
   refine iA (m:=(gi ((qH s i d b).2.eraseIdx l)).length) 0 rfl rfl yc H rfl ?_
   by_cases aC:(((gi ((qH s i d b).2.eraseIdx l)).length:Nat):Int)>0
   . have bc:(qH s i d b).2.eraseIdx l≠[]:=by intro e9;have T:=@aC;rw[e9]at T;simp[gi]at T
     refine cH H 12 ?_
     refine rq (a:=(cE s.live i).v) (c:=(G,(qH s i d b).2.eraseIdx l)) (mm:=(vG s i d b)) (enc:=p_) (k:=.u64) (L' := (Ox G (gi ((fS (gr s.im ((cE s.live i).u) (d,(fS s.im ((cE s.live i).u)).2.eraseIdx b)) ((cE s.live i).v)).2.eraseIdx l)) (jo (gr s.im ((cE s.live i).u) (d,(fS s.im ((cE s.live i).u)).2.eraseIdx b)) ((cE s.live i).v)) D (cE s.live i) ub fb nb s (some s.mb) (cO s.live i (fun _=>(⟨0,0,0,0,0,0,0⟩:Lv))) (gr (gr s.im ((cE s.live i).u) (d,(fS s.im ((cE s.live i).u)).2.eraseIdx b)) ((cE s.live i).v) (G,(fS (gr s.im ((cE s.live i).u) (d,(fS s.im ((cE s.live i).u)).2.eraseIdx b)) ((cE s.live i).v)).2.eraseIdx l)) g C)) 5 rfl rfl rfl rfl yz ym H rfl rfl ?_
     intro bN aD
     have aE:=AK aD
     have aF:nk (vG s i d b) s.t (IL s i d b G l) s.t (cE s.live i).v i:=nk.keep (x.nd F.nd _) az bc
     refine fK aD 10 ?_
     refine tN (iF (fM aE 15 ?_))
     refine iS 7 aE (fun bO ac=>?_)
     refine fK ac 4 ?_
     refine o5 (v:=(wU (cE s.live i))) (v' := Zc) HY (oI (cs:=(oM (cE s.live i))) rfl wm rfl o7 rfl (mL ac (i:=7) (o:=0) (vs:=(oM (cE s.live i))) rfl rfl)) (qm rfl) ?_
     have aG:=ye [2,3,4,0,5,6,1,7] ac
     have a4:=(j6 aG (i:=5) rfl:s.t.ok)
     have ar:=F.rem hi S bb a4 x aF (lv2:=s.lv) (ls:=cO s.live i (fun _=>(⟨0,0,0,0,0,0,0⟩:Lv))) rfl
     exact⟨(⟨s.jx,s.tb,s.ab,s.mb,s.lv,s.last,g,s.t,cO s.live i (fun _=>(⟨0,0,0,0,0,0,0⟩:Lv)),(IL s i d b G l)⟩:fR),rfl,⟨ar.2,rfl,aF.zL (TW.Kp.refl _) (TW.Kp.refl _)⟩,yj (yn (p:=fR.ok fb nb (⟨s.jx,s.tb,s.ab,s.mb,s.lv,s.last,g,s.t,cO s.live i (fun _=>(⟨0,0,0,0,0,0,0⟩:Lv)),(IL s i d b G l)⟩:fR)) (yd [_,_,_,_,_,_] _ aG) ar.1) za⟩
   . have bd:(qH s i d b).2.eraseIdx l=[]:=by have T:=@aC;simp only[gi,zm]at T;exact wo o_
     have be:=ye [1,2,3,4,5,6,7,8] H
     refine cH H 13 ?_
     refine DC (a:=(cE s.live i).v) (mm:=(vG s i d b)) (enc:=p_) (k:=.u64) (L' := (NY (jo (gr s.im ((cE s.live i).u) (d,(fS s.im ((cE s.live i).u)).2.eraseIdx b)) ((cE s.live i).v)) D (cE s.live i) ub fb nb s (some s.mb) (cO s.live i (fun _=>(⟨0,0,0,0,0,0,0⟩:Lv))) g C)) 4 rfl rfl rfl yz ym be rfl rfl ?_
     intro bf ad
     obtain⟨bg,bh,bi⟩:=((x.mem (cE s.live i).v).2 ⟨(F.mem (cE s.live i).v).2 ⟨i,hi,.inr rfl⟩,fun e=>absurd e.symm bk⟩)
     refine cH ad 8 ?_
     refine cl (MA s.tb s.ab s.t bf (yg ad 6 rfl) (cE s.live i).v bg bh bi) ?_
     rintro _ bP ⟨U,rfl,ae,ht⟩
     have af:=yt 6 ad ht
     have aH:nk (vG s i d b) s.t (IK s i d b) U (cE s.live i).v i:=nk.drop (x.keys F.keys) (x.nd F.nd _) az bd ae.1 ae.2.1
     refine fK af 7 ?_
     refine tN (iF (fM af 15 ?_))
     refine iS 7 af (fun bQ ag=>?_)
     refine fK ag 4 ?_
     refine o5 (v:=(wU (cE s.live i))) (v' := Zc) HY (oI (cs:=(oM (cE s.live i))) rfl wm rfl o7 rfl (mL ag (i:=7) (o:=0) (vs:=(oM (cE s.live i))) rfl rfl)) (qm rfl) ?_
     have aI:=ye [2,3,4,0,5,6,1,7] ag
     have a4:=(j6 aI (i:=5) rfl:U.ok)
     have ar:=F.rem hi S bb a4 x aH (lv2:=s.lv) (ls:=cO s.live i (fun _=>(⟨0,0,0,0,0,0,0⟩:Lv))) rfl
     exact⟨(⟨s.jx,s.tb,s.ab,s.mb,s.lv,s.last,g,U,cO s.live i (fun _=>(⟨0,0,0,0,0,0,0⟩:Lv)),(IK s i d b)⟩:fR),rfl,⟨ar.2,rfl,aH.zL (TW.Kp.refl _) ae.2.2.2.2⟩,yj (yn (p:=fR.ok fb nb (⟨s.jx,s.tb,s.ab,s.mb,s.lv,s.last,g,U,cO s.live i (fun _=>(⟨0,0,0,0,0,0,0⟩:Lv)),(IK s i d b)⟩:fR)) (yd [_,_,_,_,_,_] _ aI) ar.1) za⟩
 . have bj:(qI s i).2.eraseIdx b=[]:=by have T:=@ax;simp only[gi,zm]at T;exact wo o_
   have bl:=ye [1,2,3,4,5,6,7,8] E
   refine cH E 13 ?_
   refine DC (a:=(cE s.live i).u) (mm:=s.im) (enc:=p_) (k:=.u64) (L' := (NY (jo s.im ((cE s.live i).u)) D (cE s.live i) ub fb nb s (some s.mb) (cO s.live i (fun _=>(⟨0,0,0,0,0,0,0⟩:Lv))) g C)) 4 rfl rfl rfl yz ym bl rfl rfl ?_
   intro bm ah
   obtain⟨bn,bo,bp⟩:=((F.mem (cE s.live i).u).2 ⟨i,hi,.inl rfl⟩)
   refine cH ah 8 ?_
   refine cl (MA s.tb s.ab s.t bm (yg ah 6 rfl) (cE s.live i).u bn bo bp) ?_
   rintro _ bq ⟨z,rfl,V,ht⟩
   have W:=yt 6 ah ht
   have B:nk s.im s.t (vF s i) z (cE s.live i).u i:=nk.drop F.keys (F.nd _) aq bj V.1 V.2.1
   refine fK W 7 ?_
   refine tN (iF (fM W 13 ?_))
   refine mO (i:=1) rfl rfl rfl y8 ym rfl jm d_ rfl ?_
   have P:=AF ((cE s.live i).v) W
   refine cH W 10 ?_
   refine qK (a:=(cE s.live i).v) (mm:=(vF s i)) (enc:=p_) (k:=.u64) 5 rfl rfl rfl yz ym kF rfl P rfl (kq (v:=((p7 s i).1)) rfl rfl (cH P 5 ?_))
   refine mv (v:=((p7 s i).1)) rfl rfl ?_
   have br:=((B.get (cE s.live i).v i).2 ⟨(F.inc (cE s.live i).v i).2 ⟨hi,.inr rfl⟩,fun e=>absurd e.symm bk⟩)
   obtain⟨q,aJ,aK,bs⟩:=Ks br (B.nd F.nd _)
   have bt:q<(gi (p7 s i).2).length:=(zp.1 aK).1
   have aL:(gi (p7 s i).2).length<=1000000:=by rw[gi,zm];exact kS (inc_le F B _) d_
   refine cH P 1 ?_
   refine ig P (Kw ((p7 s i).1) (gi (p7 s i).2) (i:Int) q bq (yA P (i:=0) rfl (Lh (by rw[gi,zm]at aL;exact fun j hj=>Ku F (fun _ h=>((B.get _ _).1 h).1) hj))).any aL aK bs) fun bu Q=>cH Q 6 ?_
   refine gz rfl (ot o_) (cH Q 4 ?_)
   refine mv (v:=((p7 s i).1)) rfl rfl (cH Q 2 ?_)
   refine gL (e:=((q+1:Nat):Int)) rfl iX (cl (JR ((p7 s i).1) (gi (p7 s i).2) bu q (yg Q 0 rfl) bt) ?_)
   rintro I bR ht
   have bX:=yt 0 Q ht
   rw[Lg]at bX
   have J:=bX
   refine cH J 7 ?_
   refine iA (m:=(gi ((p7 s i).2.eraseIdx q)).length) 0 rfl rfl yc J rfl ?_
   by_cases aM:(((gi ((p7 s i).2.eraseIdx q)).length:Nat):Int)>0
   . have bw:(p7 s i).2.eraseIdx q≠[]:=by intro e9;have T:=@aM;rw[e9]at T;simp[gi]at T
     refine cH J 12 ?_
     refine rq (a:=(cE s.live i).v) (c:=(I,(p7 s i).2.eraseIdx q)) (mm:=(vF s i)) (enc:=p_) (k:=.u64) (L' := [iD .i64 I 3 (gi ((p7 s i).2.eraseIdx q)),j4 3 (Bn s i),blk D 43 (oM (cE s.live i)),blk ub 174 (rI fb nb s (some s.mb)),cL Lv.cells s.lv 43 7 (cO s.live i (fun _=>(⟨0,0,0,0,0,0,0⟩:Lv))),gP s.mb .u64 p_ (Fx s i I q),(AW.R s.jx g),(Bg s z),blk C 43 pK]) 5 rfl rfl rfl rfl yz ym J rfl rfl ?_
     intro bS aN
     have aO:=AK aN
     have aP:nk (vF s i) z (Fx s i I q) z (cE s.live i).v i:=nk.keep (B.nd F.nd _) aJ bw
     refine fK aN 10 ?_
     refine tN (iF (fM aO 15 ?_))
     refine iS 7 aO (fun bT ai=>?_)
     refine fK ai 4 ?_
     refine o5 (v:=(wU (cE s.live i))) (v' := Zc) HY (oI (cs:=(oM (cE s.live i))) rfl wm rfl o7 rfl (mL ai (i:=7) (o:=0) (vs:=(oM (cE s.live i))) rfl rfl)) (qm rfl) ?_
     have aQ:=ye [2,3,4,0,5,6,1,7] ai
     have a4:=(j6 aQ (i:=5) rfl:z.ok)
     have ar:=F.rem hi S bb a4 B aP (lv2:=s.lv) (ls:=cO s.live i (fun _=>(⟨0,0,0,0,0,0,0⟩:Lv))) rfl
     exact⟨(⟨s.jx,s.tb,s.ab,s.mb,s.lv,s.last,g,z,cO s.live i (fun _=>(⟨0,0,0,0,0,0,0⟩:Lv)),(Fx s i I q)⟩:fR),rfl,⟨ar.2,rfl,aP.zL V.2.2.2.2 (TW.Kp.refl _)⟩,yj (yn (p:=fR.ok fb nb (⟨s.jx,s.tb,s.ab,s.mb,s.lv,s.last,g,z,cO s.live i (fun _=>(⟨0,0,0,0,0,0,0⟩:Lv)),(Fx s i I q)⟩:fR)) (yd [_,_,_,_,_,_] _ aQ) ar.1) za⟩
   . have bx:(p7 s i).2.eraseIdx q=[]:=by have T:=@aM;simp only[gi,zm]at T;exact wo o_
     have bz:=ye [1,2,3,4,5,6,7,8] J
     refine cH J 13 ?_
     refine DC (a:=(cE s.live i).v) (mm:=(vF s i)) (enc:=p_) (k:=.u64) (L' := [j4 3 (Bn s i),blk D 43 (oM (cE s.live i)),blk ub 174 (rI fb nb s (some s.mb)),cL Lv.cells s.lv 43 7 (cO s.live i (fun _=>(⟨0,0,0,0,0,0,0⟩:Lv))),gP s.mb .u64 p_ (Bn s i),(AW.R s.jx g),(Bg s z),blk C 43 pK]) 4 rfl rfl rfl yz ym bz rfl rfl ?_
     intro bA aj
     obtain⟨bB,bC,bD⟩:=((B.mem (cE s.live i).v).2 ⟨(F.mem (cE s.live i).v).2 ⟨i,hi,.inr rfl⟩,fun e=>absurd e.symm bk⟩)
     refine cH aj 8 ?_
     refine cl (MA s.tb s.ab z bA (yg aj 6 rfl) (cE s.live i).v bB bC bD) ?_
     rintro _ bU ⟨X,rfl,ak,ht⟩
     have al:=yt 6 aj ht
     have aR:nk (vF s i) z (Bn s i) X (cE s.live i).v i:=nk.drop (B.keys F.keys) (B.nd F.nd _) aJ bx ak.1 ak.2.1
     refine fK al 7 ?_
     refine tN (iF (fM al 15 ?_))
     refine iS 7 al (fun bV am=>?_)
     refine fK am 4 ?_
     refine o5 (v:=(wU (cE s.live i))) (v' := Zc) HY (oI (cs:=(oM (cE s.live i))) rfl wm rfl o7 rfl (mL am (i:=7) (o:=0) (vs:=(oM (cE s.live i))) rfl rfl)) (qm rfl) ?_
     have aS:=ye [2,3,4,0,5,6,1,7] am
     have a4:=(j6 aS (i:=5) rfl:X.ok)
     have ar:=F.rem hi S bb a4 B aR (lv2:=s.lv) (ls:=cO s.live i (fun _=>(⟨0,0,0,0,0,0,0⟩:Lv))) rfl
     exact⟨(⟨s.jx,s.tb,s.ab,s.mb,s.lv,s.last,g,X,cO s.live i (fun _=>(⟨0,0,0,0,0,0,0⟩:Lv)),(Bn s i)⟩:fR),rfl,⟨ar.2,rfl,aR.zL V.2.2.2.2 ak.2.2.2.2⟩,yj (yn (p:=fR.ok fb nb (⟨s.jx,s.tb,s.ab,s.mb,s.lv,s.last,g,X,cO s.live i (fun _=>(⟨0,0,0,0,0,0,0⟩:Lv)),(Bn s i)⟩:fR)) (yd [_,_,_,_,_,_] _ aS) ar.1) za⟩
theorem ag3(hv:fb<=4096)(H:nb<=16384) :
 CR ya 145 #[(Za fb),(Za nb),Z6] w (fun r w' => ∃ (ub:Nat) (s:fR),r = .tuple (Z1 ub)/\((∀ y,¬ s.has y)/\s.last=0)/\fP (fN []) w w' (fR.R fb nb ub s)):=by
 refine iE func145 10 fun F=>?_
 refine gz rfl (kT o_) (cH F 2 ?_)
 refine gz rfl (ow o_) (cH F 3 ?_)
 refine gz rfl (kT o_) (cH F 3 ?_)
 refine gz rfl (ow o_) (cH F 13 ?_)
 refine cl (Vh nb w o_) ?_
 rintro _ o ⟨a,f,rfl,q,ht⟩
 have h:=(y9 F ht)
 refine cH h 20 ?_
 refine cl (agN fb o o_) ?_
 rintro _ z ⟨b,d,e,rfl,j,ht⟩
 have k:=(y9 h ht)
 refine cH k 24 ?_
 refine mkV p_ .u64 rfl rfl k (fun c A B C t=>iL (pvs:=[(0,(Za fb)),(1,(Za nb)),(2,Z6),(3,(Zb a)),(4,(Zb b)),(6,(.map (some c)))]) (v:=.agg #[(Za fb),(Za nb),Z6,(Zb a),(Zb b),Zh,(.map (some c))]) rfl rfl (i6 [(0,(Zd fb)),(1,(Zd nb)),(2,Dh),(3,(Ze a)),(4,(Ze b)),(6,[(.map (some c))])] Ui adt rfl oh rfl) (gN t (fun g l D E m=>?_)))
 refine jk m 5 (Zb g) Zc ?_
 have u:=nU m 43 7
 have x:St _ [j4 3 [],cL Lv.cells Zh 43 7 ([]),blk g 174 (VH fb nb a b (some c)),gP c .u64 p_ ([]),(TW.R b d e),(AW.R a f)] l:=St.J3 u
 have n:=ye [2,1,3,0,5,4] x
 have I:=(j6 n (i:=5) rfl:e.ok)
 have G:=fR.uX q I j.1 j.2.1 H hv a b d c
 exact⟨g,(⟨a,b,d,c,.slice none 0 0,0,f,e,[],[]⟩:fR),rfl,⟨G.2,rfl⟩,uu (yn (p:=fR.ok fb nb (⟨a,b,d,c,.slice none 0 0,0,f,e,[],[]⟩:fR)) (yd [_,_,_,_,_,_] _ n) G.1) s_⟩
theorem afl(g:(Bm fb nb m ed).holds w)(f:(blk nb 388 (xs.flatMap Nd.cells)).holds w)(hm:xs.length=m)(hb:m<=1000001)(e:fT xs)(i:Nat)(hi:i<m) :
 CK ya 341 (Zk fb i) w (.tuple (qG ((jV xs i).1:Int) ((jV xs i).2))):=by
 have h:=e.up i o_
 refine iE func341 23 fun d=>?_
 by_cases a:((cE xs i).up:Int)=0
 . refine jk d 12 Zc Zp ?_
   exact⟨by simp only[jV];(repeat' split)<;>(first|rfl|omega),d.gf s_⟩
 . refine cH d 14 ?_
   refine jC (o' := ((cE xs i).up)*9+0) (i:=((cE xs i).up:Int)) rfl rfl rfl yi jA o_ o_ (fZ d 6 ?_)
   refine qn 3 (iF (fM d 14 ?_))
   refine mO (i:=0) rfl rfl rfl yq yf rfl fU d_ rfl (cH d 8 ?_)
   by_cases b:((cE xs ((cE xs i).up)).k0:Int)=(i:Int)
   . refine jk d 17 Zc Zi ?_
     exact⟨by simp only[jV];(repeat' split)<;>(first|rfl|omega),d.gf s_⟩
   . refine fK d 11 ?_
     refine tN (iF (fM d 14 ?_))
     refine mO (i:=1) rfl rfl rfl yq yf rfl fU d_ rfl (cH d 8 ?_)
     by_cases c:((cE xs ((cE xs i).up)).k1:Int)=(i:Int)
     . refine jk d 17 qY Zi ?_
       exact⟨by simp only[jV];(repeat' split)<;>(first|rfl|omega),d.gf s_⟩
     . refine fK d 11 ?_
       refine tN (iF (jh d 19 ?_))
       refine kC (v:=Zc) (v' := Zp) results341 rfl rfl ?_
       exact⟨by simp only[jV];(repeat' split)<;>(first|rfl|omega),d.gf s_⟩
theorem FG(k:(Bm fb nb m ed).holds w)(h:(blk nb 388 (xs.flatMap Nd.cells)).holds w)(hm:xs.length=m)(hb:m<=1000001)(g:fT xs)(i j:Nat)(hi:i<m)(l:j<m) :
 CK ya 325 (Zv fb i j) w (.bool (mj xs i j)):=by
 refine gj func325 ?_
 have f:=k9 w
 refine ny f 31 fun b a=>?_
 by_cases c:((cE xs i).key:Int)<((cE xs j).key:Int)
 . refine gm a 15 Zi ?_
   exact⟨F5 ((decide_eq_true o_).symm),a.gf s_⟩
 . refine cH a 4 ?_
   by_cases d:((cE xs i).key:Int)=((cE xs j).key:Int)
   . refine cH a 4 ?_
     by_cases e:(i:Int)<(j:Int)
     . refine gm a 7 Zi ?_
       exact⟨F5 ((decide_eq_true o_).symm),a.gf s_⟩
     . refine gm a 7 Zp ?_
       exact⟨F5 ((decide_eq_false o_).symm),a.gf s_⟩
   . refine gm a 11 Zp ?_
     exact⟨F5 ((decide_eq_false o_).symm),a.gf s_⟩
theorem sY(n:Own (Zl fb nb m ed xs) w)(hm:xs.length=m)(hb:m<=1000001)(q:fT xs)(i k:Nat)(hi:i<m)(hk:k<m) :
 CR ya 359 #[(Zb fb),(Za i),Zc,(Za k)] w (fun r w' => r = .tuple #[]/\fP (Zl fb nb m ed xs) w w' (Zl fb nb m ed (jj xs i 0 k))):=by
 refine ja func359 n 11 fun p=>?_
 refine ia (o:=i*9+0) (o' := i*9+0) (i:=0) rfl rfl rfl yq fU d_ rfl (kD (f:=(fun x:Nd=>{ x with k0:=k })) 1 p (fun c a d=>?_))
 refine cH a 5 ?_
 by_cases e:(k:Int)=0
 . refine jU a 5 ?_
   have l:jj xs i 0 k=cO xs i (fun x=>{ x with k0:=k }):=by simp only[jj,reduceIte,EI];(repeat' split)<;>(first|rfl|omega)
   have j:=a
   rw[<-l]at j
   exact⟨rfl,iM (yd [_,_] [] j)⟩
 . refine cH a 13 ?_
   refine kD (f:=(fun x:Nd=>{ x with up:=i })) 1 a (fun g b h=>?_)
   refine jU b 1 ?_
   have l:jj xs i 0 k=cO (cO xs i (fun x=>{ x with k0:=k })) k (fun x=>{ x with up:=i }):=by simp only[jj,reduceIte,EI];(repeat' split)<;>(first|rfl|omega)
   have j:=b
   rw[<-l]at j
   exact⟨rfl,iM (yd [_,_] [] j)⟩
theorem sZ(n:Own (Zl fb nb m ed xs) w)(hm:xs.length=m)(hb:m<=1000001)(q:fT xs)(i k:Nat)(hi:i<m)(hk:k<m) :
 CR ya 359 #[(Zb fb),(Za i),qY,(Za k)] w (fun r w' => r = .tuple #[]/\fP (Zl fb nb m ed xs) w w' (Zl fb nb m ed (jj xs i 1 k))):=by
 refine ja func359 n 11 fun p=>?_
 refine ia (o:=i*9+0) (o' := i*9+1) (i:=1) rfl rfl rfl yq fU d_ rfl (kD (f:=(fun x:Nd=>{ x with k1:=k })) 1 p (fun c a d=>?_))
 refine cH a 5 ?_
 by_cases e:(k:Int)=0
 . refine jU a 5 ?_
   have l:jj xs i 1 k=cO xs i (fun x=>{ x with k1:=k }):=by simp only[jj,reduceIte,EI];(repeat' split)<;>(first|rfl|omega)
   have j:=a
   rw[<-l]at j
   exact⟨rfl,iM (yd [_,_] [] j)⟩
 . refine cH a 13 ?_
   refine kD (f:=(fun x:Nd=>{ x with up:=i })) 1 a (fun g b h=>?_)
   refine jU b 1 ?_
   have l:jj xs i 1 k=cO (cO xs i (fun x=>{ x with k1:=k })) k (fun x=>{ x with up:=i }):=by simp only[jj,reduceIte,EI];(repeat' split)<;>(first|rfl|omega)
   have j:=b
   rw[<-l]at j
   exact⟨rfl,iM (yd [_,_] [] j)⟩
theorem LG(hO:Own (Zl fb nb m ed xs) w)(hm:xs.length=m)(hb:m<=1000001)(hI:fT xs)(i:Nat)(hi:i<m) :
 CR ya 343 (Zk fb i) w (fun r w' => r = .tuple #[]/\fP (Zl fb nb m ed xs) w w' (Zl fb nb m ed (kL xs i))):=by
 refine ja func343 hO 7 fun aq=>?_
 refine jC (o' := i*9+0) (i:=(i:Int)) rfl rfl rfl yi jA om o_ (fZ aq 13 ?_)
 cases P:((cE xs i).flip:Bool)
 . skip
   refine jh aq 3 ?_
   refine xH Et ?_
   have T:kL xs i=xs:=by simp only[kL];(repeat' split)<;>(first|rfl|omega|simp_all)
   have F:=aq
   rw[<-T]at F
   exact⟨rfl,iM (yd [_,_] [] F)⟩
 . skip
   refine fM aq 8 ?_
   refine kD (f:=(fun x:Nd=>{ x with flip:=false })) 1 aq (fun Q C R=>?_)
   have n:fT (cO xs i (fun x=>{ x with flip:=false })):=fT.iV hI om (fun x a b c d e=>⟨a,b,c,d,e⟩)
   obtain⟨p,y,S,n,C⟩:=iO (m:=m) n C
   refine gh C 9 fun U D=>?_
   refine ia (o:=i*9+0) (o' := i*9+1) (i:=1) rfl rfl rfl yq fU d_ rfl (cH D 4 ?_)
   refine ia (o:=i*9+0) (o' := i*9+0) (i:=0) rfl rfl rfl yq fU d_ rfl (cH D 3 ?_)
   refine ia (o:=i*9+0) (o' := i*9+0) (i:=0) rfl rfl rfl yq fU d_ rfl (kD (f:=(fun x:Nd=>{ x with k0:=((cE p i).k1) })) 1 D (fun V z W=>?_))
   have E:fT (cO p i (fun x=>{ x with k0:=((cE p i).k1) })):=fT.iV n om (fun x a b c d e=>⟨(o9 (n.k1 i om)),b,c,d,e⟩)
   obtain⟨K,A,X,E,z⟩:=iO (m:=m) E z
   refine cH z 2 ?_
   refine ia (o:=i*9+0) (o' := i*9+1) (i:=1) rfl rfl rfl yq fU d_ rfl (kD (f:=(fun x:Nd=>{ x with k1:=((cE p i).k0) })) 1 z (fun Y j Z=>?_))
   have h:fT (cO K i (fun x=>{ x with k1:=((cE p i).k0) })):=fT.iV E om (fun x a b c d e=>⟨a,(o9 (n.k0 i om)),c,d,e⟩)
   obtain⟨g,B,aa,h,j⟩:=iO (m:=m) h j
   refine fZ j 12 ?_
   refine qn 3 (iF (fM j 13 ?_))
   refine mO (i:=0) rfl rfl rfl yq yf rfl fU d_ rfl (cH j 6 ?_)
   by_cases ab:((cE g i).k0:Int)=0
   . refine fK j 11 ?_
     refine tN (iF (fM j 13 ?_))
     refine mO (i:=1) rfl rfl rfl yq yf rfl fU d_ rfl (cH j 6 ?_)
     by_cases ac:((cE g i).k1:Int)=0
     . refine fK j 11 ?_
       refine tN (iF (jh j 11 ?_))
       refine lZ Et ?_
       have T:kL xs i=g:=by subst B;subst A;subst y;simp only[kL];(repeat' split)<;>(first|rfl|omega|simp_all)
       have F:=j
       rw[<-T]at F
       exact⟨rfl,iM (yd [_,_] [] F)⟩
     . refine gh j 15 fun ad q=>?_
       refine jC (o' := ((cE g i).k1)*9+0) (i:=((cE g i).k1:Int)) rfl rfl rfl yi jA (o9 (show ((cE g i).k1)<(g).length from(o9 (h.k1 i om)))) o_ (cH q 1 ?_)
       refine ld rfl rfl nH rfl (nI q (i:=1) rfl f_ (o9 (h.k1 i om)) rfl) (cH q 1 ?_)
       refine jC (o' := ((cE g i).k1)*9+0) (i:=((cE g i).k1:Int)) rfl rfl rfl yi jA (o9 (show ((cE g i).k1)<(g).length from(o9 (h.k1 i om)))) o_ (cH q 1 ?_)
       refine kD (f:=(fun x:Nd=>{ x with flip := !((cE g ((cE g i).k1)).flip) })) 1 q (fun ae s af=>?_) (hk:=(o9 (h.k1 i om)))
       have H:fT (cO g ((cE g i).k1) (fun x=>{ x with flip := !((cE g ((cE g i).k1)).flip) })):=fT.iV h (o9 (h.k1 i om)) (fun x a b c d e=>⟨a,b,c,d,e⟩)
       obtain⟨L,M,ag,H,s⟩:=iO (m:=m) H s
       refine fK s 7 ?_
       refine tN (iF (jh s 11 ?_))
       refine lZ Et ?_
       have T:kL xs i=L:=by subst M;subst B;subst A;subst y;simp only[kL];(repeat' split)<;>(first|rfl|omega|simp_all)
       have F:=s
       rw[<-T]at F
       exact⟨rfl,iM (yd [_,_] [] F)⟩
   . refine gh j 15 fun ah t=>?_
     refine jC (o' := ((cE g i).k0)*9+0) (i:=((cE g i).k0:Int)) rfl rfl rfl yi jA (o9 (show ((cE g i).k0)<(g).length from(o9 (h.k0 i om)))) o_ (cH t 1 ?_)
     refine ld rfl rfl nH rfl (nI t (i:=1) rfl f_ (o9 (h.k0 i om)) rfl) (cH t 1 ?_)
     refine jC (o' := ((cE g i).k0)*9+0) (i:=((cE g i).k0:Int)) rfl rfl rfl yi jA (o9 (show ((cE g i).k0)<(g).length from(o9 (h.k0 i om)))) o_ (cH t 1 ?_)
     refine kD (f:=(fun x:Nd=>{ x with flip := !((cE g ((cE g i).k0)).flip) })) 1 t (fun ai k aj=>?_) (hk:=(o9 (h.k0 i om)))
     have G:fT (cO g ((cE g i).k0) (fun x=>{ x with flip := !((cE g ((cE g i).k0)).flip) })):=fT.iV h (o9 (h.k0 i om)) (fun x a b c d e=>⟨a,b,c,d,e⟩)
     obtain⟨l,I,ak,G,k⟩:=iO (m:=m) G k
     refine fK k 7 ?_
     refine tN (iF (fM k 13 ?_))
     refine mO (i:=1) rfl rfl rfl yq yf rfl fU d_ rfl (cH k 6 ?_)
     by_cases al:((cE g i).k1:Int)=0
     . refine fK k 11 ?_
       refine tN (iF (jh k 11 ?_))
       refine lZ Et ?_
       have T:kL xs i=l:=by subst I;subst B;subst A;subst y;simp only[kL];(repeat' split)<;>(first|rfl|omega|simp_all)
       have F:=k
       rw[<-T]at F
       exact⟨rfl,iM (yd [_,_] [] F)⟩
     . refine gh k 15 fun am u=>?_
       refine jC (o' := ((cE g i).k1)*9+0) (i:=((cE g i).k1:Int)) rfl rfl rfl yi jA (o9 (show ((cE g i).k1)<(l).length from(o9 (h.k1 i om)))) o_ (cH u 1 ?_)
       refine ld rfl rfl nH rfl (nI u (i:=1) rfl f_ (o9 (h.k1 i om)) rfl) (cH u 1 ?_)
       refine jC (o' := ((cE g i).k1)*9+0) (i:=((cE g i).k1:Int)) rfl rfl rfl yi jA (o9 (show ((cE g i).k1)<(l).length from(o9 (h.k1 i om)))) o_ (cH u 1 ?_)
       refine kD (f:=(fun x:Nd=>{ x with flip := !((cE l ((cE g i).k1)).flip) })) 1 u (fun an v ao=>?_) (hk:=(o9 (h.k1 i om)))
       have J:fT (cO l ((cE g i).k1) (fun x=>{ x with flip := !((cE l ((cE g i).k1)).flip) })):=fT.iV G (o9 (h.k1 i om)) (fun x a b c d e=>⟨a,b,c,d,e⟩)
       obtain⟨N,O,ap,J,v⟩:=iO (m:=m) J v
       refine fK v 7 ?_
       refine tN (iF (jh v 11 ?_))
       refine lZ Et ?_
       have T:kL xs i=N:=by subst O;subst I;subst B;subst A;subst y;simp only[kL];(repeat' split)<;>(first|rfl|omega|simp_all)
       have F:=v
       rw[<-T]at F
       exact⟨rfl,iM (yd [_,_] [] F)⟩
theorem mQ(hO:Own (Zl fb nb m ed xs) w)(hm:xs.length=m)(hb:m<=1000001)(hI:fT xs)(i:Nat)(hi:i<m) :
 CR ya 275 (Zk fb i) w (fun r w' => r = .tuple #[]/\fP (Zl fb nb m ed xs) w w' (Zl fb nb m ed (iU xs i))):=by
 refine ja func275 hO 7 fun aL=>?_
 refine jC (o' := i*9+0) (i:=(i:Int)) rfl rfl rfl yi jA om o_ (cH aL 13 ?_)
 refine gL (e:=(IntKind.i64.wrap (1+(cE xs i).i7))) rfl rfl (cH aL 2 ?_)
 refine kD (f:=(fun x:Nd=>{ x with size:=1 })) 1 aL (fun aW az aX=>?_)
 have aH:fT (cO xs i (fun x=>{ x with size:=1 })):=fT.iV hI om (fun x a b c d e=>⟨a,b,c,d,e⟩)
 refine cH az 2 ?_
 refine kD (f:=(fun x:Nd=>{ x with first:=i })) 1 az (fun aY aA aZ=>?_)
 have aI:fT (cO (cO xs i (fun x=>{ x with size:=1 })) i (fun x=>{ x with first:=i })):=fT.iV aH om (fun x a b c d e=>⟨a,b,c,om,e⟩)
 refine cH aA 2 ?_
 refine kD (f:=(fun x:Nd=>{ x with total:=(IntKind.i64.wrap (1+(cE xs i).i7)) })) 1 aA (fun a0 aB a1=>?_)
 have aJ:fT (cO (cO (cO xs i (fun x=>{ x with size:=1 })) i (fun x=>{ x with first:=i })) i (fun x=>{ x with total:=(IntKind.i64.wrap (1+(cE xs i).i7)) })):=fT.iV aI om (fun x a b c d e=>⟨a,b,c,d,e⟩)
 obtain⟨y,hy⟩:∃ y,y=cO xs i (fun x=>{ x with size:=1,first:=i,total:=IntKind.i64.wrap (1+x.i7) }):=⟨_,rfl⟩
 have ar:=aB
 have F:=aJ
 refine cH aB 4 ?_
 rw[ad8 o_,<-hy]at ar F
 have aO:y.length=m:=by rw[hy,gd,hm]
 refine fZ ar 8 ?_
 refine qn 3 (iF (fM ar 13 ?_))
 refine mO (i:=0) rfl rfl rfl yq yf rfl fU d_ rfl (cH ar 7 ?_)
 by_cases a2:((cE y i).k0:Int)=0
 . refine fK ar 12 ?_
   refine tN (iF (fM ar 13 ?_))
   refine mO (i:=1) rfl rfl rfl yq yf rfl fU d_ rfl (cH ar 7 ?_)
   by_cases a3:((cE y i).k1:Int)=0
   . refine fK ar 12 ?_
     refine tN (iF (jh ar 11 ?_))
     refine lZ wh ?_
     have e9:iU xs i=y:=by rw[vW hy o_];first|(rw[ve (k:=(cE y i).k0) o_];rw[ve (k:=(cE y i).k1) o_])
     have T:=ar
     rw[<-e9]at T
     exact⟨rfl,iM (yd [_,_] [] T)⟩
   . refine cH ar 13 ?_
     refine jC (o' := ((cE y i).k1)*9+0) (i:=((cE y i).k1:Int)) rfl rfl rfl yi jA (o9 (show ((cE y i).k1)<(y).length from(o9 (F.k1 i om)))) o_ (gh ar 12 fun a4 V=>?_)
     refine ld rfl rfl yf rfl (nI V (i:=1) rfl f_ (o9 (F.k1 i om)) rfl) (gL (e:=(IntKind.i64.wrap ((cE y i).size+(cE y ((cE y i).k1)).size))) rfl rfl (cH V 2 ?_))
     refine kD (f:=(fun x:Nd=>{ x with size:=(IntKind.i64.wrap ((cE y i).size+(cE y ((cE y i).k1)).size)) })) 1 V (fun a5 W a6=>?_)
     have X:fT (cO y i (fun x=>{ x with size:=(IntKind.i64.wrap ((cE y i).size+(cE y ((cE y i).k1)).size)) })):=fT.iV F om (fun x a b c d e=>⟨a,b,c,d,e⟩)
     obtain⟨B,R,a7,X,W⟩:=iO (m:=m) X W
     refine gh W 11 fun a8 Y=>?_
     refine ld rfl rfl yf rfl (nI Y (i:=1) rfl f_ (o9 (F.k1 i om)) rfl) (gL (e:=(IntKind.i64.wrap ((cE B i).total+(cE B ((cE y i).k1)).total))) rfl rfl (cH Y 2 ?_))
     refine kD (f:=(fun x:Nd=>{ x with total:=(IntKind.i64.wrap ((cE B i).total+(cE B ((cE y i).k1)).total)) })) 1 Y (fun a9 Z ba=>?_)
     have C:fT (cO B i (fun x=>{ x with total:=(IntKind.i64.wrap ((cE B i).total+(cE B ((cE y i).k1)).total)) })):=fT.iV X om (fun x a b c d e=>⟨a,b,c,d,e⟩)
     obtain⟨j,S,bb,C,Z⟩:=iO (m:=m) C Z
     refine gh Z 8 fun aK J=>?_
     refine ld rfl rfl yf rfl (nI J (i:=1) rfl f_ (o9 (F.k1 i om)) rfl) (cH J 4 ?_)
     refine ig J (FG fb nb m ed j aK (J.at (i:=0) rfl) (J.at (i:=1) rfl) oa hb C ((cE j ((cE y i).k1)).first) ((cE j i).first) (o9 (C.first ((cE y i).k1) (o9 (F.k1 i om)))) (o9 (C.first i om))) fun bc u=>fZ u 2 ?_
     cases U:(mj j ((cE j ((cE y i).k1)).first) ((cE j i).first):Bool)
     . skip
       refine jh u 8 ?_
       refine tN (iF (jh u 11 ?_))
       refine lZ wh ?_
       have e9:iU xs i=j:=by rw[vW hy o_];first|(rw[ve (k:=(cE y i).k0) o_];rw[u7 (k:=(cE y i).k1) o_ R S U])|(rw[u7 (k:=(cE y i).k0) o_ R S U];rw[ve (k:=(cE y i).k1) o_])
       have T:=u
       rw[<-e9]at T
       exact⟨rfl,iM (yd [_,_] [] T)⟩
     . skip
       refine fM u 6 ?_
       refine ld rfl rfl yf rfl (nI u (i:=1) rfl f_ (o9 (F.k1 i om)) rfl) (cH u 2 ?_)
       refine kD (f:=(fun x:Nd=>{ x with first:=((cE j ((cE y i).k1)).first) })) 1 u (fun bd K be=>?_)
       have aC:fT (cO j i (fun x=>{ x with first:=((cE j ((cE y i).k1)).first) })):=fT.iV C om (fun x a b c d e=>⟨a,b,c,(o9 (C.first ((cE y i).k1) (o9 (F.k1 i om)))),e⟩)
       obtain⟨aM,aD,bf,aC,K⟩:=iO (m:=m) aC K
       refine fK K 7 ?_
       refine tN (iF (jh K 11 ?_))
       refine lZ wh ?_
       have e9:iU xs i=aM:=by rw[vW hy o_];first|(rw[ve (k:=(cE y i).k0) o_];rw[u9 (k:=(cE y i).k1) o_ R S U aD])|(rw[u9 (k:=(cE y i).k0) o_ R S U aD];rw[ve (k:=(cE y i).k1) o_])
       have T:=K
       rw[<-e9]at T
       exact⟨rfl,iM (yd [_,_] [] T)⟩
 . refine cH ar 13 ?_
   refine jC (o' := ((cE y i).k0)*9+0) (i:=((cE y i).k0:Int)) rfl rfl rfl yi jA (o9 (show ((cE y i).k0)<(y).length from(o9 (F.k0 i om)))) o_ (gh ar 12 fun bg aa=>?_)
   refine ld rfl rfl yf rfl (nI aa (i:=1) rfl f_ (o9 (F.k0 i om)) rfl) (gL (e:=(IntKind.i64.wrap ((cE y i).size+(cE y ((cE y i).k0)).size))) rfl rfl (cH aa 2 ?_))
   refine kD (f:=(fun x:Nd=>{ x with size:=(IntKind.i64.wrap ((cE y i).size+(cE y ((cE y i).k0)).size)) })) 1 aa (fun bh ab bi=>?_)
   have ac:fT (cO y i (fun x=>{ x with size:=(IntKind.i64.wrap ((cE y i).size+(cE y ((cE y i).k0)).size)) })):=fT.iV F om (fun x a b c d e=>⟨a,b,c,d,e⟩)
   obtain⟨D,l,bj,ac,ab⟩:=iO (m:=m) ac ab
   refine gh ab 11 fun bl ad=>?_
   refine ld rfl rfl yf rfl (nI ad (i:=1) rfl f_ (o9 (F.k0 i om)) rfl) (gL (e:=(IntKind.i64.wrap ((cE D i).total+(cE D ((cE y i).k0)).total))) rfl rfl (cH ad 2 ?_))
   refine kD (f:=(fun x:Nd=>{ x with total:=(IntKind.i64.wrap ((cE D i).total+(cE D ((cE y i).k0)).total)) })) 1 ad (fun bm ae bn=>?_)
   have v:fT (cO D i (fun x=>{ x with total:=(IntKind.i64.wrap ((cE D i).total+(cE D ((cE y i).k0)).total)) })):=fT.iV ac om (fun x a b c d e=>⟨a,b,c,d,e⟩)
   obtain⟨g,n,bo,v,ae⟩:=iO (m:=m) v ae
   refine gh ae 8 fun aN L=>?_
   refine ld rfl rfl yf rfl (nI L (i:=1) rfl f_ (o9 (F.k0 i om)) rfl) (cH L 4 ?_)
   refine ig L (FG fb nb m ed g aN (L.at (i:=0) rfl) (L.at (i:=1) rfl) oa hb v ((cE g ((cE y i).k0)).first) ((cE g i).first) (o9 (v.first ((cE y i).k0) (o9 (F.k0 i om)))) (o9 (v.first i om))) fun bp h=>fZ h 2 ?_
   cases o:(mj g ((cE g ((cE y i).k0)).first) ((cE g i).first):Bool)
   . skip
     refine jh h 8 ?_
     refine tN (iF (fM h 13 ?_))
     refine mO (i:=1) rfl rfl rfl yq yf rfl fU d_ rfl (cH h 7 ?_)
     by_cases bq:((cE y i).k1:Int)=0
     . refine fK h 12 ?_
       refine tN (iF (jh h 11 ?_))
       refine lZ wh ?_
       have e9:iU xs i=g:=by rw[vW hy o_];first|(rw[ve (k:=(cE y i).k0) o_];rw[u7 (k:=(cE y i).k1) o_ l n o])|(rw[u7 (k:=(cE y i).k0) o_ l n o];rw[ve (k:=(cE y i).k1) o_])
       have T:=h
       rw[<-e9]at T
       exact⟨rfl,iM (yd [_,_] [] T)⟩
     . refine cH h 13 ?_
       refine jC (o' := ((cE y i).k1)*9+0) (i:=((cE y i).k1:Int)) rfl rfl rfl yi jA (o9 (show ((cE y i).k1)<(g).length from(o9 (F.k1 i om)))) o_ (gh h 12 fun br af=>?_)
       refine ld rfl rfl yf rfl (nI af (i:=1) rfl f_ (o9 (F.k1 i om)) rfl) (gL (e:=(IntKind.i64.wrap ((cE g i).size+(cE g ((cE y i).k1)).size))) rfl rfl (cH af 2 ?_))
       refine kD (f:=(fun x:Nd=>{ x with size:=(IntKind.i64.wrap ((cE g i).size+(cE g ((cE y i).k1)).size)) })) 1 af (fun bs ag bt=>?_)
       have ah:fT (cO g i (fun x=>{ x with size:=(IntKind.i64.wrap ((cE g i).size+(cE g ((cE y i).k1)).size)) })):=fT.iV v om (fun x a b c d e=>⟨a,b,c,d,e⟩)
       obtain⟨E,ai,bu,ah,ag⟩:=iO (m:=m) ah ag
       refine gh ag 11 fun bv aj=>?_
       refine ld rfl rfl yf rfl (nI aj (i:=1) rfl f_ (o9 (F.k1 i om)) rfl) (gL (e:=(IntKind.i64.wrap ((cE E i).total+(cE E ((cE y i).k1)).total))) rfl rfl (cH aj 2 ?_))
       refine kD (f:=(fun x:Nd=>{ x with total:=(IntKind.i64.wrap ((cE E i).total+(cE E ((cE y i).k1)).total)) })) 1 aj (fun bw ak bx=>?_)
       have G:fT (cO E i (fun x=>{ x with total:=(IntKind.i64.wrap ((cE E i).total+(cE E ((cE y i).k1)).total)) })):=fT.iV ah om (fun x a b c d e=>⟨a,b,c,d,e⟩)
       obtain⟨p,al,bz,G,ak⟩:=iO (m:=m) G ak
       refine gh ak 8 fun aP M=>?_
       refine ld rfl rfl yf rfl (nI M (i:=1) rfl f_ (o9 (F.k1 i om)) rfl) (cH M 4 ?_)
       refine ig M (FG fb nb m ed p aP (M.at (i:=0) rfl) (M.at (i:=1) rfl) oa hb G ((cE p ((cE y i).k1)).first) ((cE p i).first) (o9 (G.first ((cE y i).k1) (o9 (F.k1 i om)))) (o9 (G.first i om))) fun bA z=>fZ z 2 ?_
       cases am:(mj p ((cE p ((cE y i).k1)).first) ((cE p i).first):Bool)
       . skip
         refine jh z 8 ?_
         refine tN (iF (jh z 11 ?_))
         refine lZ wh ?_
         have e9:iU xs i=p:=by rw[vW hy o_];first|(rw[u7 (k:=(cE y i).k0) o_ l n o];rw[u7 (k:=(cE y i).k1) o_ ai al am])
         have T:=z
         rw[<-e9]at T
         exact⟨rfl,iM (yd [_,_] [] T)⟩
       . skip
         refine fM z 6 ?_
         refine ld rfl rfl yf rfl (nI z (i:=1) rfl f_ (o9 (F.k1 i om)) rfl) (cH z 2 ?_)
         refine kD (f:=(fun x:Nd=>{ x with first:=((cE p ((cE y i).k1)).first) })) 1 z (fun bB N bC=>?_)
         have aE:fT (cO p i (fun x=>{ x with first:=((cE p ((cE y i).k1)).first) })):=fT.iV G om (fun x a b c d e=>⟨a,b,c,(o9 (G.first ((cE y i).k1) (o9 (F.k1 i om)))),e⟩)
         obtain⟨aR,aF,bD,aE,N⟩:=iO (m:=m) aE N
         refine fK N 7 ?_
         refine tN (iF (jh N 11 ?_))
         refine lZ wh ?_
         have e9:iU xs i=aR:=by rw[vW hy o_];first|(rw[u7 (k:=(cE y i).k0) o_ l n o];rw[u9 (k:=(cE y i).k1) o_ ai al am aF])|(rw[u9 (k:=(cE y i).k0) o_ l n o ai];rw[u7 (k:=(cE y i).k1) o_ al aF am])
         have T:=N
         rw[<-e9]at T
         exact⟨rfl,iM (yd [_,_] [] T)⟩
   . skip
     refine fM h 6 ?_
     refine ld rfl rfl yf rfl (nI h (i:=1) rfl f_ (o9 (F.k0 i om)) rfl) (cH h 2 ?_)
     refine kD (f:=(fun x:Nd=>{ x with first:=((cE g ((cE y i).k0)).first) })) 1 h (fun bE q bF=>?_)
     have an:fT (cO g i (fun x=>{ x with first:=((cE g ((cE y i).k0)).first) })):=fT.iV v om (fun x a b c d e=>⟨a,b,c,(o9 (v.first ((cE y i).k0) (o9 (F.k0 i om)))),e⟩)
     obtain⟨t,O,bG,an,q⟩:=iO (m:=m) an q
     refine fK q 7 ?_
     refine tN (iF (fM q 13 ?_))
     refine mO (i:=1) rfl rfl rfl yq yf rfl fU d_ rfl (cH q 7 ?_)
     by_cases bH:((cE y i).k1:Int)=0
     . refine fK q 12 ?_
       refine tN (iF (jh q 11 ?_))
       refine lZ wh ?_
       have e9:iU xs i=t:=by rw[vW hy o_];first|(rw[ve (k:=(cE y i).k0) o_];rw[u9 (k:=(cE y i).k1) o_ l n o O])|(rw[u9 (k:=(cE y i).k0) o_ l n o O];rw[ve (k:=(cE y i).k1) o_])
       have T:=q
       rw[<-e9]at T
       exact⟨rfl,iM (yd [_,_] [] T)⟩
     . refine cH q 13 ?_
       refine jC (o' := ((cE y i).k1)*9+0) (i:=((cE y i).k1:Int)) rfl rfl rfl yi jA (o9 (show ((cE y i).k1)<(t).length from(o9 (F.k1 i om)))) o_ (gh q 12 fun bI ao=>?_)
       refine ld rfl rfl yf rfl (nI ao (i:=1) rfl f_ (o9 (F.k1 i om)) rfl) (gL (e:=(IntKind.i64.wrap ((cE t i).size+(cE t ((cE y i).k1)).size))) rfl rfl (cH ao 2 ?_))
       refine kD (f:=(fun x:Nd=>{ x with size:=(IntKind.i64.wrap ((cE t i).size+(cE t ((cE y i).k1)).size)) })) 1 ao (fun bJ ap bK=>?_)
       have aq:fT (cO t i (fun x=>{ x with size:=(IntKind.i64.wrap ((cE t i).size+(cE t ((cE y i).k1)).size)) })):=fT.iV an om (fun x a b c d e=>⟨a,b,c,d,e⟩)
       obtain⟨H,au,bL,aq,ap⟩:=iO (m:=m) aq ap
       refine gh ap 11 fun bM av=>?_
       refine ld rfl rfl yf rfl (nI av (i:=1) rfl f_ (o9 (F.k1 i om)) rfl) (gL (e:=(IntKind.i64.wrap ((cE H i).total+(cE H ((cE y i).k1)).total))) rfl rfl (cH av 2 ?_))
       refine kD (f:=(fun x:Nd=>{ x with total:=(IntKind.i64.wrap ((cE H i).total+(cE H ((cE y i).k1)).total)) })) 1 av (fun bN aw bO=>?_)
       have I:fT (cO H i (fun x=>{ x with total:=(IntKind.i64.wrap ((cE H i).total+(cE H ((cE y i).k1)).total)) })):=fT.iV aq om (fun x a b c d e=>⟨a,b,c,d,e⟩)
       obtain⟨s,ax,bP,I,aw⟩:=iO (m:=m) I aw
       refine gh aw 8 fun aS P=>?_
       refine ld rfl rfl yf rfl (nI P (i:=1) rfl f_ (o9 (F.k1 i om)) rfl) (cH P 4 ?_)
       refine ig P (FG fb nb m ed s aS (P.at (i:=0) rfl) (P.at (i:=1) rfl) oa hb I ((cE s ((cE y i).k1)).first) ((cE s i).first) (o9 (I.first ((cE y i).k1) (o9 (F.k1 i om)))) (o9 (I.first i om))) fun bQ A=>fZ A 2 ?_
       cases ay:(mj s ((cE s ((cE y i).k1)).first) ((cE s i).first):Bool)
       . skip
         refine jh A 8 ?_
         refine tN (iF (jh A 11 ?_))
         refine lZ wh ?_
         have e9:iU xs i=s:=by rw[vW hy o_];first|(rw[u7 (k:=(cE y i).k0) o_ l n o];rw[u9 (k:=(cE y i).k1) o_ O au ay ax])|(rw[u9 (k:=(cE y i).k0) o_ l n o O];rw[u7 (k:=(cE y i).k1) o_ au ax ay])
         have T:=A
         rw[<-e9]at T
         exact⟨rfl,iM (yd [_,_] [] T)⟩
       . skip
         refine fM A 6 ?_
         refine ld rfl rfl yf rfl (nI A (i:=1) rfl f_ (o9 (F.k1 i om)) rfl) (cH A 2 ?_)
         refine kD (f:=(fun x:Nd=>{ x with first:=((cE s ((cE y i).k1)).first) })) 1 A (fun bR Q bS=>?_)
         have aG:fT (cO s i (fun x=>{ x with first:=((cE s ((cE y i).k1)).first) })):=fT.iV I om (fun x a b c d e=>⟨a,b,c,(o9 (I.first ((cE y i).k1) (o9 (F.k1 i om)))),e⟩)
         obtain⟨aU,aV,bT,aG,Q⟩:=iO (m:=m) aG Q
         refine fK Q 7 ?_
         refine tN (iF (jh Q 11 ?_))
         refine lZ wh ?_
         have e9:iU xs i=aU:=by rw[vW hy o_];first|(rw[u9 (k:=(cE y i).k0) o_ l n o O];rw[u9 (k:=(cE y i).k1) o_ au ax ay aV])
         have T:=Q
         rw[<-e9]at T
         exact⟨rfl,iM (yd [_,_] [] T)⟩
theorem nT(c:(Bm fb nb m ed).holds w)(b:(blk nb 388 (xs.flatMap Nd.cells)).holds w)(hm:xs.length=m)(hb:m<=1000001)(a:fT xs)(i:Nat)(hi:i<m){o:Bool}(d:jV xs i=(s,o)):CR ya 341 (Zk fb i) w (fun r w' => r = .tuple (qG s o)/\gE [] w w'):=by
 have h:=afl fb nb m ed xs w c b hm hb a i hi
 rw[d]at h
 exact h
theorem Ad(hO:Own (Zl fb nb m ed xs) w)(hm:xs.length=m)(hb:m<=1000001)(F:fT xs)(i:Nat)(hi:i<m) :
 CR ya 344 (Zk fb i) w (fun r w' => r = .tuple #[]/\fP (Zl fb nb m ed xs) w w' (Zl fb nb m ed (iR xs i))):=by
 have bk:=F.up i o_
 have bl:=F.up _ bk
 refine ja func344 hO 7 fun bi=>?_
 refine jC (o' := i*9+0) (i:=(i:Int)) rfl rfl rfl yi jA om o_ (cH bi 12 ?_)
 refine jC (o' := ((cE xs i).up)*9+0) (i:=((cE xs i).up:Int)) rfl rfl rfl yi jA (o9 (show ((cE xs i).up)<(xs).length from(o9 (F.up i om)))) o_ (cH bi 1 ?_)
 refine ld rfl rfl yf rfl (nI bi (i:=1) rfl f_ (o9 (F.up i om)) rfl) ?_
 obtain⟨cN,eE⟩:∃ q,D2 xs i=q:=⟨_,rfl⟩
 refine cH bi 7 ?_
 rcases cN with J|K|L
 . skip
   refine ig bi (nT fb nb m ed xs w (bi.at (i:=0) rfl) (bi.at (i:=1) rfl) oa hb F i o_ J) fun a9 g=>?_
   obtain⟨cP,eF⟩:∃ q,D2 xs ((cE xs i).up)=q:=⟨_,rfl⟩
   refine cH g 12 ?_
   rcases cP with bf|bg|bh
   . skip
     refine ig g (nT fb nb m ed xs a9 (g.at (i:=0) rfl) (g.at (i:=1) rfl) oa hb F ((cE xs i).up) (o9 (F.up i om)) bf) fun eG ba=>cH ba 20 ?_
     refine jC (o' := i*9+0) (i:=(i:Int)) rfl rfl rfl yi jA om o_ (cH ba 1 ?_)
     refine kD (f:=(fun x:Nd=>{ x with up:=((cE xs ((cE xs i).up)).up) })) 1 ba (fun cR k eH=>?_)
     have l:fT (cO xs i (fun x=>{ x with up:=((cE xs ((cE xs i).up)).up) })):=fT.iV F om (fun x a b c d e=>⟨a,b,(o9 (F.up ((cE xs i).up) (o9 (F.up i om)))),d,e⟩)
     obtain⟨M,cS,eI,l,k⟩:=iO (m:=m) l k
     refine cH k 14 ?_
     refine jC (o' := i*9+0) (i:=(i:Int)) rfl rfl rfl yi jA om o_ (cH k 1 ?_)
     refine ia (o:=i*9+0) (o' := i*9+1) (i:=1) rfl rfl rfl yq fU d_ rfl (cH k 1 ?_)
     refine gy (sY fb nb m ed M cR · oa hb l ((cE xs i).up) ((cE M i).k1) (o9 (F.up i om)) (o9 (l.k1 i om))) k fun cT N=>?_
     have O:fT (jj M ((cE xs i).up) 0 ((cE M i).k1)):=fT.lD l (o9 (F.up i om)) (o9 (l.k1 i om))
     obtain⟨bj,cU,eJ,O,N⟩:=iO (m:=m) O N
     refine cH N 9 ?_
     refine gy (sZ fb nb m ed bj cT · oa hb O i ((cE xs i).up) o_ (o9 (F.up i om))) N fun cV P=>?_
     have Q:fT (jj bj i 1 ((cE xs i).up)):=fT.lD O o_ (o9 (F.up i om))
     obtain⟨bm,cW,eK,Q,P⟩:=iO (m:=m) Q P
     refine cH P 6 ?_
     refine gy (mQ fb nb m ed bm cV · oa hb Q ((cE xs i).up) (o9 (F.up i om))) P fun cX R=>?_
     have S:fT (iU bm ((cE xs i).up)):=fT.mJ Q (o9 (F.up i om))
     obtain⟨bo,cY,eL,S,R⟩:=iO (m:=m) S R
     refine cH R 5 ?_
     refine gy (mQ fb nb m ed bo cX · oa hb S i o_) R fun eM U=>?_
     have bq:fT (iU bo i):=fT.mJ S o_
     obtain⟨cZ,c0,eN,bq,U⟩:=iO (m:=m) bq U
     refine jU U 1 ?_
     have e9:iR xs i=cZ:=by subst c0;subst cY;subst cW;subst cU;subst cS;simp only[iR,J,bf];rfl
     have T:=U
     rw[<-e9]at T
     exact⟨rfl,iM (yd [_,_] [] T)⟩
   . skip
     refine ig g (nT fb nb m ed xs a9 (g.at (i:=0) rfl) (g.at (i:=1) rfl) oa hb F ((cE xs i).up) (o9 (F.up i om)) bg) fun c1 br=>cH br 18 ?_
     refine gy (sY fb nb m ed xs c1 · oa hb F ((cE xs ((cE xs i).up)).up) i (o9 (F.up ((cE xs i).up) (o9 (F.up i om)))) o_) br fun c3 n=>?_
     have p:fT (jj xs ((cE xs ((cE xs i).up)).up) 0 i):=fT.lD F (o9 (F.up ((cE xs i).up) (o9 (F.up i om)))) o_
     obtain⟨V,c4,eO,p,n⟩:=iO (m:=m) p n
     refine cH n 14 ?_
     refine jC (o' := i*9+0) (i:=(i:Int)) rfl rfl rfl yi jA om o_ (cH n 1 ?_)
     refine ia (o:=i*9+0) (o' := i*9+1) (i:=1) rfl rfl rfl yq fU d_ rfl (cH n 1 ?_)
     refine gy (sY fb nb m ed V c3 · oa hb p ((cE xs i).up) ((cE V i).k1) (o9 (F.up i om)) (o9 (p.k1 i om))) n fun c5 W=>?_
     have X:fT (jj V ((cE xs i).up) 0 ((cE V i).k1)):=fT.lD p (o9 (F.up i om)) (o9 (p.k1 i om))
     obtain⟨bu,c6,eP,X,W⟩:=iO (m:=m) X W
     refine cH W 9 ?_
     refine gy (sZ fb nb m ed bu c5 · oa hb X i ((cE xs i).up) o_ (o9 (F.up i om))) W fun c7 Y=>?_
     have Z:fT (jj bu i 1 ((cE xs i).up)):=fT.lD X o_ (o9 (F.up i om))
     obtain⟨bw,c8,eQ,Z,Y⟩:=iO (m:=m) Z Y
     refine cH Y 6 ?_
     refine gy (mQ fb nb m ed bw c7 · oa hb Z ((cE xs i).up) (o9 (F.up i om))) Y fun c9 aa=>?_
     have ab:fT (iU bw ((cE xs i).up)):=fT.mJ Z (o9 (F.up i om))
     obtain⟨bz,da,eR,ab,aa⟩:=iO (m:=m) ab aa
     refine cH aa 5 ?_
     refine gy (mQ fb nb m ed bz c9 · oa hb ab i o_) aa fun eS ac=>?_
     have bB:fT (iU bz i):=fT.mJ ab o_
     obtain⟨db,dc,eU,bB,ac⟩:=iO (m:=m) bB ac
     refine jU ac 1 ?_
     have e9:iR xs i=db:=by subst dc;subst da;subst c8;subst c6;subst c4;simp only[iR,J,bg];rfl
     have T:=ac
     rw[<-e9]at T
     exact⟨rfl,iM (yd [_,_] [] T)⟩
   . skip
     refine ig g (nT fb nb m ed xs a9 (g.at (i:=0) rfl) (g.at (i:=1) rfl) oa hb F ((cE xs i).up) (o9 (F.up i om)) bh) fun dd bC=>cH bC 18 ?_
     refine gy (sZ fb nb m ed xs dd · oa hb F ((cE xs ((cE xs i).up)).up) i (o9 (F.up ((cE xs i).up) (o9 (F.up i om)))) o_) bC fun df s=>?_
     have t:fT (jj xs ((cE xs ((cE xs i).up)).up) 1 i):=fT.lD F (o9 (F.up ((cE xs i).up) (o9 (F.up i om)))) o_
     obtain⟨ad,dg,eV,t,s⟩:=iO (m:=m) t s
     refine cH s 14 ?_
     refine jC (o' := i*9+0) (i:=(i:Int)) rfl rfl rfl yi jA om o_ (cH s 1 ?_)
     refine ia (o:=i*9+0) (o' := i*9+1) (i:=1) rfl rfl rfl yq fU d_ rfl (cH s 1 ?_)
     refine gy (sY fb nb m ed ad df · oa hb t ((cE xs i).up) ((cE ad i).k1) (o9 (F.up i om)) (o9 (t.k1 i om))) s fun dh ae=>?_
     have af:fT (jj ad ((cE xs i).up) 0 ((cE ad i).k1)):=fT.lD t (o9 (F.up i om)) (o9 (t.k1 i om))
     obtain⟨bF,di,eW,af,ae⟩:=iO (m:=m) af ae
     refine cH ae 9 ?_
     refine gy (sZ fb nb m ed bF dh · oa hb af i ((cE xs i).up) o_ (o9 (F.up i om))) ae fun dj ag=>?_
     have ah:fT (jj bF i 1 ((cE xs i).up)):=fT.lD af o_ (o9 (F.up i om))
     obtain⟨bH,dk,eX,ah,ag⟩:=iO (m:=m) ah ag
     refine cH ag 6 ?_
     refine gy (mQ fb nb m ed bH dj · oa hb ah ((cE xs i).up) (o9 (F.up i om))) ag fun dl ai=>?_
     have aj:fT (iU bH ((cE xs i).up)):=fT.mJ ah (o9 (F.up i om))
     obtain⟨bJ,dm,eY,aj,ai⟩:=iO (m:=m) aj ai
     refine cH ai 5 ?_
     refine gy (mQ fb nb m ed bJ dl · oa hb aj i o_) ai fun eZ ak=>?_
     have bL:fT (iU bJ i):=fT.mJ aj o_
     obtain⟨dn,dp,e0,bL,ak⟩:=iO (m:=m) bL ak
     refine jU ak 1 ?_
     have e9:iR xs i=dn:=by subst dp;subst dm;subst dk;subst di;subst dg;simp only[iR,J,bh];rfl
     have T:=ak
     rw[<-e9]at T
     exact⟨rfl,iM (yd [_,_] [] T)⟩
 . skip
   refine ig bi (nT fb nb m ed xs w (bi.at (i:=0) rfl) (bi.at (i:=1) rfl) oa hb F i o_ K) fun bb h=>?_
   obtain⟨dr,e1⟩:∃ q,D2 xs ((cE xs i).up)=q:=⟨_,rfl⟩
   refine cH h 12 ?_
   rcases dr with bM|bN|bO
   . skip
     refine ig h (nT fb nb m ed xs bb (h.at (i:=0) rfl) (h.at (i:=1) rfl) oa hb F ((cE xs i).up) (o9 (F.up i om)) bM) fun e2 bc=>cH bc 20 ?_
     refine jC (o' := i*9+0) (i:=(i:Int)) rfl rfl rfl yi jA om o_ (cH bc 1 ?_)
     refine kD (f:=(fun x:Nd=>{ x with up:=((cE xs ((cE xs i).up)).up) })) 1 bc (fun dt u e3=>?_)
     have v:fT (cO xs i (fun x=>{ x with up:=((cE xs ((cE xs i).up)).up) })):=fT.iV F om (fun x a b c d e=>⟨a,b,(o9 (F.up ((cE xs i).up) (o9 (F.up i om)))),d,e⟩)
     obtain⟨al,du,e4,v,u⟩:=iO (m:=m) v u
     refine cH u 14 ?_
     refine jC (o' := i*9+0) (i:=(i:Int)) rfl rfl rfl yi jA om o_ (cH u 1 ?_)
     refine ia (o:=i*9+0) (o' := i*9+1) (i:=1) rfl rfl rfl yq fU d_ rfl (cH u 1 ?_)
     refine gy (sY fb nb m ed al dt · oa hb v ((cE xs i).up) ((cE al i).k1) (o9 (F.up i om)) (o9 (v.k1 i om))) u fun dv am=>?_
     have an:fT (jj al ((cE xs i).up) 0 ((cE al i).k1)):=fT.lD v (o9 (F.up i om)) (o9 (v.k1 i om))
     obtain⟨bQ,dw,e5,an,am⟩:=iO (m:=m) an am
     refine cH am 9 ?_
     refine gy (sZ fb nb m ed bQ dv · oa hb an i ((cE xs i).up) o_ (o9 (F.up i om))) am fun dx ao=>?_
     have ap:fT (jj bQ i 1 ((cE xs i).up)):=fT.lD an o_ (o9 (F.up i om))
     obtain⟨bS,dy,e6,ap,ao⟩:=iO (m:=m) ap ao
     refine cH ao 6 ?_
     refine gy (mQ fb nb m ed bS dx · oa hb ap ((cE xs i).up) (o9 (F.up i om))) ao fun dz aq=>?_
     have ar:fT (iU bS ((cE xs i).up)):=fT.mJ ap (o9 (F.up i om))
     obtain⟨bU,dA,e7,ar,aq⟩:=iO (m:=m) ar aq
     refine cH aq 5 ?_
     refine gy (mQ fb nb m ed bU dz · oa hb ar i o_) aq fun e8 au=>?_
     have bW:fT (iU bU i):=fT.mJ ar o_
     obtain⟨dB,dC,fa,bW,au⟩:=iO (m:=m) bW au
     refine jU au 1 ?_
     have e9:iR xs i=dB:=by subst dC;subst dA;subst dy;subst dw;subst du;simp only[iR,K,bM];rfl
     have T:=au
     rw[<-e9]at T
     exact⟨rfl,iM (yd [_,_] [] T)⟩
   . skip
     refine ig h (nT fb nb m ed xs bb (h.at (i:=0) rfl) (h.at (i:=1) rfl) oa hb F ((cE xs i).up) (o9 (F.up i om)) bN) fun dD bX=>cH bX 18 ?_
     refine gy (sY fb nb m ed xs dD · oa hb F ((cE xs ((cE xs i).up)).up) i (o9 (F.up ((cE xs i).up) (o9 (F.up i om)))) o_) bX fun dF y=>?_
     have z:fT (jj xs ((cE xs ((cE xs i).up)).up) 0 i):=fT.lD F (o9 (F.up ((cE xs i).up) (o9 (F.up i om)))) o_
     obtain⟨av,dG,fc,z,y⟩:=iO (m:=m) z y
     refine cH y 14 ?_
     refine jC (o' := i*9+0) (i:=(i:Int)) rfl rfl rfl yi jA om o_ (cH y 1 ?_)
     refine ia (o:=i*9+0) (o' := i*9+1) (i:=1) rfl rfl rfl yq fU d_ rfl (cH y 1 ?_)
     refine gy (sY fb nb m ed av dF · oa hb z ((cE xs i).up) ((cE av i).k1) (o9 (F.up i om)) (o9 (z.k1 i om))) y fun dH aw=>?_
     have ax:fT (jj av ((cE xs i).up) 0 ((cE av i).k1)):=fT.lD z (o9 (F.up i om)) (o9 (z.k1 i om))
     obtain⟨b0,dI,fd,ax,aw⟩:=iO (m:=m) ax aw
     refine cH aw 9 ?_
     refine gy (sZ fb nb m ed b0 dH · oa hb ax i ((cE xs i).up) o_ (o9 (F.up i om))) aw fun dJ ay=>?_
     have az:fT (jj b0 i 1 ((cE xs i).up)):=fT.lD ax o_ (o9 (F.up i om))
     obtain⟨b2,dK,fe,az,ay⟩:=iO (m:=m) az ay
     refine cH ay 6 ?_
     refine gy (mQ fb nb m ed b2 dJ · oa hb az ((cE xs i).up) (o9 (F.up i om))) ay fun dL aA=>?_
     have aB:fT (iU b2 ((cE xs i).up)):=fT.mJ az (o9 (F.up i om))
     obtain⟨b4,dM,ff,aB,aA⟩:=iO (m:=m) aB aA
     refine cH aA 5 ?_
     refine gy (mQ fb nb m ed b4 dL · oa hb aB i o_) aA fun fg aC=>?_
     have b6:fT (iU b4 i):=fT.mJ aB o_
     obtain⟨dN,dO,fh,b6,aC⟩:=iO (m:=m) b6 aC
     refine jU aC 1 ?_
     have e9:iR xs i=dN:=by subst dO;subst dM;subst dK;subst dI;subst dG;simp only[iR,K,bN];rfl
     have T:=aC
     rw[<-e9]at T
     exact⟨rfl,iM (yd [_,_] [] T)⟩
   . skip
     refine ig h (nT fb nb m ed xs bb (h.at (i:=0) rfl) (h.at (i:=1) rfl) oa hb F ((cE xs i).up) (o9 (F.up i om)) bO) fun dP b7=>cH b7 18 ?_
     refine gy (sZ fb nb m ed xs dP · oa hb F ((cE xs ((cE xs i).up)).up) i (o9 (F.up ((cE xs i).up) (o9 (F.up i om)))) o_) b7 fun dR A=>?_
     have B:fT (jj xs ((cE xs ((cE xs i).up)).up) 1 i):=fT.lD F (o9 (F.up ((cE xs i).up) (o9 (F.up i om)))) o_
     obtain⟨aD,dS,fi,B,A⟩:=iO (m:=m) B A
     refine cH A 14 ?_
     refine jC (o' := i*9+0) (i:=(i:Int)) rfl rfl rfl yi jA om o_ (cH A 1 ?_)
     refine ia (o:=i*9+0) (o' := i*9+1) (i:=1) rfl rfl rfl yq fU d_ rfl (cH A 1 ?_)
     refine gy (sY fb nb m ed aD dR · oa hb B ((cE xs i).up) ((cE aD i).k1) (o9 (F.up i om)) (o9 (B.k1 i om))) A fun dT aE=>?_
     have aF:fT (jj aD ((cE xs i).up) 0 ((cE aD i).k1)):=fT.lD B (o9 (F.up i om)) (o9 (B.k1 i om))
     obtain⟨ca,dU,fj,aF,aE⟩:=iO (m:=m) aF aE
     refine cH aE 9 ?_
     refine gy (sZ fb nb m ed ca dT · oa hb aF i ((cE xs i).up) o_ (o9 (F.up i om))) aE fun dV aG=>?_
     have aH:fT (jj ca i 1 ((cE xs i).up)):=fT.lD aF o_ (o9 (F.up i om))
     obtain⟨cc,dW,fk,aH,aG⟩:=iO (m:=m) aH aG
     refine cH aG 6 ?_
     refine gy (mQ fb nb m ed cc dV · oa hb aH ((cE xs i).up) (o9 (F.up i om))) aG fun dX aI=>?_
     have aJ:fT (iU cc ((cE xs i).up)):=fT.mJ aH (o9 (F.up i om))
     obtain⟨ce,dY,fl,aJ,aI⟩:=iO (m:=m) aJ aI
     refine cH aI 5 ?_
     refine gy (mQ fb nb m ed ce dX · oa hb aJ i o_) aI fun fm aK=>?_
     have cg:fT (iU ce i):=fT.mJ aJ o_
     obtain⟨dZ,d0,fn,cg,aK⟩:=iO (m:=m) cg aK
     refine jU aK 1 ?_
     have e9:iR xs i=dZ:=by subst d0;subst dY;subst dW;subst dU;subst dS;simp only[iR,K,bO];rfl
     have T:=aK
     rw[<-e9]at T
     exact⟨rfl,iM (yd [_,_] [] T)⟩
 . skip
   refine ig bi (nT fb nb m ed xs w (bi.at (i:=0) rfl) (bi.at (i:=1) rfl) oa hb F i o_ L) fun bd j=>?_
   obtain⟨d2,fo⟩:∃ q,D2 xs ((cE xs i).up)=q:=⟨_,rfl⟩
   refine cH j 12 ?_
   rcases d2 with ch|ci|cj
   . skip
     refine ig j (nT fb nb m ed xs bd (j.at (i:=0) rfl) (j.at (i:=1) rfl) oa hb F ((cE xs i).up) (o9 (F.up i om)) ch) fun fp be=>cH be 20 ?_
     refine jC (o' := i*9+0) (i:=(i:Int)) rfl rfl rfl yi jA om o_ (cH be 1 ?_)
     refine kD (f:=(fun x:Nd=>{ x with up:=((cE xs ((cE xs i).up)).up) })) 1 be (fun d4 C fq=>?_)
     have D:fT (cO xs i (fun x=>{ x with up:=((cE xs ((cE xs i).up)).up) })):=fT.iV F om (fun x a b c d e=>⟨a,b,(o9 (F.up ((cE xs i).up) (o9 (F.up i om)))),d,e⟩)
     obtain⟨aL,d5,fr,D,C⟩:=iO (m:=m) D C
     refine cH C 14 ?_
     refine jC (o' := i*9+0) (i:=(i:Int)) rfl rfl rfl yi jA om o_ (cH C 1 ?_)
     refine ia (o:=i*9+0) (o' := i*9+0) (i:=0) rfl rfl rfl yq fU d_ rfl (cH C 1 ?_)
     refine gy (sZ fb nb m ed aL d4 · oa hb D ((cE xs i).up) ((cE aL i).k0) (o9 (F.up i om)) (o9 (D.k0 i om))) C fun d6 aM=>?_
     have aN:fT (jj aL ((cE xs i).up) 1 ((cE aL i).k0)):=fT.lD D (o9 (F.up i om)) (o9 (D.k0 i om))
     obtain⟨cm,d7,fs,aN,aM⟩:=iO (m:=m) aN aM
     refine cH aM 9 ?_
     refine gy (sY fb nb m ed cm d6 · oa hb aN i ((cE xs i).up) o_ (o9 (F.up i om))) aM fun d8 aO=>?_
     have aP:fT (jj cm i 0 ((cE xs i).up)):=fT.lD aN o_ (o9 (F.up i om))
     obtain⟨co,d9,ft,aP,aO⟩:=iO (m:=m) aP aO
     refine cH aO 6 ?_
     refine gy (mQ fb nb m ed co d8 · oa hb aP ((cE xs i).up) (o9 (F.up i om))) aO fun ea aQ=>?_
     have aR:fT (iU co ((cE xs i).up)):=fT.mJ aP (o9 (F.up i om))
     obtain⟨cq,eb,fu,aR,aQ⟩:=iO (m:=m) aR aQ
     refine cH aQ 5 ?_
     refine gy (mQ fb nb m ed cq ea · oa hb aR i o_) aQ fun fv aS=>?_
     have cs:fT (iU cq i):=fT.mJ aR o_
     obtain⟨ec,ee,fw,cs,aS⟩:=iO (m:=m) cs aS
     refine jU aS 1 ?_
     have e9:iR xs i=ec:=by subst ee;subst eb;subst d9;subst d7;subst d5;simp only[iR,L,ch];rfl
     have T:=aS
     rw[<-e9]at T
     exact⟨rfl,iM (yd [_,_] [] T)⟩
   . skip
     refine ig j (nT fb nb m ed xs bd (j.at (i:=0) rfl) (j.at (i:=1) rfl) oa hb F ((cE xs i).up) (o9 (F.up i om)) ci) fun ef ct=>cH ct 18 ?_
     refine gy (sY fb nb m ed xs ef · oa hb F ((cE xs ((cE xs i).up)).up) i (o9 (F.up ((cE xs i).up) (o9 (F.up i om)))) o_) ct fun eh E=>?_
     have G:fT (jj xs ((cE xs ((cE xs i).up)).up) 0 i):=fT.lD F (o9 (F.up ((cE xs i).up) (o9 (F.up i om)))) o_
     obtain⟨aT,ei,fx,G,E⟩:=iO (m:=m) G E
     refine cH E 14 ?_
     refine jC (o' := i*9+0) (i:=(i:Int)) rfl rfl rfl yi jA om o_ (cH E 1 ?_)
     refine ia (o:=i*9+0) (o' := i*9+0) (i:=0) rfl rfl rfl yq fU d_ rfl (cH E 1 ?_)
     refine gy (sZ fb nb m ed aT eh · oa hb G ((cE xs i).up) ((cE aT i).k0) (o9 (F.up i om)) (o9 (G.k0 i om))) E fun ej aU=>?_
     have aV:fT (jj aT ((cE xs i).up) 1 ((cE aT i).k0)):=fT.lD G (o9 (F.up i om)) (o9 (G.k0 i om))
     obtain⟨cw,ek,fy,aV,aU⟩:=iO (m:=m) aV aU
     refine cH aU 9 ?_
     refine gy (sY fb nb m ed cw ej · oa hb aV i ((cE xs i).up) o_ (o9 (F.up i om))) aU fun el aW=>?_
     have aX:fT (jj cw i 0 ((cE xs i).up)):=fT.lD aV o_ (o9 (F.up i om))
     obtain⟨cy,em,fz,aX,aW⟩:=iO (m:=m) aX aW
     refine cH aW 6 ?_
     refine gy (mQ fb nb m ed cy el · oa hb aX ((cE xs i).up) (o9 (F.up i om))) aW fun eo aY=>?_
     have aZ:fT (iU cy ((cE xs i).up)):=fT.mJ aX (o9 (F.up i om))
     obtain⟨cA,ep,fA,aZ,aY⟩:=iO (m:=m) aZ aY
     refine cH aY 5 ?_
     refine gy (mQ fb nb m ed cA eo · oa hb aZ i o_) aY fun fB a0=>?_
     have cC:fT (iU cA i):=fT.mJ aZ o_
     obtain⟨eq,er,fC,cC,a0⟩:=iO (m:=m) cC a0
     refine jU a0 1 ?_
     have e9:iR xs i=eq:=by subst er;subst ep;subst em;subst ek;subst ei;simp only[iR,L,ci];rfl
     have T:=a0
     rw[<-e9]at T
     exact⟨rfl,iM (yd [_,_] [] T)⟩
   . skip
     refine ig j (nT fb nb m ed xs bd (j.at (i:=0) rfl) (j.at (i:=1) rfl) oa hb F ((cE xs i).up) (o9 (F.up i om)) cj) fun es cD=>cH cD 18 ?_
     refine gy (sZ fb nb m ed xs es · oa hb F ((cE xs ((cE xs i).up)).up) i (o9 (F.up ((cE xs i).up) (o9 (F.up i om)))) o_) cD fun eu H=>?_
     have I:fT (jj xs ((cE xs ((cE xs i).up)).up) 1 i):=fT.lD F (o9 (F.up ((cE xs i).up) (o9 (F.up i om)))) o_
     obtain⟨a1,ev,fD,I,H⟩:=iO (m:=m) I H
     refine cH H 14 ?_
     refine jC (o' := i*9+0) (i:=(i:Int)) rfl rfl rfl yi jA om o_ (cH H 1 ?_)
     refine ia (o:=i*9+0) (o' := i*9+0) (i:=0) rfl rfl rfl yq fU d_ rfl (cH H 1 ?_)
     refine gy (sZ fb nb m ed a1 eu · oa hb I ((cE xs i).up) ((cE a1 i).k0) (o9 (F.up i om)) (o9 (I.k0 i om))) H fun ew a2=>?_
     have a3:fT (jj a1 ((cE xs i).up) 1 ((cE a1 i).k0)):=fT.lD I (o9 (F.up i om)) (o9 (I.k0 i om))
     obtain⟨cG,ex,fE,a3,a2⟩:=iO (m:=m) a3 a2
     refine cH a2 9 ?_
     refine gy (sY fb nb m ed cG ew · oa hb a3 i ((cE xs i).up) o_ (o9 (F.up i om))) a2 fun ey a4=>?_
     have a5:fT (jj cG i 0 ((cE xs i).up)):=fT.lD a3 o_ (o9 (F.up i om))
     obtain⟨cI,ez,fF,a5,a4⟩:=iO (m:=m) a5 a4
     refine cH a4 6 ?_
     refine gy (mQ fb nb m ed cI ey · oa hb a5 ((cE xs i).up) (o9 (F.up i om))) a4 fun eA a6=>?_
     have a7:fT (iU cI ((cE xs i).up)):=fT.mJ a5 (o9 (F.up i om))
     obtain⟨cK,eB,fG,a7,a6⟩:=iO (m:=m) a7 a6
     refine cH a6 5 ?_
     refine gy (mQ fb nb m ed cK eA · oa hb a7 i o_) a6 fun fH a8=>?_
     have cM:fT (iU cK i):=fT.mJ a7 o_
     obtain⟨eC,eD,fI,cM,a8⟩:=iO (m:=m) cM a8
     refine jU a8 1 ?_
     have e9:iR xs i=eC:=by subst eD;subst eB;subst ez;subst ex;subst ev;simp only[iR,L,cj];rfl
     have T:=a8
     rw[<-e9]at T
     exact⟨rfl,iM (yd [_,_] [] T)⟩
theorem Wf(h1:v.oneCell' = true) :
 CR ya 342 #[v] w (fun r w' => ∃ f,w.heap.size<=f/\r = .func (.func 358) #[] (Zg f)/\(blk f 37 [v]).holds w' /\ gE [] w w'):=by
 refine iE func342 2 fun g=>?_
 refine gN g (fun b d c e a=>?_) (hcs:=(cells_one h1))
 refine cH a 5 ?_
 refine kW (vf:=[]) (vc:=(Ze b)) rfl rfl rfl (fK a 4 ?_)
 refine gT (v:=(.func (.func 358) #[] (Zg b))) results342 rfl ?_
 exact⟨_,kS (g.size za) c,rfl,a.at (i:=0) rfl,a.gf s_⟩
theorem We(s:Nat->fJ)(l u:Nat)(v:Value)(xs:List Int)(ok:Nat->Prop)(w:World)(E:∀ (k:Nat) (x:Int) (bs:List (World×List Nat)) (L:List fJ) (w:World),k<xs.length->xs[xs.length-1-k]? = some x->St bs (s k :: L) w->YR ya l (Zm ((xs.length:Int)-1-(k:Int)) x) w (fun v w' => v = .bool true/\St bs (s (k+1) :: L) w'))(C:Own (s 0) w)(A:(blk u 37 [v]).holds w)(D:u∉(s 0).gq)(hv:Ints .i64 ok w v xs)(y:∀ b,ok b->b∉(s 0).gq)(G:xs.length<=1000000000000) :
 CR ya 358 (Da (.func (.yield l) #[] #[]) u) w (fun r w' => r = .tuple #[]/\fP (s 0) w w' (s xs.length)):=by
 have hv:=hv.old d_
 have y:∀ b,(ok b/\b<w.heap.size)->b∉(s 0).gq:=fun b hb=>y b hb.1
 refine gj func358 ?_
 have z:=yy C
 refine fM z 2 ?_
 refine ld rfl rfl yc rfl (Du A (o:=0) rfl) (jO (v:=v) rfl rfl yc hv (fZ z 5 ?_))
 refine lp (α:=Nat) (fun k=>[(0,(.func (.yield l) #[] #[])),(1,(Zb u)),(3,(Za ((xs.length:Int)-1-(k:Int))))]) (fun k w1=>St [(w,(s 0).gq)] [s k] w1/\k<=xs.length) (fun k=>xs.length-k) 0 oh (⟨z,o_⟩) ?_
 rintro k f g ⟨t,F⟩
 refine fM t 4 ?_
 by_cases h:((xs.length:Int)-1-(k:Int):Int)≥0
 . obtain⟨x,B⟩:=oT (show xs.length-1-k<xs.length by omega)
   refine cH t 12 ?_
   refine ld rfl rfl yc rfl (St.JC t (X:=(s 0).gq) s_ (Du A (o:=0) rfl) D) (cH t 1 ?_)
   refine DG (i:=(xs.length:Int)-1-(k:Int)) (el:=x) rfl rfl rfl yc fU (St.ints t (X:=(s 0).gq) s_ hv y) o_ (by rw[show ((xs.length:Int)-1-(k:Int)).toNat=xs.length-1-k by omega];exact B) ?_
   intro j m c d n
   have p:=d.i64
   refine ld rfl rfl yf rfl c (yl (vl:=(Zm ((xs.length:Int)-1-(k:Int)) x)) rfl rfl rfl (E k x _ _ _ o_ B t) ?_)
   rintro _ q ⟨rfl,a⟩
   refine cH a 9 ?_
   refine gL (e:=(xs.length:Int)-1-((k+1:Nat):Int)) rfl iX (fK a 2 ?_)
   exact gM (k+1) oh (⟨a,o_⟩) o1
 . refine jU t 8 ?_
   obtain rfl:k=xs.length:=by omega
   exact⟨rfl,yj (R:=s 0) t s_⟩
theorem TU(hO:Own (Zl fb nb m ed xs) w)(hm:xs.length=m)(hb:m<=1000001)(hI:fT xs)(i q:Nat)(T:Tr)(hR:gR xs T q)(hT:i∈T.mem)(hn:T.mem.Nodup)(a5:T.mem.length<=1000000)(hq:Out xs q T.mem) :
 CR ya 327 (Zk fb i) w (fun r w' => r = .tuple #[]/\∃ ys a' b', jY xs ys T [] (.nd a' i b') q/\(cE ys i).flip=false/\fT ys/\fP (Zl fb nb m ed xs) w w' (Zl fb nb m ed ys)):=by
 have bW:i<m:=by have h7:=hR.rm i hT;omega
 obtain⟨c,a,b,rfl⟩:=GI hT
 have a3:=At.start hR hn
 have bz:Out xs q (mw c (Tr.nd a i b).mem):=by rw[<-qM];exact hq
 have aO:=ac9 hR
 have bN:=ac8 (c:=c) (a:=a) (b:=b) (i:=i)
 have ah:=hI.mz aO
 have bG:=GN (m:=m) (fun j hj=>by have:=aO j hj;omega) hb
 refine uc (vs:=(uI fb i)) func327 rfl ntmps327 rfl ?_
 have bD:=(yy hO).unpack
 refine fM bD 2 ?_
 refine gN bD (fun e aj a7 a8 I=>?_)
 have ak:=nU I 3 1
 have al:=ak
 have am:=al
 refine fZ I 19 ?_
 refine lp (α:=Nat×Nat×Value) (fun(k,j,pv)=>[(1,(Za i)),(2,(Zb e)),(4,pv),(5,(Za j))]) (fun(k,j,pv) w1=>St [(w,(Zl fb nb m ed xs).gq)] [iD .i64 pv 3 (gi ((jE c i).take k)),blk e 208 (Ze fb),blk fb 391 (yV fb nb m ed),blk nb 388 (xs.flatMap Nd.cells)] w1/\(jE c i)[k]? = some j) (fun(k,j,pv)=>c.length+1-k) (0,i,Zh) oh (⟨am,rfl⟩) ?_
 rintro⟨k,j,pv⟩ a9 ba S
 have bJ:j<m:=by have h7:=aO j (zg S.2);omega
 refine fM S.1 5 ?_
 refine jB (vs:=(Zd j)) (cs:=(Zd j)) rfl rfl yc fU rfl (by simp[Value.cells]) rfl rfl rfl S.1 (fun an bb bc bd J=>wX (k:=.i64) (ys:=gi ((jE c i).take k)) (zs:=[(j:Int)]) (LL:=fun f=>[iD .i64 (Zu an) 3 ([(j:Int)]),iD .i64 f 3 ((gi ((jE c i).take k))++([(j:Int)])),blk e 208 (Ze fb),blk fb 391 (yV fb nb m ed),blk nb 388 (xs.flatMap Nd.cells)]) 1 rfl rfl rfl yc fU rfl J rfl (kG J (i:=0) rfl) (by simp only[gi,zm,zw,zb,zd];omega) (by simp only[gi,zm,zw,zb,zd];omega) f_ ?_)
 intro f t K be
 have ao:=ye [1,2,3,4] K
 have g:=ye [3,4,1,2] K
 obtain⟨ap,bf⟩:∃ q,D2 xs j=q:=⟨_,rfl⟩
 refine cH ao 8 ?_
 rcases ap with M|N|P
 . skip
   have bV:=Xm a3 bz S.2 M
   have bF:gi ((jE c i).take k)++[(j:Int)]=gi (jE c i):=by rw[Li S.2,AP (by rw[bN.1];omega)]
   refine ig g (nT fb nb m ed xs t (g.at (i:=0) rfl) (g.at (i:=1) rfl) oa hb hI j o_ M) fun aq u=>cH u 24 ?_
   refine cl (Wf f aq (yh u (i:=2) rfl)) ?_
   rintro _ au ⟨kb,bL,rfl,bK,bO⟩
   have Q:=St.OQ u bO bL bK
   have av:=ye [4,1,2,3,0] Q
   have aw:St [(w,(Zl fb nb m ed xs).gq)] (Of e fb nb m ed (mz xs (jE c i) 0) f (gi (jE c i)) kb) au:=by rw[S9];have h9:=av;rw[bF]at h9;exact h9
   refine fZ Q 3 ?_
   refine rf (α:=Nat) (ps:=[38,39]) (fi:=[]) (ca:=(Ze kb)) (fun z=>(Of e fb nb m ed (mz xs (jE c i) z) f (gi (jE c i)) kb)) (fun z=>z=(jE c i).length) aw rfl eN ?_ ?_
   . intro fn dd l wl rc bA bT
     have ax:=ye [0,2,3,4,1,5,6] bT
     have aK:=yd (Bb (gK l rc) e fb nb m ed (mz xs (jE c i) 0)) [jy dd (some []),iD .i64 f 3 (gi (jE c i)),blk kb 37 [f]] ax
     have bB:rc.state = .ready:=by rw[bA]
     have bP:rc.pending=none:=by rw[bA]
     have bQ:∀ (k:Nat) (x:Int) (bs:List (World×List Nat)) (L:List fJ) (w:World),k<(gi (jE c i)).length->(gi (jE c i))[(gi (jE c i)).length-1-k]? = some x->St bs ((fN (Bb (gK l rc) e fb nb m ed (mz xs (jE c i) k))) :: L) w->YR ya l (Zm (((gi (jE c i)).length:Int)-1-(k:Int)) x) w (fun v w' => v = .bool true/\St bs ((fun(z:Nat)=>fN (Bb (gK l rc) e fb nb m ed (mz xs (jE c i) z))) (k+1) :: L) w'):=by
      intro k x bs LT wr bM hx aM
      have aM:=aM.unpack
      obtain⟨j,hj,rfl⟩:=acu bM hx
      have bJ:j<m:=by have:=aO j (by simpa using zg hj);omega
      have bX:=(ah k).2
      refine tq (vl:=(Zm (((gi (jE c i)).length:Int)-1-(k:Int)) j)) 0 bA aM rfl rfl rfl (jh aM 3 ?_)
      refine tN (tW 0 aM rfl bB rfl ?_)
      intro ay R
      have az:=lJ R (List.Perm.cons _ (List.Perm.swap _ _ _))
      have aA:=lJ az (List.Perm.swap _ _ _)
      have aB:=lJ aA (List.Perm.cons _ (List.Perm.cons _ (List.Perm.swap _ _ _)))
      have aC:=lJ aB (List.Perm.cons _ (List.Perm.swap _ _ _))
      refine fM R 4 ?_
      refine gy (LG fb nb m ed (mz xs (jE c i) k) ay · oa hb (ah k).1 j o_) aC fun bg U=>?_
      have bh:fT (kL (mz xs (jE c i) k) j):=(fT.push (ah k).1 o_).1
      refine fK U 2 ?_
      refine qa 2 U rfl bB bP rfl ?_
      intro bi aD
      have aE:=lJ aD (List.Perm.cons _ (List.Perm.swap _ _ _))
      have aF:=lJ aE (List.Perm.swap _ _ _)
      have aG:=lJ aF (List.Perm.cons _ (List.Perm.cons _ (List.Perm.swap _ _ _)))
      have aH:=lJ aG (List.Perm.cons _ (List.Perm.swap _ _ _))
      have bC:=aH
      rw[<-S8 hj]at bC
      exact⟨_,rfl,rfl,yd [_,_,_,_] _ bC⟩
     refine CR.mono (We (fun(z:Nat)=>fN (Bb (gK l rc) e fb nb m ed (mz xs (jE c i) z))) l kb f (gi (jE c i)) (fun b=>b∉((fun(z:Nat)=>fN (Bb (gK l rc) e fb nb m ed (mz xs (jE c i) z))) 0).gq) wl bQ (yg aK 0 rfl) (aK.at (i:=3) rfl) (aK.Sn (by simp[jb,blk,jy])) (St.aeG aK (i:=2) (j:=0) rfl bG rfl d_) (fun _ h=>h) (by simp only[gi,zm];omega)) ?_
     rintro _ w9 ⟨-,bU⟩
     have bS:=(yw aK bU)
     have aI:=ye [0,4,1,2,3,5,6] bS
     exact⟨_,by simp[gi],aI⟩
   . rintro z dd bj S aJ
     have V:=ye [0,1,2,3] aJ
     obtain⟨O0,a0,b0,bE,bI⟩:=adN hR hn S
     refine SE tt none V 3 ?_
     refine lp (α:=List Nd×Cx×Tr×Tr) (fun(ys,O,a', b')=>[(1,(Za i)),(2,(Zb e))]) (fun(ys,O,a', b') w1=>St [(w,(Zl fb nb m ed xs).gq)] (Bb (jy dd (some [])) e fb nb m ed ys) w1/\jY xs ys (kK c (.nd a i b)) O (.nd a' i b') q/\(cE ys i).flip=false/\fT ys/\ys.length=m) (fun(ys,O,a', b')=>O.length) ((mz xs (jE c i) z),O0,a0,b0) oh (⟨V,bE,bI,(ah z).1,by have:=(ah z).2;omega⟩) ?_
     rintro⟨ys,O,a', b'⟩ bl y ⟨ad,hM,aS,F,bY⟩
     refine fM ad 3 ?_
     rcases hM.sides hn hq with ⟨hO,hS⟩|⟨d,p,s2,hO,hS,hU,aT⟩|⟨d,p,s2,d', g2,s3,c2,hO,hS,hU,aT⟩
     . skip
       subst hO
       have A:=ye [2,3,0,1] ad
       refine cH ad 2 ?_
       refine ig A (nT fb nb m ed ys y (A.at (i:=0) rfl) (A.at (i:=1) rfl) oa hb F i o_ hS) fun bm W=>fK W 21 ?_
       refine uU 2 W rfl rfl ?_
       intro w8 bR
       exact⟨_,results_none results327 _ _ _,_,rfl,rfl,ys,a', b', hM,aS,F,yk bR⟩
     . skip
       subst hO
       subst hU
       have B:=ye [2,3,0,1] ad
       refine cH ad 2 ?_
       refine ig B (nT fb nb m ed ys y (B.at (i:=0) rfl) (B.at (i:=1) rfl) oa hb F i o_ hS) fun aL n=>cH n 24 ?_
       refine jC (o' := i*9+0) (i:=(i:Int)) rfl rfl rfl yi jA (o9 (show i<(ys).length from om)) o_ (cH n 10 ?_)
       refine ig n (nT fb nb m ed ys aL (n.at (i:=0) rfl) (n.at (i:=1) rfl) oa hb F ((cE ys i).up) (o9 (F.up i om)) aT) fun aN X=>cH X 18 ?_
       refine gy (Ad fb nb m ed ys aN · oa hb F i o_) X fun bn Z=>?_
       have aP:fT (iR ys i):=(fT.rotate F o_).1
       have bo:(iR ys i).length=m:=(DZ F o_).trans o_
       refine fK Z 2 ?_
       have aQ:=ye [2,3,0,1] Z
       obtain⟨a2,b2,Y,ar⟩:=hM.zig hn o_ a5 hq aS
       exact gM (iR ys i,[],a2,b2) oh (⟨aQ,Y,ar,aP,by have:=Y.kl.len;omega⟩) (by simp only[zb,zd];omega)
     . skip
       subst hO
       subst hU
       have C:=ye [2,3,0,1] ad
       refine cH ad 2 ?_
       refine ig C (nT fb nb m ed ys y (C.at (i:=0) rfl) (C.at (i:=1) rfl) oa hb F i o_ hS) fun aR o=>cH o 24 ?_
       refine jC (o' := i*9+0) (i:=(i:Int)) rfl rfl rfl yi jA (o9 (show i<(ys).length from om)) o_ (cH o 10 ?_)
       refine ig o (nT fb nb m ed ys aR (o.at (i:=0) rfl) (o.at (i:=1) rfl) oa hb F ((cE ys i).up) (o9 (F.up i om)) aT) fun aa s=>cH s 17 ?_
       by_cases aU:(sd d:Int)=((sd d' : Int):Int)
       . have ab:=yd [_,_] _ s
         refine cH s 7 ?_
         refine DB ab (Ad fb nb m ed ys aa · oa hb F ((cE ys i).up) (o9 (F.up i om))) fun aV ac=>?_
         have D:fT (iR ys ((cE ys i).up)):=(fT.rotate F (o9 (F.up i om))).1
         have bp:(iR ys ((cE ys i).up)).length=m:=(DZ F (o9 (F.up i om))).trans o_
         refine cH ac 5 ?_
         refine gy (Ad fb nb m ed (iR ys ((cE ys i).up)) aV · oa hb D i o_) ac fun bq ae=>?_
         have aW:fT (iR (iR ys ((cE ys i).up)) i):=(fT.rotate D o_).1
         have br:(iR (iR ys ((cE ys i).up)) i).length=m:=(DZ D o_).trans o_
         refine fK ae 2 ?_
         refine tN (?_)
         have aX:=ye [2,3,0,1] ae
         have bH:=ae6 (Int.ofNat.inj aU)
         subst bH
         obtain⟨a2,b2,Y,ar⟩:=hM.ah4 hn o_ a5 hq aS
         exact again (iR (iR ys ((cE ys i).up)) i,c2,a2,b2) oh (⟨aX,Y,ar,aW,by have:=Y.kl.len;omega⟩) (by simp only[zb,zd];omega)
       . have af:=yd [_,_] _ s
         refine cH s 7 ?_
         refine DB af (Ad fb nb m ed ys aa · oa hb F i o_) fun aY ag=>?_
         have E:fT (iR ys i):=(fT.rotate F o_).1
         have bt:(iR ys i).length=m:=(DZ F o_).trans o_
         refine cH ag 5 ?_
         refine gy (Ad fb nb m ed (iR ys i) aY · oa hb E i o_) ag fun bu ai=>?_
         have aZ:fT (iR (iR ys i) i):=(fT.rotate E o_).1
         have bv:(iR (iR ys i) i).length=m:=(DZ E o_).trans o_
         refine fK ai 2 ?_
         have a1:=ye [2,3,0,1] ai
         obtain⟨a2,b2,Y,ar⟩:=hM.ah3 hn o_ a5 hq aS
         exact gM (iR (iR ys i) i,c2,a2,b2) oh (⟨a1,Y,ar,aZ,by have:=Y.kl.len;omega⟩) (by simp only[zb,zd];omega)
 . skip
   have bk:=PO a3 bz S.2 N
   refine ig g (nT fb nb m ed xs t (g.at (i:=0) rfl) (g.at (i:=1) rfl) oa hb hI j o_ N) fun bw G=>cH G 22 ?_
   refine jC (o' := j*9+0) (i:=(j:Int)) rfl rfl rfl yi jA om o_ (fK G 5 ?_)
   have a4:=ye [2,3,0,1] G
   exact gM ((k+1),(cE xs j).up,f) oh (⟨by rw[<-Li S.2];exact a4,bk.2⟩) o1
 . skip
   have bk:=PO a3 bz S.2 P
   refine ig g (nT fb nb m ed xs t (g.at (i:=0) rfl) (g.at (i:=1) rfl) oa hb hI j o_ P) fun bx H=>cH H 22 ?_
   refine jC (o' := j*9+0) (i:=(j:Int)) rfl rfl rfl yi jA om o_ (fK H 5 ?_)
   have a6:=ye [2,3,0,1] H
   exact gM ((k+1),(cE xs j).up,f) oh (⟨by rw[<-Li S.2];exact a6,bk.2⟩) o1
theorem zH(hO:Own (Zl fb nb m ed xs) w)(hm:xs.length=m)(hb:m<=1000001)(hI:fT xs)(F:FT)(hF:Fo xs F)(i:Nat)(hi:i≠0)(aG:i<m) :
 CR ya 288 (Zk fb i) w (fun r w' => ∃ l:Nat,r = .int .i64 (l:Int)/\∃ ys a R,lK xs F ys i a R/\fT ys/\fP (Zl fb nb m ed xs) w w' (Zl fb nb m ed ys)):=by
 obtain⟨k0,aB⟩:=Ex.init hF (i:=i) o_
 refine gj func288 ?_
 have az:=(yy hO).unpack
 refine oW az 18 ?_
 refine lp (α:=List Nd×Nat×Nat×Nat×FT×Tr) (fun(zs,below,j,k,R,B)=>[(0,(Zb fb)),(1,(Za i)),(5,(Za below)),(6,(Za j))]) (fun(zs,below,j,k,R,B) w1=>St [(w,(Zl fb nb m ed xs).gq)] [blk fb 391 (yV fb nb m ed),blk nb 388 (zs.flatMap Nd.cells)] w1/\Ex xs F i zs below j k R B/\fT zs/\zs.length=m) (fun(zs,below,j,k,R,B)=>k) (xs,0,i,k0,F,.nil) oh (⟨az,aB,hI,hm⟩) ?_
 rintro⟨zs,below,j,k,R,B⟩ ac D ⟨v,P,ay,aJ⟩
 have aF:below<m:=by have h7:=P.rep.Cd o_;rw[P.root]at h7;omega
 have aH:j<m:=by have h7:=P.lt;omega
 refine fM v 4 ?_
 by_cases Q:(j:Int)=0
 . have aE:j=0:=by omega
   refine cH v 1 ?_
   subst aE
   obtain⟨aq,ar,au,av,aw,ax⟩:=P.fin hi
   have E:=yd [_,_] _ v
   refine cH v 12 ?_
   refine cl (TU fb nb m ed zs D (yg E 0 rfl) (by first|exact hm|omega) hb ay i 0 B aq ar au av aw) ?_
   rintro _ ad ⟨rfl,u,G,S,H,I,U,ht⟩
   have J:=(yw E ht)
   have ae:u.length=m:=by have:=H.kl.len;omega
   refine gm J 9 (Za below) ?_
   obtain⟨aC,h1,h2,h3,h4,h5⟩:=ax u G S H I
   subst aC
   exact⟨below,rfl,u,G,R,⟨h1,I,h2,h3,h4,h5⟩,U,iM (yd [_,_] [] J)⟩
 . have aD:j≠0:=fun h7=>Q o_
   obtain⟨T,q,aq,ar,au,av,aw,ax⟩:=P.go aD
   have K:=yd [_,_] _ v
   refine cH v 12 ?_
   refine cl (TU fb nb m ed zs D (yg K 0 rfl) (by first|exact hm|omega) hb ay j q T aq ar au av aw) ?_
   rintro _ af ⟨rfl,g,L,V,M,W,y,ht⟩
   have N:=(yw K ht)
   have ag:g.length=m:=by have:=M.kl.len;omega
   refine cH N 9 ?_
   refine jC (o' := j*9+0) (i:=(j:Int)) rfl rfl rfl yi jA (o9 (show j<(g).length from om)) o_ (gh N 16 fun ah h=>?_)
   refine ia (o:=j*9+0) (o' := j*9+1) (i:=1) rfl rfl rfl yq fU d_ rfl (cH h 1 ?_)
   refine jC (o' := ((cE g j).k1)*9+0) (i:=((cE g j).k1:Int)) rfl rfl rfl yi jA (o9 (show ((cE g j).k1)<(g).length from(o9 (y.k1 j om)))) o_ (cH h 1 ?_)
   refine ld rfl rfl yf rfl (nI h (i:=1) rfl f_ (o9 (y.k1 j om)) rfl) (cH h 5 ?_)
   refine jC (o' := below*9+0) (i:=(below:Int)) rfl rfl rfl yi jA (o9 (show below<(g).length from om)) o_ (cH h 2 ?_)
   refine gL (e:=(IntKind.i64.wrap ((cE g ((cE g j).k1)).total-(cE g below).total))) rfl rfl (gL (e:=(IntKind.i64.wrap ((cE g j).i7+(IntKind.i64.wrap ((cE g ((cE g j).k1)).total-(cE g below).total))))) rfl rfl (cH h 2 ?_))
   refine kD (f:=(fun x:Nd=>{ x with i7:=(IntKind.i64.wrap ((cE g j).i7+(IntKind.i64.wrap ((cE g ((cE g j).k1)).total-(cE g below).total)))) })) 1 h (fun ai p aj=>?_)
   have z:fT (cO g j (fun x=>{ x with i7:=(IntKind.i64.wrap ((cE g j).i7+(IntKind.i64.wrap ((cE g ((cE g j).k1)).total-(cE g below).total)))) })):=fT.iV y om (fun x a b c d e=>⟨a,b,c,d,e⟩)
   obtain⟨X,Y,ak,z,p⟩:=iO (m:=m) z p
   refine cH p 8 ?_
   refine ia (o:=j*9+0) (o' := j*9+1) (i:=1) rfl rfl rfl yq fU d_ rfl (kD (f:=(fun x:Nd=>{ x with k1:=below })) 1 p (fun Z s al=>?_))
   have t:fT (cO X j (fun x=>{ x with k1:=below })):=fT.iV z om (fun x a b c d e=>⟨a,om,c,d,e⟩)
   obtain⟨O,aa,am,t,s⟩:=iO (m:=m) t s
   refine cH s 6 ?_
   refine gy (mQ fb nb m ed O Z · oa hb t j o_) s fun an n=>?_
   have A:fT (iU O j):=fT.mJ t o_
   obtain⟨C,ab,ao,A,n⟩:=iO (m:=m) A n
   refine cH n 14 ?_
   refine jC (o' := j*9+0) (i:=(j:Int)) rfl rfl rfl yi jA om o_ (fK n 4 ?_)
   refine tN (?_)
   have e9:mo g j below=C:=by rw[ab,aa,Y];rfl
   obtain⟨aA,aI,k', R', hk,ap⟩:=ax g L V M W
   rw[e9]at aA ap
   rw[<-aA]at ap
   exact again (C,j,(cE C j).up,k', R', (.nd L j B)) oh (⟨n,ap,A,o_⟩) (by subst hk;exact AX _)
theorem UT(d:(Bm fb nb m ed).holds w)(hb:m<=1000001) :
 CK ya 323 (Zg fb) w (.bool true):=by
 refine iE func323 8 fun b=>?_
 refine lF (a:=some ⟨fb,0,none⟩) (c:=true) rfl rfl rfl underlying208 rfl (cH b 6 ?_)
 refine w6 (a:=⟨fb,0,none⟩) rfl rfl rfl underlying208 MM (fK b 5 ?_)
 refine gT (v:=Zi) results323 rfl ?_
 exact⟨rfl,b.gf s_⟩
theorem BN(e:(Bm fb nb m ed).holds w)(hb:m<=1000001)(v:Nat)(hv:v+1<m) :
 CK ya 316 (Zk fb v) w (.bool true):=by
 refine iE func316 8 fun b=>?_
 refine ig b (UT fb nb m ed w (St.LS b s_ e) hb) fun d a=>cH a 2 ?_
 refine gz rfl (ot o_) (cH a 7 ?_)
 refine Gx (m:=m) (c:=m) rfl rfl yi (cH a 1 ?_)
 refine gz rfl (pL o_) (fK a 5 ?_)
 refine gT (v:=Zi) results316 rfl ?_
 exact⟨rfl,a.gf s_⟩
theorem JG(g:(Bm fb nb m ed).holds w)(hb:m<=1000001)(v:Value)(vs:List Nat)(hv:Ints .i64 (fun _=>True) w v (gi vs))(u:∀ x∈vs,x+1<m) :
 CK ya 272 (yO fb v) w (.int .i64 0):=by
 have z:(gi vs).length=vs.length:=by simp[gi]
 have A:=hv.len
 refine iE func272 9 fun r=>?_
 refine ig r (UT fb nb m ed w (St.LS r s_ g) hb) fun h a=>cH a 10 ?_
 refine jO (v:=v) rfl rfl yc hv (fZ a 4 ?_)
 refine lp (α:=Nat) (fun k=>[(0,(Zb fb)),(10,v),(11,(Za ((gi vs).length:Int))),(12,(Za k))]) (fun k w1=>St [(w,[])] [] w1/\k<=vs.length) (fun k=>vs.length-k) 0 oh (⟨a,o_⟩) ?_
 rintro k j d ⟨c,y⟩
 refine fM c 2 ?_
 by_cases l:(k:Int)<((gi vs).length:Int)
 . obtain⟨x,t⟩:=oT (show k<vs.length by omega)
   refine cH c 11 ?_
   refine DG (i:=(k:Int)) (el:=(x:Int)) rfl rfl rfl yc fU (St.Gh c s_ hv) o_ (by rw[show ((k:Nat):Int).toNat=k by omega];simp[gi,t]) ?_
   intro n o e f p
   have q:=f.i64
   refine ld rfl rfl yf rfl e (cH c 7 ?_)
   refine ig c (BN fb nb m ed d (St.LS c s_ g) hb x (by first|omega|exact u _ (zg t))) fun s b=>fK b 11 ?_
   exact gM (k+1) oh (⟨b,o_⟩) o1
 . refine gm c 16 Zc ?_
   exact⟨rfl,c.gf s_⟩
theorem Rx(B:Own (Zl fb nb m ed xs) w)(hm:xs.length=m)(hb:m<=1000001)(A:fT xs)(F:FT)(z:Fo xs F)(i:Nat)(hi:i≠0)(D:i<m) :
 CR ya 324 (Zk fb i) w (fun r w' => r = .tuple #[]/\∃ ys a R,lK xs F ys i a R/\fT ys/\fP (Zl fb nb m ed xs) w w' (Zl fb nb m ed (kV ys i))):=by
 refine gj func324 ?_
 have y:=(yy B).unpack
 have j:=yd [_,_] _ y
 refine fM y 4 ?_
 refine cl (zH fb nb m ed xs w (yg j 0 rfl) (by first|exact hm|omega) hb A F z i o_ o_) ?_
 rintro _ q ⟨E,rfl,g,o,p,k,l,ht⟩
 have h:=(yw j ht)
 have s:g.length=m:=by have:=k.len;omega
 refine cH h 8 ?_
 refine jC (o' := i*9+0) (i:=(i:Int)) rfl rfl rfl yi jA (o9 (show i<(g).length from om)) o_ (cH h 1 ?_)
 refine kD (f:=(fun x:Nd=>{ x with flip:=true })) 1 h (fun t n u=>?_)
 have v:fT (cO g i (fun x=>{ x with flip:=true })):=fT.iV l om (fun x a b c d e=>⟨a,b,c,d,e⟩)
 refine jU n 1 ?_
 have C:kV g i=cO g i (fun x=>{ x with flip:=true }):=rfl
 exact⟨rfl,g,o,p,k,l,iM (yd [_,_] [] n)⟩
theorem LA(E:Own (Zl fb nb m ed xs) w)(hm:xs.length=m)(hb:m<=1000001)(D:fT xs)(F:FT)(C:Fo xs F)(i j:Nat)(hi:i≠0)(G:i<m)(H:j≠0)(I:j<m) :
 CR ya 274 (Zv fb i j) w (fun r w' => r = .tuple #[]/\∃ ys a R zs b R2,lK xs F ys i a R/\lK (kV ys i) ((.nd a i .nil,0) :: R) zs j b R2/\fT zs/\fP (Zl fb nb m ed xs) w w' (Zl fb nb m ed zs)):=by
 refine gj func274 ?_
 have B:=(yy E).unpack
 have e:=yd [_,_] _ B
 refine fM B 4 ?_
 refine cl (Rx fb nb m ed xs w (yg e 0 rfl) (by first|exact hm|omega) hb D F C i o_ o_) ?_
 rintro _ p ⟨rfl,c,f,g,d,q,ht⟩
 have h:=(yw e ht)
 have s:c.length=m:=by have:=d.len;omega
 have t:fT (kV c i):=q.lead o_
 have y:(kV c i).length=m:=(vQ _ _).trans s
 have k:=yd [_,_] _ h
 refine cH h 5 ?_
 refine cl (zH fb nb m ed (kV c i) p (yg k 0 rfl) (by first|exact hm|omega) hb t ((.nd f i .nil,0) :: g) d.DI.fo j o_ o_) ?_
 rintro _ z ⟨J,rfl,l,u,v,n,x,ht⟩
 have o:=(yw k ht)
 have A:l.length=m:=by have:=n.len;omega
 refine jU o 1 ?_
 exact⟨rfl,c,f,g,l,u,v,d,n,x,iM (yd [_,_] [] o)⟩
theorem Is(P:Own (Zl fb nb m ed xs) w)(hm:xs.length=m)(hb:m<=1000001)(N:fT xs)(F:FT)(x:Fo xs F)(a b:Nat)(R:a+1<m)(S:b+1<m) :
 CR ya 286 (Zv fb a b) w (fun r w' => ∃ B zs M,r = .bool B/\(B=true↔Joined xs F (a+1) (b+1))/\Fo zs M/\fT zs/\zs.length=m/\(∀ u v,Joined zs M u v↔Joined xs F u v)/\(∀ k,(cE zs k).key=(cE xs k).key)/\fP (Zl fb nb m ed xs) w w' (Zl fb nb m ed zs)):=by
 refine ja func286 P 10 fun O=>?_
 refine ig O (BN fb nb m ed w (O.at (i:=0) rfl) hb a o_) fun q h=>cH h 4 ?_
 refine ig h (BN fb nb m ed q (h.at (i:=0) rfl) hb b o_) fun t f=>cH f 12 ?_
 by_cases D:(a:Int)=(b:Int)
 . refine gm f 11 Zi ?_
   have Q:a=b:=by omega
   subst Q
   exact⟨true,xs,F,rfl,⟨fun _=>x.aaH o_ o_,fun _=>rfl⟩,x,N,hm,fun _ _=>Iff.rfl,fun _=>rfl,yk f⟩
 . have j:=yd [_,_] _ f
   refine cH f 11 ?_
   refine cl (zH fb nb m ed xs t (yg j 0 rfl) (by first|exact hm|omega) hb N F x (a+1) o_ o_) ?_
   rintro _ y ⟨T,rfl,l,z,A,d,C,ht⟩
   have n:=(yw j ht)
   have E:l.length=m:=by have:=d.len;omega
   have o:=yd [_,_] _ n
   refine cH n 7 ?_
   refine cl (zH fb nb m ed l y (yg o 0 rfl) (by first|exact hm|omega) hb C ((.nd z (a+1) .nil,0) :: A) d.fo (b+1) o_ o_) ?_
   rintro _ G ⟨U,rfl,g,H,I,c,p,ht⟩
   have e:=(yw o ht)
   have J:g.length=m:=by have:=c.len;omega
   refine cH e 10 ?_
   refine jC (o' := (a+1)*9+0) (i:=(a:Int)+1) rfl rfl rfl yi jA (o9 (show (a+1)<(g).length from om)) o_ (cH e 2 ?_)
   by_cases K:((cE g (a+1)).up:Int)=0
   . refine gm e 5 Zp ?_
     have L:=Ra d c (show a+1≠b+1 by omega)
     exact⟨false,g,_,rfl,⟨fun s=>(by cases s),fun s=>absurd (L.2 s) o_⟩,c.fo,p,by have:=c.len;omega,fun u v=>(c.joined u v).trans (d.joined u v),fun k=>(c.key k).trans (d.key k),yk e⟩
   . refine gm e 5 Zi ?_
     have L:=Ra d c (show a+1≠b+1 by omega)
     exact⟨true,g,_,rfl,⟨fun _=>L.1 o_,fun _=>rfl⟩,c.fo,p,by have:=c.len;omega,fun u v=>(c.joined u v).trans (d.joined u v),fun k=>(c.key k).trans (d.key k),yk e⟩
theorem Vy(U:Own (Zl fb nb m ed xs) w)(hm:xs.length=m)(hb:m<=1000001)(T:fT xs)(F:FT)(S:Fo xs F)(v:Nat)(hv:v+1<m)(key:Int)(hk:ij .i64 key) :
 CR ya 222 (Zv fb v key) w (fun r w' => r = .int .i64 0/\∃ zs Q,Fo zs Q/\fT zs/\zs.length=m/\fP (Zl fb nb m ed xs) w w' (Zl fb nb m ed zs)):=by
 refine ja func222 U 10 fun V=>?_
 refine jB (vs:=(Zd v)) (cs:=(Zd v)) rfl rfl yc fU rfl (by simp[Value.cells]) rfl rfl rfl V (fun u y G H h=>cl (JG fb nb m ed y (h.at (i:=1) rfl) hb (Zu u) [v] (yA h (i:=0) rfl (GN (m:=m) (P:=[v]) (by intro j s;simp at s;omega) hb)).any (by intro j s;simp at s;omega)) ?_)
 rintro _ z ⟨rfl,A⟩
 have n:=lI h A
 have B:=ye [1,2,0] n
 have o:=yd [_,_] _ B
 refine cH n 17 ?_
 refine cl (zH fb nb m ed xs z (yg o 0 rfl) (by first|exact hm|omega) hb T F S (v+1) o_ o_) ?_
 rintro _ I ⟨W,rfl,g,J,K,k,C,ht⟩
 have l:=(yw o ht)
 have L:g.length=m:=by have:=k.len;omega
 refine cH l 11 ?_
 refine jC (o' := (v+1)*9+0) (i:=(v:Int)+1) rfl rfl rfl yi jA (o9 (show (v+1)<(g).length from om)) o_ (cH l 1 ?_)
 refine kD (f:=(fun x:Nd=>{ x with key:=key })) 1 l (fun D p M=>?_)
 have q:fT (cO g (v+1) (fun x=>{ x with key:=key })):=fT.iV C om (fun x a b c d e=>⟨a,b,c,d,hk⟩)
 refine cH p 7 ?_
 refine gy (mQ fb nb m ed (cO g (v+1) (fun x=>{ x with key:=key })) D · oa hb q (v+1) om) p fun N t=>?_
 have E:fT (iU (cO g (v+1) (fun x=>{ x with key:=key })) (v+1)):=fT.mJ q om
 refine gm t 8 Zc ?_
 have R:xM g (v+1) key=iU (cO g (v+1) (fun x=>{ x with key:=key })) (v+1):=rfl
 have O:=afc (c:=key) k.fo
 exact⟨rfl,iU (cO g (v+1) (fun x=>{ x with key:=key })) (v+1),_,O.1,E,by rw[<-R,O.2.1];have:=k.len;omega,yk t⟩
theorem Vs(T:Own (Zl fb nb m ed xs) w)(hm:xs.length=m)(hb:m<=1000001)(Q:fT xs)(F:FT)(P:Fo xs F)(a b:Nat)(V:a+1<m)(W:b+1<m) :
 CR ya 273 (Zv fb a b) w (fun r w' => ∃ d zs K,r = .int .i64 d/\Fo zs K/\fT zs/\zs.length=m/\(d=1->∃ L R,K=(.nd L (b+1) .nil,0) :: R/\gp zs false (.nd L (b+1) .nil)=[a+1,b+1])/\fP (Zl fb nb m ed xs) w w' (Zl fb nb m ed zs)):=by
 refine gj func273 ?_
 have N:=(yy T).unpack
 have k:=yd [_,_] _ N
 refine fM N 11 ?_
 refine cl (Is fb nb m ed xs w (yg k 0 rfl) (by first|exact hm|omega) hb Q F P a b o_ o_) ?_
 rintro _ s ⟨t,l,O,rfl,u,g,n,x,y,B,ht⟩
 have f:=(yw k ht)
 refine fZ f 3 ?_
 cases o:(t:Bool)
 . skip
   subst o
   refine qP f 8 Zz ?_
   exact⟨-1,l,_,rfl,g,n,x,fun M=>absurd M d_,yk f⟩
 . skip
   subst o
   have p:=yd [_,_] _ f
   refine fM f 10 ?_
   refine cl (LA fb nb m ed l s (yg p 0 rfl) (by first|exact hm|omega) hb n O g (a+1) (b+1) o_ o_ o_ o_) ?_
   rintro _ C ⟨rfl,D,E,G,c,q,z,h,e,A,ht⟩
   have j:=(yw p ht)
   have H:c.length=m:=by have I:=e.len;have J:=h.len;rw[vQ]at I;omega
   have X:0<=(cE c (b+1)).size/\(cE c (b+1)).size<=1000000:=by have I:=(e.fo.rep (.nd q (b+1) .nil,0) s_).2.2.1.size;have J:=e.fo.count;simp only[Tr.mem]at I J;rw[I];omega
   refine cH j 10 ?_
   refine jC (o' := (b+1)*9+0) (i:=(b:Int)+1) rfl rfl rfl yi jA (o9 (show (b+1)<(c).length from om)) o_ (fK j 7 ?_)
   refine gT (v:=(Za (((cE c (b+1)).size)-1))) results273 rfl ?_
   have S:=(y (a+1) (b+1)).2 (u.1 rfl)
   have U:=fun hs=>Yc g S h e hs
   skip
   exact⟨(cE c (b+1)).size-1,c,_,rfl,e.fo,A,by have I:=e.len;have J:=h.len;rw[vQ]at I;omega,fun M=>⟨q,z,rfl,U o_⟩,yk j⟩
theorem Vv(Q:Own (Zl fb nb m ed xs) w)(hm:xs.length=m)(hb:m<=1000001)(P:fT xs)(F:FT)(O:Fo xs F)(a b:Nat)(S:a+1<m)(T:b+1<m) :
 CR ya 216 (Zv fb a b) w (fun r w' => ∃ (f:Nat) (B:Bool),∃ zs M,r = .tuple (qG f B)/\f+1<m/\Fo zs M/\fT zs/\zs.length=m/\fP (Zl fb nb m ed xs) w w' (Zl fb nb m ed zs)):=by
 refine gj func216 ?_
 have L:=(yy Q).unpack
 have h:=yd [_,_] _ L
 refine fM L 12 ?_
 refine cl (Is fb nb m ed xs w (yg h 0 rfl) (by first|exact hm|omega) hb P F O a b o_ o_) ?_
 rintro _ s ⟨t,j,N,rfl,y,k,l,u,z,A,ht⟩
 have d:=(yw h ht)
 refine fZ d 3 ?_
 cases n:(t:Bool)
 . skip
   subst n
   refine G2 d 9 Zc Zp ?_
   exact⟨0,false,j,_,rfl,o_,k,l,u,yk d⟩
 . skip
   subst n
   have o:=yd [_,_] _ d
   refine fM d 10 ?_
   refine cl (LA fb nb m ed j s (yg o 0 rfl) (by first|exact hm|omega) hb l N k (a+1) (b+1) o_ o_ o_ o_) ?_
   rintro _ C ⟨rfl,D,E,G,c,x,H,p,e,q,ht⟩
   have g:=(yw o ht)
   have I:c.length=m:=by have J:=e.len;have K:=p.len;rw[vQ]at J;omega
   have U:(cE c (b+1)).first≠0/\(cE c (b+1)).first<m:=by have J:=e.fo.rep (.nd x (b+1) .nil,0) s_;have K:=J.rm _ J.2.2.1.first.1;have R:=q.first (b+1) o_;omega
   refine cH g 10 ?_
   refine jC (o' := (b+1)*9+0) (i:=(b:Int)+1) rfl rfl rfl yi jA (o9 (show (b+1)<(c).length from om)) o_ (fK g 8 ?_)
   refine kC (v:=(Za (((cE c (b+1)).first:Int)-1))) (v' := Zi) results216 rfl rfl ?_
   exact⟨(cE c (b+1)).first-1,true,c,_,by rw[show (((cE c (b+1)).first-1:Nat):Int)=((cE c (b+1)).first:Int)-1 by omega],o_,e.fo,q,by have J:=e.len;have K:=p.len;rw[vQ]at J;omega,yk g⟩
theorem Vu(hO:Own (Zl fb nb m ed xs) w)(hm:xs.length=m)(hb:m<=1000001)(hI:fT xs)(F:FT)(hF:Fo xs F)(a b:Nat)(ha:a+1<m)(aE:b+1<m) :
 CR ya 287 (Zv fb a b) w (fun r w' => ∃ e aA, ∃ zs F2,r = .int .i64 e/\Fo zs F2/\fT zs/\zs.length=m/\fP (Zl fb nb m ed xs) w w' (Zl fb nb m aA zs)):=by
 refine ja func287 hO 11 fun aD=>?_
 refine jB (vs:=(Zm a b)) (cs:=(Zm a b)) rfl rfl yc fU rfl (by simp[Value.cells]) rfl rfl rfl aD (fun J K ai aj q=>cl (JG fb nb m ed K (q.at (i:=1) rfl) hb (yL J) [a,b] (yA q (i:=0) rfl (GN (m:=m) (P:=[a,b]) (by intro j H;simp at H;omega) hb)).any (by intro j H;simp at H;omega)) ?_)
 rintro _ L ⟨rfl,M⟩
 have h:=lI q M
 refine cH h 17 ?_
 by_cases ak:(a:Int)=(b:Int)
 . refine gm h 11 yR ?_
   have N:=ye [1,2,0] h
   exact⟨_,ed,xs,F,rfl,hF,hI,hm,yk N⟩
 . skip
   have O:=ye [1,2,0] h
   have y:=yd [_,_] _ O
   refine cH h 12 ?_
   refine cl (Is fb nb m ed xs L (yg y 0 rfl) (by first|exact hm|omega) hb hI F hF a b o_ o_) ?_
   rintro _ Q ⟨R,s,T,rfl,S,t,z,U,V,al,ht⟩
   have k:=(yw y ht)
   refine fZ k 2 ?_
   cases A:(R:Bool)
   . skip
     subst A
     have B:=yd [_,_] _ k
     refine fM k 8 ?_
     refine cl (Rx fb nb m ed s Q (yg B 0 rfl) (by first|exact hm|omega) hb z T t (a+1) o_ o_) ?_
     rintro _ W ⟨rfl,l,X,Y,n,Z,ht⟩
     have C:=(yw B ht)
     have aa:l.length=m:=by have:=n.len;omega
     have ab:fT (kV l (a+1)):=Z.lead o_
     have am:(kV l (a+1)).length=m:=(vQ _ _).trans aa
     have D:=yd [_,_] _ C
     refine cH C 7 ?_
     refine cl (zH fb nb m ed (kV l (a+1)) W (yg D 0 rfl) (by first|exact hm|omega) hb ab ((.nd X (a+1) .nil,0) :: Y) n.DI.fo (b+1) o_ o_) ?_
     rintro _ an ⟨l₁,rfl,g,ao,ap,o,ac,ht⟩
     have u:=(yw D ht)
     have aq:g.length=m:=by have:=o.len;omega
     refine cH u 12 ?_
     refine jC (o' := (a+1)*9+0) (i:=(a:Int)+1) rfl rfl rfl yi jA (o9 (show (a+1)<(g).length from om)) o_ (cH u 1 ?_)
     refine kD (f:=(fun x:Nd=>{ x with up:=(b+1) })) 1 u (fun au ad av=>?_)
     have ae:fT (cO g (a+1) (fun x=>{ x with up:=(b+1) })):=fT.iV ac om (fun x a b c d e=>⟨a,b,om,d,e⟩)
     refine gh ad 10 fun aw p=>?_
     refine jC (o' := (b+1)*9+0) (i:=(b:Int)+1) rfl rfl rfl yi jA (o9 (show (b+1)<(cO g (a+1) (fun x=>{ x with up:=(b+1) })).length from om)) o_ (cH p 8 ?_)
     refine jC (o' := (a+1)*9+0) (i:=(a:Int)+1) rfl rfl rfl yi jA (o9 (show (a+1)<(cO g (a+1) (fun x=>{ x with up:=(b+1) })).length from om)) o_ (cH p 2 ?_)
     refine gL (e:=(IntKind.i64.wrap ((cE (cO g (a+1) (fun x=>{ x with up:=(b+1) })) (b+1)).i7+(cE (cO g (a+1) (fun x=>{ x with up:=(b+1) })) (a+1)).total))) rfl rfl (jC (o' := (b+1)*9+0) (i:=(b:Int)+1) rfl rfl rfl yi jA (o9 (show (b+1)<(cO g (a+1) (fun x=>{ x with up:=(b+1) })).length from om)) o_ (cH p 1 ?_))
     refine kD (f:=(fun x:Nd=>{ x with i7:=(IntKind.i64.wrap ((cE (cO g (a+1) (fun x=>{ x with up:=(b+1) })) (b+1)).i7+(cE (cO g (a+1) (fun x=>{ x with up:=(b+1) })) (a+1)).total)) })) 1 p (fun af E ax=>?_)
     have G:fT (cO (cO g (a+1) (fun x=>{ x with up:=(b+1) })) (b+1) (fun x=>{ x with i7:=(IntKind.i64.wrap ((cE (cO g (a+1) (fun x=>{ x with up:=(b+1) })) (b+1)).i7+(cE (cO g (a+1) (fun x=>{ x with up:=(b+1) })) (a+1)).total)) })):=fT.iV ae om (fun x a b c d e=>⟨a,b,c,d,e⟩)
     refine cH E 7 ?_
     refine gy (mQ fb nb m ed (cO (cO g (a+1) (fun x=>{ x with up:=(b+1) })) (b+1) (fun x=>{ x with i7:=(IntKind.i64.wrap ((cE (cO g (a+1) (fun x=>{ x with up:=(b+1) })) (b+1)).i7+(cE (cO g (a+1) (fun x=>{ x with up:=(b+1) })) (a+1)).total)) })) af · oa hb G (b+1) om) E fun ay I=>?_
     have ag:fT (iU (cO (cO g (a+1) (fun x=>{ x with up:=(b+1) })) (b+1) (fun x=>{ x with i7:=(IntKind.i64.wrap ((cE (cO g (a+1) (fun x=>{ x with up:=(b+1) })) (b+1)).i7+(cE (cO g (a+1) (fun x=>{ x with up:=(b+1) })) (a+1)).total)) })) (b+1)):=fT.mJ G om
     refine cH I 8 ?_
     refine gL (e:=(IntKind.i64.wrap (ed+1))) rfl rfl (jI I 11 fun az ah=>?_)
     refine gT (v:=Zc) results287 rfl ?_
     have aC:¬ Joined s T (a+1) (b+1):=fun h9=>by have h8:=S.2 ((V _ _).1 h9);cases h8
     obtain⟨R3,aB⟩:=abi t n o aC o_ o_ o_ o_
     have ar:=abj (o.fo.perm (aB.cons _))
     have e9:rR g (a+1) (b+1)=iU (cO (cO g (a+1) (fun x=>{ x with up:=(b+1) })) (b+1) (fun x=>{ x with i7:=(IntKind.i64.wrap ((cE (cO g (a+1) (fun x=>{ x with up:=(b+1) })) (b+1)).i7+(cE (cO g (a+1) (fun x=>{ x with up:=(b+1) })) (a+1)).total)) })) (b+1):=rfl
     exact⟨_,_,iU (cO (cO g (a+1) (fun x=>{ x with up:=(b+1) })) (b+1) (fun x=>{ x with i7:=(IntKind.i64.wrap ((cE (cO g (a+1) (fun x=>{ x with up:=(b+1) })) (b+1)).i7+(cE (cO g (a+1) (fun x=>{ x with up:=(b+1) })) (a+1)).total)) })) (b+1),_,rfl,ar.1,ag,by rw[<-e9,ar.2.1];have h7:=o.len;have h8:=n.len;rw[vQ]at h7;omega,yk ah⟩
   . skip
     subst A
     refine qP k 8 Bp ?_
     exact⟨_,ed,s,_,rfl,t,z,U,yk k⟩
theorem Vq(hO:Own (Zl fb nb m ed xs) w)(hm:xs.length=m)(hb:m<=1000001)(hI:fT xs)(F:FT)(hF:Fo xs F)(a b:Nat)(ha:a+1<m)(aw:b+1<m) :
 CR ya 199 (Zv fb a b) w (fun r w' => ∃ e ao, ∃ zs F2,r = .int .i64 e/\Fo zs F2/\fT zs/\zs.length=m/\fP (Zl fb nb m ed xs) w w' (Zl fb nb m ao zs)):=by
 refine ja func199 hO 11 fun au=>?_
 refine jB (vs:=(Zm a b)) (cs:=(Zm a b)) rfl rfl yc fU rfl (by simp[Value.cells]) rfl rfl rfl au (fun G H W X l=>cl (JG fb nb m ed H (l.at (i:=1) rfl) hb (yL G) [a,b] (yA l (i:=0) rfl (GN (m:=m) (P:=[a,b]) (by intro j T;simp at T;omega) hb)).any (by intro j T;simp at T;omega)) ?_)
 rintro _ I ⟨rfl,J⟩
 have t:=lI l J
 have K:=ye [1,2,0] t
 have u:=yd [_,_] _ K
 refine cH t 18 ?_
 refine cl (Vs fb nb m ed xs I (yg u 0 rfl) (by first|exact hm|omega) hb hI F hF a b o_ o_) ?_
 rintro _ L ⟨M,y,an,rfl,n,z,N,O,ht⟩
 have h:=(yw u ht)
 by_cases Y:(M:Int)=1
 . have A:=yd [_,_] _ h
   refine cH h 13 ?_
   refine cl (LA fb nb m ed y L (yg A 0 rfl) (by first|exact hm|omega) hb z an n (a+1) (b+1) o_ o_ o_ o_) ?_
   rintro _ Z ⟨rfl,aa,ab,ac,g,ad,ae,p,k,Q,ht⟩
   have q:=(yw A ht)
   have af:g.length=m:=by have D:=k.len;have h8:=p.len;rw[vQ]at D;omega
   refine cH q 10 ?_
   refine jC (o' := (a+1)*9+0) (i:=(a:Int)+1) rfl rfl rfl yi jA (o9 (show (a+1)<(g).length from om)) o_ (cH q 1 ?_)
   refine kD (f:=(fun x:Nd=>{ x with up:=0 })) 1 q (fun ag s ah=>?_)
   have R:fT (cO g (a+1) (fun x=>{ x with up:=0 })):=fT.iV Q om (fun x a b c d e=>⟨a,b,om,d,e⟩)
   refine cH s 10 ?_
   refine jC (o' := (b+1)*9+0) (i:=(b:Int)+1) rfl rfl rfl yi jA (o9 (show (b+1)<(cO g (a+1) (fun x=>{ x with up:=0 })).length from om)) o_ (cH s 1 ?_)
   refine ia (o:=(b+1)*9+0) (o' := (b+1)*9+0) (i:=0) rfl rfl rfl yq fU d_ rfl (kD (f:=(fun x:Nd=>{ x with k0:=0 })) 1 s (fun S B ai=>?_))
   have C:fT (cO (cO g (a+1) (fun x=>{ x with up:=0 })) (b+1) (fun x=>{ x with k0:=0 })):=fT.iV R om (fun x a b c d e=>⟨om,b,c,d,e⟩)
   refine cH B 7 ?_
   refine gy (mQ fb nb m ed (cO (cO g (a+1) (fun x=>{ x with up:=0 })) (b+1) (fun x=>{ x with k0:=0 })) S · oa hb C (b+1) om) B fun aj E=>?_
   have U:fT (iU (cO (cO g (a+1) (fun x=>{ x with up:=0 })) (b+1) (fun x=>{ x with k0:=0 })) (b+1)):=fT.mJ C om
   refine cH E 8 ?_
   refine gL (e:=(IntKind.i64.wrap (ed-1))) rfl rfl (jI E 11 fun ak V=>?_)
   refine gT (v:=Zc) results199 rfl ?_
   obtain⟨b9,R9,ap,ar⟩:=O o_
   subst ap
   obtain⟨aq,av⟩:=ada n ar p k
   have al:=k.fo
   rw[aq]at al
   have am:=ag8 al
   have e9:wg g (a+1) (b+1)=iU (cO (cO g (a+1) (fun x=>{ x with up:=0 })) (b+1) (fun x=>{ x with k0:=0 })) (b+1):=rfl
   exact⟨_,_,iU (cO (cO g (a+1) (fun x=>{ x with up:=0 })) (b+1) (fun x=>{ x with k0:=0 })) (b+1),_,rfl,am.1,U,by rw[<-e9,am.2.1];have D:=k.len;have h8:=p.len;rw[vQ]at D;omega,yk V⟩
 . refine gm h 11 (.int .i64 5) ?_
   exact⟨_,ed,y,_,rfl,n,z,N,yk h⟩
theorem aa5(n:Nat)(w:World)(D:n<=65536) :
 CR ya 221 (Z3 n) w (fun r w' => ∃ fb nb,r = .tuple (Z1 fb)/\fP (fN []) w w' (fN (NT fb nb (n+1) (nu n n)))):=by
 refine iE func221 10 fun B=>?_
 refine gz rfl (kT o_) (cH B 2 ?_)
 refine gz rfl (ow o_) (cH B 10 ?_)
 refine kA (cf:=Nd.cells) (z0:=qi) (m:=n+1) (c:=n+1) rfl (js o_) (js o_) yi jA rfl f_ d_ (zh _) o_ o_ B ?_
 intro a f o p g
 have h:St [(w,[])] [blk a 388 ((nu n 0).flatMap Nd.cells)] f:=by rw[acH];exact g
 refine iL (pvs:=[(1,(Zf a (n+1)))]) (v:=.agg #[Zq,(Zf a (n+1)),Zc]) rfl rfl (i6 [(1,(p6 a (n+1)))] MM adH rfl oh rfl) (gN h (fun b q s t i=>?_))
 refine r7 i 20 fun u j=>?_
 refine lp (α:=Nat) (fun k=>[(4,(Zb b)),(21,(Za n)),(22,(Za k))]) (fun k w1=>St [(w,[])] (NT b a (n+1) (nu n k)) w1/\k<=n) (fun k=>n-k) 0 oh (⟨j,o_⟩) ?_
 rintro k x l ⟨A,C⟩
 refine fM A 2 ?_
 by_cases y:(k:Int)<(n:Int)
 . have d:=yd [_,_] [] A
   refine cH A 19 ?_
   refine cl (mQ b a (n+1) 0 (nu n k) l (yg d 0 rfl) (uk n k) o_ (Sk o_) (k+1) o_) ?_
   rintro _ z ⟨rfl,ht⟩
   rw[acF (show k<n by omega)]at ht
   have e:=(yw d ht)
   refine fK e 7 ?_
   exact gM (k+1) oh (⟨e,o_⟩) o1
 . refine jk A 18 (Zb b) Zc ?_
   obtain rfl:k=n:=by omega
   exact⟨b,a,rfl,me (yd [_,_] [] A)⟩
def kP(fb nb m:Nat):fJ where
 gq:=[fb,nb]
 holds w:=∃ (ed:Int) (xs:List Nd) (F:FT),(xs.length=m/\fT xs/\Fo xs F)/\(Zl fb nb m ed xs).holds w
 loc w w' h hh:=by
  obtain⟨ed,xs,F,a,c⟩:=hh
  exact⟨ed,xs,F,a,(Zl fb nb m ed xs).loc w w' (fun b hb=>h b (by simpa[fN,jb,blk]using hb)) c⟩
theorem xq:(Zl fb nb m ed xs).gq=(kP fb nb m).gq:=by simp[fN,jb,blk,kP]
theorem DT{nb m:Nat}{w:World}(h:Own (kP s nb m) w):∃ (ed:Int) (xs:List Nd) (F:FT),xs.length=m/\fT xs/\Fo xs F/\Own (Zl s nb m ed xs) w:=by
 obtain⟨ed,xs,F,⟨a,c,d⟩,e⟩:=h.holds
 exact⟨ed,xs,F,a,c,d,e,by rw[xq];exact h.nodup,fun b hb=>h.lt b (by rw[xq]at hb;exact hb)⟩
theorem Ei{nb m:Nat}{w w':World}{ed a:Int}{xs zs:List Nd}{F:FT}(h:fP (Zl s nb m ed xs) w w' (Zl s nb m a zs))(h1:zs.length=m)(c:fT zs)(d:Fo zs F):fP (kP s nb m) w w' (kP s nb m) :=
 ⟨⟨a, zs,F,⟨h1,c,d⟩,h.holds⟩,by have:=h.gf;rw[xq]at this;exact this,fun b hb=>by have:=h.place b (by rw[xq];exact hb);rw[xq]at this;exact this,by have:=h.nodup;rw[xq]at this;exact this,fun b hb=>h.lt b (by rw[xq];exact hb)⟩
theorem agV{nb m:Nat}{w w':World}{ed:Int}{xs:List Nd}{F:FT}(h:fP (fN []) w w' (Zl s nb m ed xs))(h1:xs.length=m)(a:fT xs)(b:Fo xs F):fP (fN []) w w' (kP s nb m) :=
 h.GF (xq s nb m ed xs).symm fun c=>⟨ed,xs,F,⟨h1,a,b⟩,c⟩
theorem RI(i:Own (kP fb nb m) w)(hb:m<=1000001)(a:Nat)(k:a+1<m)(key:Int)(hk:ij .i64 key) :
 CQ ya 222 (Zv fb a key) w (.int .i64 0) (kP fb nb m):=by
 obtain⟨ed,xs,F,b,c,d,j⟩:=DT i
 exact CR.mono (Vy fb nb m ed xs w j b hb c F d a k key hk) fun r w' ⟨e,zs,l,f,g,h,ht⟩=>⟨e,Ei ht h g f⟩
theorem abn(k:Own (kP fb nb m) w)(hb:m<=1000001)(a b:Nat)(n:a+1<m)(o:b+1<m) :
 CR ya 216 (Zv fb a b) w (fun r w' => ∃ (f:Nat) (B:Bool),r = .tuple (qG f B)/\f+1<m/\fP (kP fb nb m) w w' (kP fb nb m)):=by
 obtain⟨ed,xs,F,c,d,g,l⟩:=DT k
 exact CR.mono (Vv fb nb m ed xs w l c hb d F g a b n o) fun r w' ⟨f,B,zs,q,e,p,h,i,j,ht⟩=>⟨f,B,e,p,Ei ht j i h⟩
theorem RE(j:Own (kP fb nb m) w)(hb:m<=1000001)(a b:Nat)(l:a+1<m)(n:b+1<m) :
 CR ya 287 (Zv fb a b) w (fun r w' => ∃ e:Int,r = .int .i64 e/\fP (kP fb nb m) w w' (kP fb nb m)):=by
 obtain⟨ed,xs,F,c,d,f,k⟩:=DT j
 exact CR.mono (Vu fb nb m ed xs w k c hb d F f a b l n) fun r w' ⟨e,q, zs,p,o,g,h,i,ht⟩=>⟨e,o,Ei ht i h g⟩
theorem Rm(j:Own (kP fb nb m) w)(hb:m<=1000001)(a b:Nat)(l:a+1<m)(n:b+1<m) :
 CR ya 199 (Zv fb a b) w (fun r w' => ∃ e:Int,r = .int .i64 e/\fP (kP fb nb m) w w' (kP fb nb m)):=by
 obtain⟨ed,xs,F,c,d,f,k⟩:=DT j
 exact CR.mono (Vq fb nb m ed xs w k c hb d F f a b l n) fun r w' ⟨e,q, zs,p,o,g,h,i,ht⟩=>⟨e,o,Ei ht i h g⟩
end Go.Proofs.YtedjjkcihkmjgaaGreatDoor
