/- Walks through the code, one theorem a function, under what is said of its arguments. -/
import Derived.Test.YtedjjkcihkmjgaaGreatDoorFb
import Derived.Test.YtedjjkcihkmjgaaGreatDoorVa
import Derived.Test.YtedjjkcihkmjgaaGreatDoorFd
import Derived.Ground.Names2Prog
import Derived.Shelf.Slices.Delete
import Derived.Test.YtedjjkcihkmjgaaGreatDoorVb
import Derived.Test.YtedjjkcihkmjgaaGreatDoorFc
import Derived.Test.YtedjjkcihkmjgaaGreatDoorFa
set_option linter.unusedVariables false
set_option linter.unusedSimpArgs false
set_option maxRecDepth 100000
set_option maxHeartbeats 4000000
namespace Go.Proofs.YtedjjkcihkmjgaaGreatDoor
open Go Go.Sx Tryz
open Go.Shelf Go.Lib Go.Sort Go.RowKit in
def Tryz.Yy:Go.Shelf.Ren:=⟨fun|23=>130|n=>n,fun|22=>37|3=>3|4=>4|0=>0|n=>n,fun|n=>n⟩
open Go.Shelf Go.Lib Go.Sort Go.RowKit in
theorem Tryz.Yx:Go.Proofs.Lays2.n23 Proofs.Tryz.prog Tryz.Yy where
 mixed:=by kernel_rfl
 f23:=Proofs.Tryz.func130.trans (congrArg some<|by kernel_rfl)
 t0:=Proofs.Tryz.underlying0
 a0:=Proofs.Tryz.isAgg0
 z0:=Proofs.Tryz.sizeOf0
 v0:=Proofs.Tryz.zeroValue0
 t3:=Proofs.Tryz.underlying3
 a3:=Proofs.Tryz.isAgg3
 z3:=Proofs.Tryz.sizeOf3
 v3:=Proofs.Tryz.zeroValue3
 t4:=Proofs.Tryz.underlying4
 a4:=Proofs.Tryz.isAgg4
 z4:=Proofs.Tryz.sizeOf4
 v4:=Proofs.Tryz.zeroValue4
 t22:=Proofs.Tryz.underlying37
 a22:=Proofs.Tryz.isAgg37
 z22:=Proofs.Tryz.sizeOf37
 v22:=Proofs.Tryz.zeroValue37
 i3:=by kernel_rfl
variable(fb nb m:Nat)(ed:Int)(xs:List Nd)(v:Value)(w:World)
theorem IZ(xs:List Int)(w:World)(i:Nat)(f:Own (iz .i64 v 3 xs) w)(hi:i<xs.length) :
 CR ya 130 #[v,.int .i64 (i:Int),.int .i64 ((i+1:Nat):Int)] w (fun r w' => fV (iz .i64 v 3 xs) w w' (iz .i64 r 3 (xs.eraseIdx i))) :=
 Wn f hi fun b a c d e=>Any.slices_Delete_int Tryz.Yx b 0 a i (i+1) xs w c d e o_ o_
theorem Jw(xs:List Int)(x:Int)(k:Nat)(w:World)(hv:Ints .i64 (fun _=>True) w v xs)(A:xs.length<=1000000)(hk:xs[k]? = some x)(t:∀ (j:Nat) (y:Int),j<k->xs[j]? = some y->y≠x) :
 CR ya 129 #[v,(Za x)] w (fun r w' => r = .int .i64 (k:Int)/\gx [] w w'):=by
 have z:=(zt.1 hk).1
 refine en func129 ntmps129 ?_
 have o:=yu w
 refine fR o 9 ?_
 refine jY (v:=v) rfl rfl yd hv (gF o 4 ?_)
 refine lp (α:=Nat) (fun q=>[(0,v),(1,(Za x)),(7,(Za xs.length)),(8,(Za q))]) (fun q w1=>St [(w,[])] [] w1/\q<=k) (fun q=>k-q) 0 ⟨rfl,rfl,rfl,gm rO,trivial⟩ (⟨o,o_⟩) ?_
 rintro q d e ⟨m,B⟩
 obtain⟨y,n⟩:=oW (show q<xs.length by omega)
 refine fR m 2 ?_
 refine cmp rfl rfl rfl (p8 o_) (fK m 19 ?_)
 refine CI (i:=(q:Int)) (el:=y) rfl rfl rfl yd gq (St.Fu m s_ hv) o_ (by rw[show ((q:Nat):Int).toNat=q by omega];exact n) ?_
 intro f g b c h
 have l:=c.i64
 refine ld rfl rfl yg rfl b ?_
 by_cases a:(x:Int)=(y:Int)
 . have u:q=k:=(BY q k).elim (fun p=>absurd (show y=x from by have s:=a;omega) (t q y p n)) (fun p=>by omega)
   refine fP m 16 ?_
   refine gf (v:=(Za q)) results129 rfl ?_
   obtain rfl:q=k:=by omega
   exact⟨rfl,m.gA s_⟩
 . have u:q≠k:=by rintro rfl;rw[hk]at n;cases n;exact(by have s:=a;omega:False)
   refine fP m 11 ?_
   refine tN (?_)
   exact again (q+1) ⟨rfl,rfl,rfl,gm rO,trivial⟩ (⟨m,o_⟩) (by show (k-(q+1):Nat)<k-q;omega)
theorem Ti(ub:Nat)(s:fW)(w:World)(hO:Own (fW.R fb nb ub s) w)(i:Nat)(hi:s.A.ij i) :
 CR ya 75 (Zm ub i) w (fun r w' => ∃ (s2:fW),r = .tuple #[(An (fJ s.live i)),.int .i64 0]/\((∀ y,s2.has y↔s.has y/\y.slot≠(i:Int))/\s2.last=s.last/\TW.Kp s.t s2.t)/\fV (fW.R fb nb ub s) w w' (fW.R fb nb ub s2)):=by
 have cb:s.t.A.used<=s.t.A.n:=hO.fact.tok.ul
 have b6:=hO.fact.n
 have b7:=hO.fact.tn
 have b5:=hO.fact.en
 have b8:=hO.fact.vn
 have b4:s.A.used<=s.A.begun:=by have T:=hO.fact.kV.used;omega
 have b3:=hO.fact.kV.le
 have ca:=hO.fact.ll
 have b9:=hi.1
 have bY:=hO.fact.ne i hi
 refine en func75 ntmps75 ?_
 have b2:=Own.of hO.un
 have F:s.ok fb nb:=hO.fact
 refine fR b2 2 ?_
 refine iR b2 (fun C aT bE bF an=>?_)
 have aU:=yf [1,2,3,4,5,6,0] an
 have ao:=yn (p:=s.ok fb nb) (yc [_,_,_,_,_,_] _ aU) F
 refine fK an 7 ?_
 refine cl (xd fb nb ub s aT (ye ao 0 rfl)) ?_
 rintro _ aV ⟨rfl,ht⟩
 have aW:=yh 0 ao ht
 have Y:=(jM aW).unpack
 refine fK Y 14 ?_
 refine cl (Ty s.jg s.aw aV (ye Y 4 rfl) i hi) ?_
 rintro _ bG ⟨g,rfl,S,ht⟩
 have Z:=yh 4 Y ht
 have bX:=(y9 Z (i:=4) rfl:g.A.ok)
 refine fK Z 21 ?_
 refine iR Z (fun D bH bI bJ aX=>?_)
 refine gC aX 10 fun bK ap=>?_
 refine iU (pvs:=[]) (v:=.agg HU) rfl rfl (jj [] o8 Kt rfl trivial rfl) (fK ap 1 ?_)
 refine iQ (f:=(fun _=>(⟨0,0,0,0,0,0,0⟩:Lv))) 2 ap (fun aY K=>?_)
 refine fK K 11 ?_
 refine iU (pvs:=[(0,(Zl ((fJ s.live i).u))),(1,(Zl ((fJ s.live i).v)))]) (v:=.agg (uS ((fJ s.live i).u) ((fJ s.live i).v))) rfl rfl (tY [(0,(Zt ((fJ s.live i).u))),(1,(Zt ((fJ s.live i).v)))] uA y8 iX rfl ⟨rfl,rfl,rfl,rfl,trivial⟩ rfl s_) (gF K 4 ?_)
 refine qq 3 (iB (fR K 13 ?_))
 refine mw (i:=0) rfl rfl rfl y8 yo rfl iX d_ rfl ?_
 have aZ:=yf [4,0,1,2,3,5,6,7] K
 have L:=zS ((fJ s.live i).u) aZ
 refine fK K 10 ?_
 refine qh (a:=(fJ s.live i).u) (mm:=s.im) (enc:=p_) (k:=.u64) 5 rfl rfl rfl y0 yo kz rfl L rfl (kM (v:=((p6 s i).1)) rfl rfl (fK L 5 ?_))
 refine mv (v:=((p6 s i).1)) rfl rfl ?_
 have a0:=((F.inc (fJ s.live i).u i).2 ⟨hi,.inl rfl⟩)
 obtain⟨b,aq,au,a1⟩:=Js a0 (F.nd _)
 have a2:b<(gy (p6 s i).2).length:=(zt.1 au).1
 have av:(gy (p6 s i).2).length<=1000000:=by rw[gy,zu];exact mF (F.Jv _) d_
 refine fK L 1 ?_
 refine cl (Jw ((p6 s i).1) (gy (p6 s i).2) (i:Int) b aY (xq L (i:=0) rfl (Ke (by rw[gy,zu]at av;exact fun j hj=>Ju F (fun _ h=>h) hj))).any av au a1) ?_
 rintro _ a3 ⟨rfl,a4⟩
 have M:=yr L a4
 refine fK M 6 ?_
 refine cmp rfl rfl rfl (ow o_) (fK M 4 ?_)
 refine mv (v:=((p6 s i).1)) rfl rfl (fK M 2 ?_)
 refine ar (e:=((b+1:Nat):Int)) rfl rfl rfl rfl je (cl (IZ ((p6 s i).1) (gy (p6 s i).2) a3 b (ye M 0 rfl) a2) ?_)
 rintro d bL ht
 have bZ:=yh 0 M ht
 rw[Kb]at bZ
 have E:=bZ
 refine fK E 7 ?_
 refine iV (m:=(gy ((p6 s i).2.eraseIdx b)).length) 0 rfl rfl yd E rfl ?_
 by_cases ax:(((gy ((p6 s i).2.eraseIdx b)).length:Nat):Int)>0
 . have a5:(p6 s i).2.eraseIdx b≠[]:=by intro e9;have T:=@ax;rw[e9]at T;simp[gy]at T
   refine fK E 12 ?_
   refine qD (a:=(fJ s.live i).u) (c:=(d,(p6 s i).2.eraseIdx b)) (mm:=s.im) (enc:=p_) (k:=.u64) (L' := (M3 d (gy ((fS s.im ((fJ s.live i).u)).2.eraseIdx b)) (iL s.im ((fJ s.live i).u)) D (fJ s.live i) ub fb nb s (some s.mb) (fO s.live i (fun _=>(⟨0,0,0,0,0,0,0⟩:Lv))) (gr s.im ((fJ s.live i).u) (d,(fS s.im ((fJ s.live i).u)).2.eraseIdx b)) g C)) 5 rfl rfl rfl rfl y0 yo E rfl rfl ?_
   intro a6 ay
   have aa:=zP ay
   have x:mT s.im s.t (uZ s i d b) s.t (fJ s.live i).u i:=mT.keep (F.nd _) aq a5
   refine fP ay 10 ?_
   refine tN (?_)
   refine iB (fR aa 13 ?_)
   refine mw (i:=1) rfl rfl rfl y8 yo rfl iX d_ rfl ?_
   have N:=zS ((fJ s.live i).v) aa
   refine fK aa 10 ?_
   refine qh (a:=(fJ s.live i).v) (mm:=(uZ s i d b)) (enc:=p_) (k:=.u64) 5 rfl rfl rfl y0 yo kz rfl N rfl (kM (v:=((p5 s i d b).1)) rfl rfl (fK N 5 ?_))
   refine mv (v:=((p5 s i d b).1)) rfl rfl ?_
   have a7:=((x.get (fJ s.live i).v i).2 ⟨(F.inc (fJ s.live i).v i).2 ⟨hi,.inr rfl⟩,fun e=>absurd e.symm bY⟩)
   obtain⟨l,az,aA,a8⟩:=Js a7 (x.nd F.nd _)
   have a9:l<(gy (p5 s i d b).2).length:=(zt.1 aA).1
   have aB:(gy (p5 s i d b).2).length<=1000000:=by rw[gy,zu];exact mF (inc_le F x _) d_
   refine fK N 1 ?_
   refine cl (Jw ((p5 s i d b).1) (gy (p5 s i d b).2) (i:Int) l a6 (xq N (i:=0) rfl (Ke (by rw[gy,zu]at aB;exact fun j hj=>Ju F (fun _ h=>((x.get _ _).1 h).1) hj))).any aB aA a8) ?_
   rintro _ ba ⟨rfl,bb⟩
   have O:=yr N bb
   refine fK O 6 ?_
   refine cmp rfl rfl rfl (ow o_) (fK O 4 ?_)
   refine mv (v:=((p5 s i d b).1)) rfl rfl (fK O 2 ?_)
   refine ar (e:=((l+1:Nat):Int)) rfl rfl rfl rfl je (cl (IZ ((p5 s i d b).1) (gy (p5 s i d b).2) ba l (ye O 0 rfl) a9) ?_)
   rintro G bM ht
   have b0:=yh 0 O ht
   rw[Kb]at b0
   have H:=b0
   refine fK H 7 ?_
   refine iV (m:=(gy ((p5 s i d b).2.eraseIdx l)).length) 0 rfl rfl yd H rfl ?_
   by_cases aC:(((gy ((p5 s i d b).2.eraseIdx l)).length:Nat):Int)>0
   . have bc:(p5 s i d b).2.eraseIdx l≠[]:=by intro e9;have T:=@aC;rw[e9]at T;simp[gy]at T
     refine fK H 12 ?_
     refine qD (a:=(fJ s.live i).v) (c:=(G,(p5 s i d b).2.eraseIdx l)) (mm:=(uZ s i d b)) (enc:=p_) (k:=.u64) (L' := (M3 G (gy ((fS (gr s.im ((fJ s.live i).u) (d,(fS s.im ((fJ s.live i).u)).2.eraseIdx b)) ((fJ s.live i).v)).2.eraseIdx l)) (iL (gr s.im ((fJ s.live i).u) (d,(fS s.im ((fJ s.live i).u)).2.eraseIdx b)) ((fJ s.live i).v)) D (fJ s.live i) ub fb nb s (some s.mb) (fO s.live i (fun _=>(⟨0,0,0,0,0,0,0⟩:Lv))) (gr (gr s.im ((fJ s.live i).u) (d,(fS s.im ((fJ s.live i).u)).2.eraseIdx b)) ((fJ s.live i).v) (G,(fS (gr s.im ((fJ s.live i).u) (d,(fS s.im ((fJ s.live i).u)).2.eraseIdx b)) ((fJ s.live i).v)).2.eraseIdx l)) g C)) 5 rfl rfl rfl rfl y0 yo H rfl rfl ?_
     intro bN aD
     have aE:=zP aD
     have aF:mT (uZ s i d b) s.t (Ig s i d b G l) s.t (fJ s.live i).v i:=mT.keep (x.nd F.nd _) az bc
     refine fP aD 10 ?_
     refine tN (?_)
     refine iB (fR aE 15 ?_)
     refine jt 7 aE (fun bO ac=>?_)
     refine fP ac 4 ?_
     refine o7 (v:=(An (fJ s.live i))) (v' := Zc) G9 (nX (cs:=(oh (fJ s.live i))) rfl xm rfl o8 rfl (mO ac (i:=7) (o:=0) (vs:=(oh (fJ s.live i))) rfl rfl)) (pN rfl) ?_
     have aG:=yf [2,3,4,0,5,6,1,7] ac
     have bW:=(y9 aG (i:=5) rfl:s.t.ok)
     have bk:=F.rem hi S bX bW x aF (lv2:=s.lv) (ls:=fO s.live i (fun _=>(⟨0,0,0,0,0,0,0⟩:Lv))) rfl
     exact⟨(⟨s.jg,s.tb,s.ab,s.mb,s.lv,s.last,g,s.t,fO s.live i (fun _=>(⟨0,0,0,0,0,0,0⟩:Lv)),(Ig s i d b G l)⟩:fW),rfl,⟨bk.2,rfl,aF.yA (TW.Kp.refl _) (TW.Kp.refl _)⟩,ym (yn (p:=fW.ok fb nb (⟨s.jg,s.tb,s.ab,s.mb,s.lv,s.last,g,s.t,fO s.live i (fun _=>(⟨0,0,0,0,0,0,0⟩:Lv)),(Ig s i d b G l)⟩:fW)) (yc [_,_,_,_,_,_] _ aG) bk.1) zd⟩
   . have bd:(p5 s i d b).2.eraseIdx l=[]:=by have T:=@aC;simp only[gy,zu]at T;exact vD o_
     have be:=yf [1,2,3,4,5,6,7,8] H
     refine fK H 13 ?_
     refine CB (a:=(fJ s.live i).v) (mm:=(uZ s i d b)) (enc:=p_) (k:=.u64) (L' := (Mu (iL (gr s.im ((fJ s.live i).u) (d,(fS s.im ((fJ s.live i).u)).2.eraseIdx b)) ((fJ s.live i).v)) D (fJ s.live i) ub fb nb s (some s.mb) (fO s.live i (fun _=>(⟨0,0,0,0,0,0,0⟩:Lv))) g C)) 4 rfl rfl rfl y0 yo be rfl rfl ?_
     intro bf ad
     obtain⟨bg,bh,bi⟩:=((x.mem (fJ s.live i).v).2 ⟨(F.mem (fJ s.live i).v).2 ⟨i,hi,.inr rfl⟩,fun e=>absurd e.symm bY⟩)
     refine fK ad 8 ?_
     refine cl (Lm s.tb s.ab s.t bf (ye ad 6 rfl) (fJ s.live i).v bg bh bi) ?_
     rintro _ bP ⟨U,rfl,ae,ht⟩
     have af:=yh 6 ad ht
     have aH:mT (uZ s i d b) s.t (Ie s i d b) U (fJ s.live i).v i:=mT.drop (x.keys F.keys) (x.nd F.nd _) az bd ae.1 ae.2.1
     refine fP af 7 ?_
     refine tN (?_)
     refine iB (fR af 15 ?_)
     refine jt 7 af (fun bQ ag=>?_)
     refine fP ag 4 ?_
     refine o7 (v:=(An (fJ s.live i))) (v' := Zc) G9 (nX (cs:=(oh (fJ s.live i))) rfl xm rfl o8 rfl (mO ag (i:=7) (o:=0) (vs:=(oh (fJ s.live i))) rfl rfl)) (pN rfl) ?_
     have aI:=yf [2,3,4,0,5,6,1,7] ag
     have bW:=(y9 aI (i:=5) rfl:U.ok)
     have bk:=F.rem hi S bX bW x aH (lv2:=s.lv) (ls:=fO s.live i (fun _=>(⟨0,0,0,0,0,0,0⟩:Lv))) rfl
     exact⟨(⟨s.jg,s.tb,s.ab,s.mb,s.lv,s.last,g,U,fO s.live i (fun _=>(⟨0,0,0,0,0,0,0⟩:Lv)),(Ie s i d b)⟩:fW),rfl,⟨bk.2,rfl,aH.yA (TW.Kp.refl _) ae.2.2.2.2⟩,ym (yn (p:=fW.ok fb nb (⟨s.jg,s.tb,s.ab,s.mb,s.lv,s.last,g,U,fO s.live i (fun _=>(⟨0,0,0,0,0,0,0⟩:Lv)),(Ie s i d b)⟩:fW)) (yc [_,_,_,_,_,_] _ aI) bk.1) zd⟩
 . have bj:(p6 s i).2.eraseIdx b=[]:=by have T:=@ax;simp only[gy,zu]at T;exact vD o_
   have bl:=yf [1,2,3,4,5,6,7,8] E
   refine fK E 13 ?_
   refine CB (a:=(fJ s.live i).u) (mm:=s.im) (enc:=p_) (k:=.u64) (L' := (Mu (iL s.im ((fJ s.live i).u)) D (fJ s.live i) ub fb nb s (some s.mb) (fO s.live i (fun _=>(⟨0,0,0,0,0,0,0⟩:Lv))) g C)) 4 rfl rfl rfl y0 yo bl rfl rfl ?_
   intro bm ah
   obtain⟨bn,bo,bp⟩:=((F.mem (fJ s.live i).u).2 ⟨i,hi,.inl rfl⟩)
   refine fK ah 8 ?_
   refine cl (Lm s.tb s.ab s.t bm (ye ah 6 rfl) (fJ s.live i).u bn bo bp) ?_
   rintro _ bq ⟨z,rfl,V,ht⟩
   have W:=yh 6 ah ht
   have B:mT s.im s.t (uY s i) z (fJ s.live i).u i:=mT.drop F.keys (F.nd _) aq bj V.1 V.2.1
   refine fP W 7 ?_
   refine tN (?_)
   refine iB (fR W 13 ?_)
   refine mw (i:=1) rfl rfl rfl y8 yo rfl iX d_ rfl ?_
   have P:=zS ((fJ s.live i).v) W
   refine fK W 10 ?_
   refine qh (a:=(fJ s.live i).v) (mm:=(uY s i)) (enc:=p_) (k:=.u64) 5 rfl rfl rfl y0 yo kz rfl P rfl (kM (v:=((pG s i).1)) rfl rfl (fK P 5 ?_))
   refine mv (v:=((pG s i).1)) rfl rfl ?_
   have br:=((B.get (fJ s.live i).v i).2 ⟨(F.inc (fJ s.live i).v i).2 ⟨hi,.inr rfl⟩,fun e=>absurd e.symm bY⟩)
   obtain⟨q,aJ,aK,bs⟩:=Js br (B.nd F.nd _)
   have bt:q<(gy (pG s i).2).length:=(zt.1 aK).1
   have aL:(gy (pG s i).2).length<=1000000:=by rw[gy,zu];exact mF (inc_le F B _) d_
   refine fK P 1 ?_
   refine cl (Jw ((pG s i).1) (gy (pG s i).2) (i:Int) q bq (xq P (i:=0) rfl (Ke (by rw[gy,zu]at aL;exact fun j hj=>Ju F (fun _ h=>((B.get _ _).1 h).1) hj))).any aL aK bs) ?_
   rintro _ bu ⟨rfl,bv⟩
   have Q:=yr P bv
   refine fK Q 6 ?_
   refine cmp rfl rfl rfl (ow o_) (fK Q 4 ?_)
   refine mv (v:=((pG s i).1)) rfl rfl (fK Q 2 ?_)
   refine ar (e:=((q+1:Nat):Int)) rfl rfl rfl rfl je (cl (IZ ((pG s i).1) (gy (pG s i).2) bu q (ye Q 0 rfl) bt) ?_)
   rintro I bR ht
   have b1:=yh 0 Q ht
   rw[Kb]at b1
   have J:=b1
   refine fK J 7 ?_
   refine iV (m:=(gy ((pG s i).2.eraseIdx q)).length) 0 rfl rfl yd J rfl ?_
   by_cases aM:(((gy ((pG s i).2.eraseIdx q)).length:Nat):Int)>0
   . have bw:(pG s i).2.eraseIdx q≠[]:=by intro e9;have T:=@aM;rw[e9]at T;simp[gy]at T
     refine fK J 12 ?_
     refine qD (a:=(fJ s.live i).v) (c:=(I,(pG s i).2.eraseIdx q)) (mm:=(uY s i)) (enc:=p_) (k:=.u64) (L' := [iz .i64 I 3 (gy ((pG s i).2.eraseIdx q)),jF 3 (Am s i),blk D 43 (oh (fJ s.live i)),blk ub 174 (pY fb nb s (some s.mb)),fL Lv.cells s.lv 43 7 (fO s.live i (fun _=>(⟨0,0,0,0,0,0,0⟩:Lv))),ia s.mb .u64 p_ (EI s i I q),(AW.R s.jg g),(Ax s z),blk C 43 oQ]) 5 rfl rfl rfl rfl y0 yo J rfl rfl ?_
     intro bS aN
     have aO:=zP aN
     have aP:mT (uY s i) z (EI s i I q) z (fJ s.live i).v i:=mT.keep (B.nd F.nd _) aJ bw
     refine fP aN 10 ?_
     refine tN (?_)
     refine iB (fR aO 15 ?_)
     refine jt 7 aO (fun bT ai=>?_)
     refine fP ai 4 ?_
     refine o7 (v:=(An (fJ s.live i))) (v' := Zc) G9 (nX (cs:=(oh (fJ s.live i))) rfl xm rfl o8 rfl (mO ai (i:=7) (o:=0) (vs:=(oh (fJ s.live i))) rfl rfl)) (pN rfl) ?_
     have aQ:=yf [2,3,4,0,5,6,1,7] ai
     have bW:=(y9 aQ (i:=5) rfl:z.ok)
     have bk:=F.rem hi S bX bW B aP (lv2:=s.lv) (ls:=fO s.live i (fun _=>(⟨0,0,0,0,0,0,0⟩:Lv))) rfl
     exact⟨(⟨s.jg,s.tb,s.ab,s.mb,s.lv,s.last,g,z,fO s.live i (fun _=>(⟨0,0,0,0,0,0,0⟩:Lv)),(EI s i I q)⟩:fW),rfl,⟨bk.2,rfl,aP.yA V.2.2.2.2 (TW.Kp.refl _)⟩,ym (yn (p:=fW.ok fb nb (⟨s.jg,s.tb,s.ab,s.mb,s.lv,s.last,g,z,fO s.live i (fun _=>(⟨0,0,0,0,0,0,0⟩:Lv)),(EI s i I q)⟩:fW)) (yc [_,_,_,_,_,_] _ aQ) bk.1) zd⟩
   . have bx:(pG s i).2.eraseIdx q=[]:=by have T:=@aM;simp only[gy,zu]at T;exact vD o_
     have bz:=yf [1,2,3,4,5,6,7,8] J
     refine fK J 13 ?_
     refine CB (a:=(fJ s.live i).v) (mm:=(uY s i)) (enc:=p_) (k:=.u64) (L' := [jF 3 (Am s i),blk D 43 (oh (fJ s.live i)),blk ub 174 (pY fb nb s (some s.mb)),fL Lv.cells s.lv 43 7 (fO s.live i (fun _=>(⟨0,0,0,0,0,0,0⟩:Lv))),ia s.mb .u64 p_ (Am s i),(AW.R s.jg g),(Ax s z),blk C 43 oQ]) 4 rfl rfl rfl y0 yo bz rfl rfl ?_
     intro bA aj
     obtain⟨bB,bC,bD⟩:=((B.mem (fJ s.live i).v).2 ⟨(F.mem (fJ s.live i).v).2 ⟨i,hi,.inr rfl⟩,fun e=>absurd e.symm bY⟩)
     refine fK aj 8 ?_
     refine cl (Lm s.tb s.ab z bA (ye aj 6 rfl) (fJ s.live i).v bB bC bD) ?_
     rintro _ bU ⟨X,rfl,ak,ht⟩
     have al:=yh 6 aj ht
     have aR:mT (uY s i) z (Am s i) X (fJ s.live i).v i:=mT.drop (B.keys F.keys) (B.nd F.nd _) aJ bx ak.1 ak.2.1
     refine fP al 7 ?_
     refine tN (?_)
     refine iB (fR al 15 ?_)
     refine jt 7 al (fun bV am=>?_)
     refine fP am 4 ?_
     refine o7 (v:=(An (fJ s.live i))) (v' := Zc) G9 (nX (cs:=(oh (fJ s.live i))) rfl xm rfl o8 rfl (mO am (i:=7) (o:=0) (vs:=(oh (fJ s.live i))) rfl rfl)) (pN rfl) ?_
     have aS:=yf [2,3,4,0,5,6,1,7] am
     have bW:=(y9 aS (i:=5) rfl:X.ok)
     have bk:=F.rem hi S bX bW B aR (lv2:=s.lv) (ls:=fO s.live i (fun _=>(⟨0,0,0,0,0,0,0⟩:Lv))) rfl
     exact⟨(⟨s.jg,s.tb,s.ab,s.mb,s.lv,s.last,g,X,fO s.live i (fun _=>(⟨0,0,0,0,0,0,0⟩:Lv)),(Am s i)⟩:fW),rfl,⟨bk.2,rfl,aR.yA V.2.2.2.2 ak.2.2.2.2⟩,ym (yn (p:=fW.ok fb nb (⟨s.jg,s.tb,s.ab,s.mb,s.lv,s.last,g,X,fO s.live i (fun _=>(⟨0,0,0,0,0,0,0⟩:Lv)),(Am s i)⟩:fW)) (yc [_,_,_,_,_,_] _ aS) bk.1) zd⟩
theorem ae4(hv:fb<=4096)(H:nb<=16384) :
 CR ya 145 #[(Za fb),(Za nb),Zy] w (fun r w' => ∃ (ub:Nat) (s:fW),r = .tuple (Zz ub)/\((∀ y,¬ s.has y)/\s.last=0)/\fV (gh []) w w' (fW.R fb nb ub s)):=by
 refine en func145 ntmps145 ?_
 have F:=yu w
 refine fR F 10 ?_
 refine cmp rfl rfl rfl (kG o_) (fK F 2 ?_)
 refine cmp rfl rfl rfl (nN o_) (fK F 3 ?_)
 refine cmp rfl rfl rfl (kG o_) (fK F 3 ?_)
 refine cmp rfl rfl rfl (nN o_) (fK F 13 ?_)
 refine cl (TE nb w o_) ?_
 rintro _ o ⟨a,f,rfl,q,ht⟩
 have h:=(jm F ht)
 refine fK h 20 ?_
 refine cl (aeK fb o o_) ?_
 rintro _ z ⟨b,d,e,rfl,j,ht⟩
 have k:=(jm h ht)
 refine fK k 24 ?_
 refine mkV p_ .u64 rfl rfl k (fun c A B C t=>iU (pvs:=[(0,(Za fb)),(1,(Za nb)),(2,Zy),(3,(Zb a)),(4,(Zb b)),(6,(.map (some c)))]) (v:=.agg #[(Za fb),(Za nb),Zy,(Zb a),(Zb b),Zi,(.map (some c))]) rfl rfl (jj [(0,(Ze fb)),(1,(Ze nb)),(2,uT),(3,(Zf a)),(4,(Zf b)),(6,[(.map (some c))])] SD abq rfl ⟨rfl,rfl,rfl,rfl,rfl,rfl,rfl,rfl,rfl,rfl,rfl,rfl,trivial⟩ rfl) (ir t (fun g l D E m=>?_)))
 refine fP m 5 ?_
 refine gZ (v:=(Zb g)) (v' := Zc) results145 rfl rfl ?_
 have u:St _ [fL Lv.cells Zi 43 7 ([]),blk g 174 (M9 fb nb a b (some c)),ia c .u64 p_ ([]),(TW.R b d e),(AW.R a f)] l:=qJ m 43 7
 have x:St _ [jF 3 [],fL Lv.cells Zi 43 7 ([]),blk g 174 (M9 fb nb a b (some c)),ia c .u64 p_ ([]),(TW.R b d e),(AW.R a f)] l:=St.Jb u
 have n:=yf [2,1,3,0,5,4] x
 have I:=(y9 n (i:=5) rfl:e.ok)
 have G:=fW.uk q I j.1 j.2.1 H hv a b d c
 exact⟨g,(⟨a,b,d,c,.slice none 0 0,0,f,e,[],[]⟩:fW),rfl,⟨G.2,rfl⟩,uE (yn (p:=fW.ok fb nb (⟨a,b,d,c,.slice none 0 0,0,f,e,[],[]⟩:fW)) (yc [_,_,_,_,_,_] _ n) G.1) s_⟩
theorem ado(g:(Al fb nb m ed).holds w)(f:(blk nb 388 (xs.flatMap Nd.cells)).holds w)(hm:xs.length=m)(hb:m<=1000001)(e:fZ xs)(i:Nat)(hi:i<m) :
 CR ya 341 (Zm fb i) w (fun r w' => r = .tuple (Z9 ((jI xs i).1:Int) ((jI xs i).2))/\gx [] w w'):=by
 have h:=e.up i o_
 refine en func341 ntmps341 ?_
 have d:=yu w
 refine fR d 23 ?_
 by_cases a:((fJ xs i).up:Int)=0
 . refine fP d 12 ?_
   refine gZ (v:=Zc) (v' := Zn) G7 rfl rfl ?_
   exact⟨by simp only[jI];(repeat' split)<;>(first|rfl|omega),d.gA s_⟩
 . refine fK d 14 ?_
   refine jq (o' := ((fJ xs i).up)*9+0) (i:=((fJ xs i).up:Int)) rfl rfl rfl yk jo o_ o_ (gF d 6 ?_)
   refine qq 3 (iB (fR d 14 ?_))
   refine mw (i:=0) rfl rfl rfl yq yg rfl gq d_ rfl (fK d 8 ?_)
   by_cases b:((fJ xs ((fJ xs i).up)).k0:Int)=(i:Int)
   . refine fP d 17 ?_
     refine gZ (v:=Zc) (v' := Zg) G7 rfl rfl ?_
     exact⟨by simp only[jI];(repeat' split)<;>(first|rfl|omega),d.gA s_⟩
   . refine fP d 11 ?_
     refine tN (?_)
     refine iB (fR d 14 ?_)
     refine mw (i:=1) rfl rfl rfl yq yg rfl gq d_ rfl (fK d 8 ?_)
     by_cases c:((fJ xs ((fJ xs i).up)).k1:Int)=(i:Int)
     . refine fP d 17 ?_
       refine gZ (v:=pZ) (v' := Zg) G7 rfl rfl ?_
       exact⟨by simp only[jI];(repeat' split)<;>(first|rfl|omega),d.gA s_⟩
     . refine fP d 11 ?_
       refine tN (?_)
       refine iB (iT d 19 ?_)
       refine gZ (v:=Zc) (v' := Zn) G7 rfl rfl ?_
       exact⟨by simp only[jI];(repeat' split)<;>(first|rfl|omega),d.gA s_⟩
theorem EW(k:(Al fb nb m ed).holds w)(h:(blk nb 388 (xs.flatMap Nd.cells)).holds w)(hm:xs.length=m)(hb:m<=1000001)(g:fZ xs)(i j:Nat)(hi:i<m)(l:j<m) :
 CR ya 325 (Zv fb i j) w (fun r w' => r = .bool (lK xs i j)/\gx [] w w'):=by
 refine en func325 ntmps325 ?_
 have f:=yu w
 refine ry f 31 fun b a=>?_
 by_cases c:((fJ xs i).key:Int)<((fJ xs j).key:Int)
 . refine fP a 15 ?_
   refine gf (v:=Zg) G6 rfl ?_
   exact⟨Fg ((decide_eq_true o_).symm),a.gA s_⟩
 . refine fK a 4 ?_
   by_cases d:((fJ xs i).key:Int)=((fJ xs j).key:Int)
   . refine fK a 4 ?_
     by_cases e:(i:Int)<(j:Int)
     . refine fP a 7 ?_
       refine gf (v:=Zg) G6 rfl ?_
       exact⟨Fg ((decide_eq_true o_).symm),a.gA s_⟩
     . refine fP a 7 ?_
       refine gf (v:=Zn) G6 rfl ?_
       exact⟨Fg ((decide_eq_false o_).symm),a.gA s_⟩
   . refine fP a 11 ?_
     refine gf (v:=Zn) G6 rfl ?_
     exact⟨Fg ((decide_eq_false o_).symm),a.gA s_⟩
theorem si(p:Own (Zk fb nb m ed xs) w)(hm:xs.length=m)(hb:m<=1000001)(q:fZ xs)(i k:Nat)(hi:i<m)(hk:k<m) :
 CR ya 359 #[(Zb fb),(Za i),Zc,(Za k)] w (fun r w' => r = .tuple #[]/\fV (Zk fb nb m ed xs) w w' (Zk fb nb m ed (jb xs i 0 k))):=by
 refine en func359 ntmps359 ?_
 have n:=(yt p).unpack
 refine fR n 11 ?_
 refine ic (o:=i*9+0) (o' := i*9+0) (i:=0) rfl rfl rfl yq gq d_ rfl (j8 (f:=(fun x:Nd=>{ x with k0:=k })) 1 n (fun c a d=>?_))
 refine fK a 5 ?_
 by_cases e:(k:Int)=0
 . refine fP a 5 ?_
   refine jc G8 ?_
   have l:jb xs i 0 k=fO xs i (fun x=>{ x with k0:=k }):=by simp only[jb,reduceIte,D3];(repeat' split)<;>(first|rfl|omega)
   have j:=a
   rw[<-l]at j
   exact⟨rfl,yj (yc [_,_] [] j)⟩
 . refine fK a 13 ?_
   refine j8 (f:=(fun x:Nd=>{ x with up:=i })) 1 a (fun g b h=>?_)
   refine fP b 1 ?_
   refine jc G8 ?_
   have l:jb xs i 0 k=fO (fO xs i (fun x=>{ x with k0:=k })) k (fun x=>{ x with up:=i }):=by simp only[jb,reduceIte,D3];(repeat' split)<;>(first|rfl|omega)
   have j:=b
   rw[<-l]at j
   exact⟨rfl,yj (yc [_,_] [] j)⟩
theorem sj(p:Own (Zk fb nb m ed xs) w)(hm:xs.length=m)(hb:m<=1000001)(q:fZ xs)(i k:Nat)(hi:i<m)(hk:k<m) :
 CR ya 359 #[(Zb fb),(Za i),pZ,(Za k)] w (fun r w' => r = .tuple #[]/\fV (Zk fb nb m ed xs) w w' (Zk fb nb m ed (jb xs i 1 k))):=by
 refine en func359 ntmps359 ?_
 have n:=(yt p).unpack
 refine fR n 11 ?_
 refine ic (o:=i*9+0) (o' := i*9+1) (i:=1) rfl rfl rfl yq gq d_ rfl (j8 (f:=(fun x:Nd=>{ x with k1:=k })) 1 n (fun c a d=>?_))
 refine fK a 5 ?_
 by_cases e:(k:Int)=0
 . refine fP a 5 ?_
   refine jc G8 ?_
   have l:jb xs i 1 k=fO xs i (fun x=>{ x with k1:=k }):=by simp only[jb,reduceIte,D3];(repeat' split)<;>(first|rfl|omega)
   have j:=a
   rw[<-l]at j
   exact⟨rfl,yj (yc [_,_] [] j)⟩
 . refine fK a 13 ?_
   refine j8 (f:=(fun x:Nd=>{ x with up:=i })) 1 a (fun g b h=>?_)
   refine fP b 1 ?_
   refine jc G8 ?_
   have l:jb xs i 1 k=fO (fO xs i (fun x=>{ x with k1:=k })) k (fun x=>{ x with up:=i }):=by simp only[jb,reduceIte,D3];(repeat' split)<;>(first|rfl|omega)
   have j:=b
   rw[<-l]at j
   exact⟨rfl,yj (yc [_,_] [] j)⟩
theorem Kw(hO:Own (Zk fb nb m ed xs) w)(hm:xs.length=m)(hb:m<=1000001)(hI:fZ xs)(i:Nat)(hi:i<m) :
 CR ya 343 (Zm fb i) w (fun r w' => r = .tuple #[]/\fV (Zk fb nb m ed xs) w w' (Zk fb nb m ed (kj xs i))):=by
 refine en func343 ntmps343 ?_
 have aq:=(yt hO).unpack
 refine fR aq 7 ?_
 refine jq (o' := i*9+0) (i:=(i:Int)) rfl rfl rfl yk jo om o_ (gF aq 13 ?_)
 cases P:((fJ xs i).flip:Bool)
 . skip
   refine iT aq 3 ?_
   refine Bm DJ ?_
   have T:kj xs i=xs:=by simp only[kj];(repeat' split)<;>(first|rfl|omega|simp_all)
   have F:=aq
   rw[<-T]at F
   exact⟨rfl,yj (yc [_,_] [] F)⟩
 . skip
   refine fR aq 8 ?_
   refine j8 (f:=(fun x:Nd=>{ x with flip:=false })) 1 aq (fun Q C R=>?_)
   have n:fZ (fO xs i (fun x=>{ x with flip:=false })):=fZ.iP hI om (fun x a b c d e=>⟨a,b,c,d,e⟩)
   obtain⟨p,y,S,n,C⟩:=iH (m:=m) n C
   refine gC C 9 fun U D=>?_
   refine ic (o:=i*9+0) (o' := i*9+1) (i:=1) rfl rfl rfl yq gq d_ rfl (fK D 4 ?_)
   refine ic (o:=i*9+0) (o' := i*9+0) (i:=0) rfl rfl rfl yq gq d_ rfl (fK D 3 ?_)
   refine ic (o:=i*9+0) (o' := i*9+0) (i:=0) rfl rfl rfl yq gq d_ rfl (j8 (f:=(fun x:Nd=>{ x with k0:=((fJ p i).k1) })) 1 D (fun V z W=>?_))
   have E:fZ (fO p i (fun x=>{ x with k0:=((fJ p i).k1) })):=fZ.iP n om (fun x a b c d e=>⟨(o9 (n.k1 i om)),b,c,d,e⟩)
   obtain⟨K,A,X,E,z⟩:=iH (m:=m) E z
   refine fK z 2 ?_
   refine ic (o:=i*9+0) (o' := i*9+1) (i:=1) rfl rfl rfl yq gq d_ rfl (j8 (f:=(fun x:Nd=>{ x with k1:=((fJ p i).k0) })) 1 z (fun Y j Z=>?_))
   have h:fZ (fO K i (fun x=>{ x with k1:=((fJ p i).k0) })):=fZ.iP E om (fun x a b c d e=>⟨a,(o9 (n.k0 i om)),c,d,e⟩)
   obtain⟨g,B,aa,h,j⟩:=iH (m:=m) h j
   refine gF j 12 ?_
   refine qq 3 (iB (fR j 13 ?_))
   refine mw (i:=0) rfl rfl rfl yq yg rfl gq d_ rfl (fK j 6 ?_)
   by_cases ab:((fJ g i).k0:Int)=0
   . refine fP j 11 ?_
     refine tN (?_)
     refine iB (fR j 13 ?_)
     refine mw (i:=1) rfl rfl rfl yq yg rfl gq d_ rfl (fK j 6 ?_)
     by_cases ac:((fJ g i).k1:Int)=0
     . refine fP j 11 ?_
       refine tN (?_)
       refine iB (iT j 11 ?_)
       refine jc DJ ?_
       have T:kj xs i=g:=by subst B;subst A;subst y;simp only[kj];(repeat' split)<;>(first|rfl|omega|simp_all)
       have F:=j
       rw[<-T]at F
       exact⟨rfl,yj (yc [_,_] [] F)⟩
     . refine gC j 15 fun ad q=>?_
       refine jq (o' := ((fJ g i).k1)*9+0) (i:=((fJ g i).k1:Int)) rfl rfl rfl yk jo (o9 (show ((fJ g i).k1)<(g).length from(o9 (h.k1 i om)))) o_ (fK q 1 ?_)
       refine ld rfl rfl mC rfl (nk q (i:=1) rfl f_ (o9 (h.k1 i om)) rfl) (fK q 1 ?_)
       refine jq (o' := ((fJ g i).k1)*9+0) (i:=((fJ g i).k1:Int)) rfl rfl rfl yk jo (o9 (show ((fJ g i).k1)<(g).length from(o9 (h.k1 i om)))) o_ (fK q 1 ?_)
       refine j8 (f:=(fun x:Nd=>{ x with flip := !((fJ g ((fJ g i).k1)).flip) })) 1 q (fun ae s af=>?_) (hk:=(o9 (h.k1 i om)))
       have H:fZ (fO g ((fJ g i).k1) (fun x=>{ x with flip := !((fJ g ((fJ g i).k1)).flip) })):=fZ.iP h (o9 (h.k1 i om)) (fun x a b c d e=>⟨a,b,c,d,e⟩)
       obtain⟨L,M,ag,H,s⟩:=iH (m:=m) H s
       refine fP s 7 ?_
       refine tN (?_)
       refine iB (iT s 11 ?_)
       refine jc DJ ?_
       have T:kj xs i=L:=by subst M;subst B;subst A;subst y;simp only[kj];(repeat' split)<;>(first|rfl|omega|simp_all)
       have F:=s
       rw[<-T]at F
       exact⟨rfl,yj (yc [_,_] [] F)⟩
   . refine gC j 15 fun ah t=>?_
     refine jq (o' := ((fJ g i).k0)*9+0) (i:=((fJ g i).k0:Int)) rfl rfl rfl yk jo (o9 (show ((fJ g i).k0)<(g).length from(o9 (h.k0 i om)))) o_ (fK t 1 ?_)
     refine ld rfl rfl mC rfl (nk t (i:=1) rfl f_ (o9 (h.k0 i om)) rfl) (fK t 1 ?_)
     refine jq (o' := ((fJ g i).k0)*9+0) (i:=((fJ g i).k0:Int)) rfl rfl rfl yk jo (o9 (show ((fJ g i).k0)<(g).length from(o9 (h.k0 i om)))) o_ (fK t 1 ?_)
     refine j8 (f:=(fun x:Nd=>{ x with flip := !((fJ g ((fJ g i).k0)).flip) })) 1 t (fun ai k aj=>?_) (hk:=(o9 (h.k0 i om)))
     have G:fZ (fO g ((fJ g i).k0) (fun x=>{ x with flip := !((fJ g ((fJ g i).k0)).flip) })):=fZ.iP h (o9 (h.k0 i om)) (fun x a b c d e=>⟨a,b,c,d,e⟩)
     obtain⟨l,I,ak,G,k⟩:=iH (m:=m) G k
     refine fP k 7 ?_
     refine tN (?_)
     refine iB (fR k 13 ?_)
     refine mw (i:=1) rfl rfl rfl yq yg rfl gq d_ rfl (fK k 6 ?_)
     by_cases al:((fJ g i).k1:Int)=0
     . refine fP k 11 ?_
       refine tN (?_)
       refine iB (iT k 11 ?_)
       refine jc DJ ?_
       have T:kj xs i=l:=by subst I;subst B;subst A;subst y;simp only[kj];(repeat' split)<;>(first|rfl|omega|simp_all)
       have F:=k
       rw[<-T]at F
       exact⟨rfl,yj (yc [_,_] [] F)⟩
     . refine gC k 15 fun am u=>?_
       refine jq (o' := ((fJ g i).k1)*9+0) (i:=((fJ g i).k1:Int)) rfl rfl rfl yk jo (o9 (show ((fJ g i).k1)<(l).length from(o9 (h.k1 i om)))) o_ (fK u 1 ?_)
       refine ld rfl rfl mC rfl (nk u (i:=1) rfl f_ (o9 (h.k1 i om)) rfl) (fK u 1 ?_)
       refine jq (o' := ((fJ g i).k1)*9+0) (i:=((fJ g i).k1:Int)) rfl rfl rfl yk jo (o9 (show ((fJ g i).k1)<(l).length from(o9 (h.k1 i om)))) o_ (fK u 1 ?_)
       refine j8 (f:=(fun x:Nd=>{ x with flip := !((fJ l ((fJ g i).k1)).flip) })) 1 u (fun an v ao=>?_) (hk:=(o9 (h.k1 i om)))
       have J:fZ (fO l ((fJ g i).k1) (fun x=>{ x with flip := !((fJ l ((fJ g i).k1)).flip) })):=fZ.iP G (o9 (h.k1 i om)) (fun x a b c d e=>⟨a,b,c,d,e⟩)
       obtain⟨N,O,ap,J,v⟩:=iH (m:=m) J v
       refine fP v 7 ?_
       refine tN (?_)
       refine iB (iT v 11 ?_)
       refine jc DJ ?_
       have T:kj xs i=N:=by subst O;subst I;subst B;subst A;subst y;simp only[kj];(repeat' split)<;>(first|rfl|omega|simp_all)
       have F:=v
       rw[<-T]at F
       exact⟨rfl,yj (yc [_,_] [] F)⟩
theorem mB(hO:Own (Zk fb nb m ed xs) w)(hm:xs.length=m)(hb:m<=1000001)(hI:fZ xs)(i:Nat)(hi:i<m) :
 CR ya 275 (Zm fb i) w (fun r w' => r = .tuple #[]/\fV (Zk fb nb m ed xs) w w' (Zk fb nb m ed (iJ xs i))):=by
 refine en func275 ntmps275 ?_
 have bU:=(yt hO).unpack
 refine fR bU 7 ?_
 refine jq (o' := i*9+0) (i:=(i:Int)) rfl rfl rfl yk jo om o_ (fK bU 13 ?_)
 refine ar (e:=(IntKind.i64.wrap (1+(fJ xs i).iO))) rfl rfl rfl rfl rfl (fK bU 2 ?_)
 refine j8 (f:=(fun x:Nd=>{ x with size:=1 })) 1 bU (fun aW az aX=>?_)
 have aH:fZ (fO xs i (fun x=>{ x with size:=1 })):=fZ.iP hI om (fun x a b c d e=>⟨a,b,c,d,e⟩)
 refine fK az 2 ?_
 refine j8 (f:=(fun x:Nd=>{ x with first:=i })) 1 az (fun aY aA aZ=>?_)
 have aI:fZ (fO (fO xs i (fun x=>{ x with size:=1 })) i (fun x=>{ x with first:=i })):=fZ.iP aH om (fun x a b c d e=>⟨a,b,c,om,e⟩)
 refine fK aA 2 ?_
 refine j8 (f:=(fun x:Nd=>{ x with total:=(IntKind.i64.wrap (1+(fJ xs i).iO)) })) 1 aA (fun a0 aB a1=>?_)
 have aJ:fZ (fO (fO (fO xs i (fun x=>{ x with size:=1 })) i (fun x=>{ x with first:=i })) i (fun x=>{ x with total:=(IntKind.i64.wrap (1+(fJ xs i).iO)) })):=fZ.iP aI om (fun x a b c d e=>⟨a,b,c,d,e⟩)
 obtain⟨y,hy⟩:∃ y,y=fO xs i (fun x=>{ x with size:=1,first:=i,total:=IntKind.i64.wrap (1+x.iO) }):=⟨_,rfl⟩
 have bk:=aB
 have F:=aJ
 refine fK aB 4 ?_
 rw[ab5 o_,<-hy]at bk F
 have bV:y.length=m:=by rw[hy,gB,hm]
 refine gF bk 8 ?_
 refine qq 3 (iB (fR bk 13 ?_))
 refine mw (i:=0) rfl rfl rfl yq yg rfl gq d_ rfl (fK bk 7 ?_)
 by_cases a2:((fJ y i).k0:Int)=0
 . refine fP bk 12 ?_
   refine tN (?_)
   refine iB (fR bk 13 ?_)
   refine mw (i:=1) rfl rfl rfl yq yg rfl gq d_ rfl (fK bk 7 ?_)
   by_cases a3:((fJ y i).k1:Int)=0
   . refine fP bk 12 ?_
     refine tN (?_)
     refine iB (iT bk 11 ?_)
     refine jc vB ?_
     have e9:iJ xs i=y:=by rw[vt hy o_];first|(rw[uw (k:=(fJ y i).k0) o_];rw[uw (k:=(fJ y i).k1) o_])
     have T:=bk
     rw[<-e9]at T
     exact⟨rfl,yj (yc [_,_] [] T)⟩
   . refine fK bk 13 ?_
     refine jq (o' := ((fJ y i).k1)*9+0) (i:=((fJ y i).k1:Int)) rfl rfl rfl yk jo (o9 (show ((fJ y i).k1)<(y).length from(o9 (F.k1 i om)))) o_ (gC bk 12 fun a4 V=>?_)
     refine ld rfl rfl yg rfl (nk V (i:=1) rfl f_ (o9 (F.k1 i om)) rfl) (ar (e:=(IntKind.i64.wrap ((fJ y i).size+(fJ y ((fJ y i).k1)).size))) rfl rfl rfl rfl rfl (fK V 2 ?_))
     refine j8 (f:=(fun x:Nd=>{ x with size:=(IntKind.i64.wrap ((fJ y i).size+(fJ y ((fJ y i).k1)).size)) })) 1 V (fun a5 W a6=>?_)
     have X:fZ (fO y i (fun x=>{ x with size:=(IntKind.i64.wrap ((fJ y i).size+(fJ y ((fJ y i).k1)).size)) })):=fZ.iP F om (fun x a b c d e=>⟨a,b,c,d,e⟩)
     obtain⟨B,R,a7,X,W⟩:=iH (m:=m) X W
     refine gC W 11 fun a8 Y=>?_
     refine ld rfl rfl yg rfl (nk Y (i:=1) rfl f_ (o9 (F.k1 i om)) rfl) (ar (e:=(IntKind.i64.wrap ((fJ B i).total+(fJ B ((fJ y i).k1)).total))) rfl rfl rfl rfl rfl (fK Y 2 ?_))
     refine j8 (f:=(fun x:Nd=>{ x with total:=(IntKind.i64.wrap ((fJ B i).total+(fJ B ((fJ y i).k1)).total)) })) 1 Y (fun a9 Z ba=>?_)
     have C:fZ (fO B i (fun x=>{ x with total:=(IntKind.i64.wrap ((fJ B i).total+(fJ B ((fJ y i).k1)).total)) })):=fZ.iP X om (fun x a b c d e=>⟨a,b,c,d,e⟩)
     obtain⟨j,S,bb,C,Z⟩:=iH (m:=m) C Z
     refine gC Z 8 fun aK J=>?_
     refine ld rfl rfl yg rfl (nk J (i:=1) rfl f_ (o9 (F.k1 i om)) rfl) (fK J 4 ?_)
     refine cl (EW fb nb m ed j aK (J.at (i:=0) rfl) (J.at (i:=1) rfl) oa hb C ((fJ j ((fJ y i).k1)).first) ((fJ j i).first) (o9 (C.first ((fJ y i).k1) (o9 (F.k1 i om)))) (o9 (C.first i om))) ?_
     rintro _ bc ⟨rfl,aL⟩
     have u:=yr J aL
     refine gF u 2 ?_
     cases U:(lK j ((fJ j ((fJ y i).k1)).first) ((fJ j i).first):Bool)
     . skip
       refine iT u 8 ?_
       refine tN (?_)
       refine iB (iT u 11 ?_)
       refine jc vB ?_
       have e9:iJ xs i=j:=by rw[vt hy o_];first|(rw[uw (k:=(fJ y i).k0) o_];rw[ur (k:=(fJ y i).k1) o_ R S U])|(rw[ur (k:=(fJ y i).k0) o_ R S U];rw[uw (k:=(fJ y i).k1) o_])
       have T:=u
       rw[<-e9]at T
       exact⟨rfl,yj (yc [_,_] [] T)⟩
     . skip
       refine fR u 6 ?_
       refine ld rfl rfl yg rfl (nk u (i:=1) rfl f_ (o9 (F.k1 i om)) rfl) (fK u 2 ?_)
       refine j8 (f:=(fun x:Nd=>{ x with first:=((fJ j ((fJ y i).k1)).first) })) 1 u (fun bd K be=>?_)
       have aC:fZ (fO j i (fun x=>{ x with first:=((fJ j ((fJ y i).k1)).first) })):=fZ.iP C om (fun x a b c d e=>⟨a,b,c,(o9 (C.first ((fJ y i).k1) (o9 (F.k1 i om)))),e⟩)
       obtain⟨aM,aD,bf,aC,K⟩:=iH (m:=m) aC K
       refine fP K 7 ?_
       refine tN (?_)
       refine iB (iT K 11 ?_)
       refine jc vB ?_
       have e9:iJ xs i=aM:=by rw[vt hy o_];first|(rw[uw (k:=(fJ y i).k0) o_];rw[uu (k:=(fJ y i).k1) o_ R S U aD])|(rw[uu (k:=(fJ y i).k0) o_ R S U aD];rw[uw (k:=(fJ y i).k1) o_])
       have T:=K
       rw[<-e9]at T
       exact⟨rfl,yj (yc [_,_] [] T)⟩
 . refine fK bk 13 ?_
   refine jq (o' := ((fJ y i).k0)*9+0) (i:=((fJ y i).k0:Int)) rfl rfl rfl yk jo (o9 (show ((fJ y i).k0)<(y).length from(o9 (F.k0 i om)))) o_ (gC bk 12 fun bg aa=>?_)
   refine ld rfl rfl yg rfl (nk aa (i:=1) rfl f_ (o9 (F.k0 i om)) rfl) (ar (e:=(IntKind.i64.wrap ((fJ y i).size+(fJ y ((fJ y i).k0)).size))) rfl rfl rfl rfl rfl (fK aa 2 ?_))
   refine j8 (f:=(fun x:Nd=>{ x with size:=(IntKind.i64.wrap ((fJ y i).size+(fJ y ((fJ y i).k0)).size)) })) 1 aa (fun bh ab bi=>?_)
   have ac:fZ (fO y i (fun x=>{ x with size:=(IntKind.i64.wrap ((fJ y i).size+(fJ y ((fJ y i).k0)).size)) })):=fZ.iP F om (fun x a b c d e=>⟨a,b,c,d,e⟩)
   obtain⟨D,l,bj,ac,ab⟩:=iH (m:=m) ac ab
   refine gC ab 11 fun bl ad=>?_
   refine ld rfl rfl yg rfl (nk ad (i:=1) rfl f_ (o9 (F.k0 i om)) rfl) (ar (e:=(IntKind.i64.wrap ((fJ D i).total+(fJ D ((fJ y i).k0)).total))) rfl rfl rfl rfl rfl (fK ad 2 ?_))
   refine j8 (f:=(fun x:Nd=>{ x with total:=(IntKind.i64.wrap ((fJ D i).total+(fJ D ((fJ y i).k0)).total)) })) 1 ad (fun bm ae bn=>?_)
   have v:fZ (fO D i (fun x=>{ x with total:=(IntKind.i64.wrap ((fJ D i).total+(fJ D ((fJ y i).k0)).total)) })):=fZ.iP ac om (fun x a b c d e=>⟨a,b,c,d,e⟩)
   obtain⟨g,n,bo,v,ae⟩:=iH (m:=m) v ae
   refine gC ae 8 fun aN L=>?_
   refine ld rfl rfl yg rfl (nk L (i:=1) rfl f_ (o9 (F.k0 i om)) rfl) (fK L 4 ?_)
   refine cl (EW fb nb m ed g aN (L.at (i:=0) rfl) (L.at (i:=1) rfl) oa hb v ((fJ g ((fJ y i).k0)).first) ((fJ g i).first) (o9 (v.first ((fJ y i).k0) (o9 (F.k0 i om)))) (o9 (v.first i om))) ?_
   rintro _ bp ⟨rfl,aO⟩
   have h:=yr L aO
   refine gF h 2 ?_
   cases o:(lK g ((fJ g ((fJ y i).k0)).first) ((fJ g i).first):Bool)
   . skip
     refine iT h 8 ?_
     refine tN (?_)
     refine iB (fR h 13 ?_)
     refine mw (i:=1) rfl rfl rfl yq yg rfl gq d_ rfl (fK h 7 ?_)
     by_cases bq:((fJ y i).k1:Int)=0
     . refine fP h 12 ?_
       refine tN (?_)
       refine iB (iT h 11 ?_)
       refine jc vB ?_
       have e9:iJ xs i=g:=by rw[vt hy o_];first|(rw[uw (k:=(fJ y i).k0) o_];rw[ur (k:=(fJ y i).k1) o_ l n o])|(rw[ur (k:=(fJ y i).k0) o_ l n o];rw[uw (k:=(fJ y i).k1) o_])
       have T:=h
       rw[<-e9]at T
       exact⟨rfl,yj (yc [_,_] [] T)⟩
     . refine fK h 13 ?_
       refine jq (o' := ((fJ y i).k1)*9+0) (i:=((fJ y i).k1:Int)) rfl rfl rfl yk jo (o9 (show ((fJ y i).k1)<(g).length from(o9 (F.k1 i om)))) o_ (gC h 12 fun br af=>?_)
       refine ld rfl rfl yg rfl (nk af (i:=1) rfl f_ (o9 (F.k1 i om)) rfl) (ar (e:=(IntKind.i64.wrap ((fJ g i).size+(fJ g ((fJ y i).k1)).size))) rfl rfl rfl rfl rfl (fK af 2 ?_))
       refine j8 (f:=(fun x:Nd=>{ x with size:=(IntKind.i64.wrap ((fJ g i).size+(fJ g ((fJ y i).k1)).size)) })) 1 af (fun bs ag bt=>?_)
       have ah:fZ (fO g i (fun x=>{ x with size:=(IntKind.i64.wrap ((fJ g i).size+(fJ g ((fJ y i).k1)).size)) })):=fZ.iP v om (fun x a b c d e=>⟨a,b,c,d,e⟩)
       obtain⟨E,ai,bu,ah,ag⟩:=iH (m:=m) ah ag
       refine gC ag 11 fun bv aj=>?_
       refine ld rfl rfl yg rfl (nk aj (i:=1) rfl f_ (o9 (F.k1 i om)) rfl) (ar (e:=(IntKind.i64.wrap ((fJ E i).total+(fJ E ((fJ y i).k1)).total))) rfl rfl rfl rfl rfl (fK aj 2 ?_))
       refine j8 (f:=(fun x:Nd=>{ x with total:=(IntKind.i64.wrap ((fJ E i).total+(fJ E ((fJ y i).k1)).total)) })) 1 aj (fun bw ak bx=>?_)
       have G:fZ (fO E i (fun x=>{ x with total:=(IntKind.i64.wrap ((fJ E i).total+(fJ E ((fJ y i).k1)).total)) })):=fZ.iP ah om (fun x a b c d e=>⟨a,b,c,d,e⟩)
       obtain⟨p,al,bz,G,ak⟩:=iH (m:=m) G ak
       refine gC ak 8 fun aP M=>?_
       refine ld rfl rfl yg rfl (nk M (i:=1) rfl f_ (o9 (F.k1 i om)) rfl) (fK M 4 ?_)
       refine cl (EW fb nb m ed p aP (M.at (i:=0) rfl) (M.at (i:=1) rfl) oa hb G ((fJ p ((fJ y i).k1)).first) ((fJ p i).first) (o9 (G.first ((fJ y i).k1) (o9 (F.k1 i om)))) (o9 (G.first i om))) ?_
       rintro _ bA ⟨rfl,aQ⟩
       have z:=yr M aQ
       refine gF z 2 ?_
       cases am:(lK p ((fJ p ((fJ y i).k1)).first) ((fJ p i).first):Bool)
       . skip
         refine iT z 8 ?_
         refine tN (?_)
         refine iB (iT z 11 ?_)
         refine jc vB ?_
         have e9:iJ xs i=p:=by rw[vt hy o_];first|(rw[ur (k:=(fJ y i).k0) o_ l n o];rw[ur (k:=(fJ y i).k1) o_ ai al am])
         have T:=z
         rw[<-e9]at T
         exact⟨rfl,yj (yc [_,_] [] T)⟩
       . skip
         refine fR z 6 ?_
         refine ld rfl rfl yg rfl (nk z (i:=1) rfl f_ (o9 (F.k1 i om)) rfl) (fK z 2 ?_)
         refine j8 (f:=(fun x:Nd=>{ x with first:=((fJ p ((fJ y i).k1)).first) })) 1 z (fun bB N bC=>?_)
         have aE:fZ (fO p i (fun x=>{ x with first:=((fJ p ((fJ y i).k1)).first) })):=fZ.iP G om (fun x a b c d e=>⟨a,b,c,(o9 (G.first ((fJ y i).k1) (o9 (F.k1 i om)))),e⟩)
         obtain⟨aR,aF,bD,aE,N⟩:=iH (m:=m) aE N
         refine fP N 7 ?_
         refine tN (?_)
         refine iB (iT N 11 ?_)
         refine jc vB ?_
         have e9:iJ xs i=aR:=by rw[vt hy o_];first|(rw[ur (k:=(fJ y i).k0) o_ l n o];rw[uu (k:=(fJ y i).k1) o_ ai al am aF])|(rw[uu (k:=(fJ y i).k0) o_ l n o ai];rw[ur (k:=(fJ y i).k1) o_ al aF am])
         have T:=N
         rw[<-e9]at T
         exact⟨rfl,yj (yc [_,_] [] T)⟩
   . skip
     refine fR h 6 ?_
     refine ld rfl rfl yg rfl (nk h (i:=1) rfl f_ (o9 (F.k0 i om)) rfl) (fK h 2 ?_)
     refine j8 (f:=(fun x:Nd=>{ x with first:=((fJ g ((fJ y i).k0)).first) })) 1 h (fun bE q bF=>?_)
     have an:fZ (fO g i (fun x=>{ x with first:=((fJ g ((fJ y i).k0)).first) })):=fZ.iP v om (fun x a b c d e=>⟨a,b,c,(o9 (v.first ((fJ y i).k0) (o9 (F.k0 i om)))),e⟩)
     obtain⟨t,O,bG,an,q⟩:=iH (m:=m) an q
     refine fP q 7 ?_
     refine tN (?_)
     refine iB (fR q 13 ?_)
     refine mw (i:=1) rfl rfl rfl yq yg rfl gq d_ rfl (fK q 7 ?_)
     by_cases bH:((fJ y i).k1:Int)=0
     . refine fP q 12 ?_
       refine tN (?_)
       refine iB (iT q 11 ?_)
       refine jc vB ?_
       have e9:iJ xs i=t:=by rw[vt hy o_];first|(rw[uw (k:=(fJ y i).k0) o_];rw[uu (k:=(fJ y i).k1) o_ l n o O])|(rw[uu (k:=(fJ y i).k0) o_ l n o O];rw[uw (k:=(fJ y i).k1) o_])
       have T:=q
       rw[<-e9]at T
       exact⟨rfl,yj (yc [_,_] [] T)⟩
     . refine fK q 13 ?_
       refine jq (o' := ((fJ y i).k1)*9+0) (i:=((fJ y i).k1:Int)) rfl rfl rfl yk jo (o9 (show ((fJ y i).k1)<(t).length from(o9 (F.k1 i om)))) o_ (gC q 12 fun bI ao=>?_)
       refine ld rfl rfl yg rfl (nk ao (i:=1) rfl f_ (o9 (F.k1 i om)) rfl) (ar (e:=(IntKind.i64.wrap ((fJ t i).size+(fJ t ((fJ y i).k1)).size))) rfl rfl rfl rfl rfl (fK ao 2 ?_))
       refine j8 (f:=(fun x:Nd=>{ x with size:=(IntKind.i64.wrap ((fJ t i).size+(fJ t ((fJ y i).k1)).size)) })) 1 ao (fun bJ ap bK=>?_)
       have aq:fZ (fO t i (fun x=>{ x with size:=(IntKind.i64.wrap ((fJ t i).size+(fJ t ((fJ y i).k1)).size)) })):=fZ.iP an om (fun x a b c d e=>⟨a,b,c,d,e⟩)
       obtain⟨H,au,bL,aq,ap⟩:=iH (m:=m) aq ap
       refine gC ap 11 fun bM av=>?_
       refine ld rfl rfl yg rfl (nk av (i:=1) rfl f_ (o9 (F.k1 i om)) rfl) (ar (e:=(IntKind.i64.wrap ((fJ H i).total+(fJ H ((fJ y i).k1)).total))) rfl rfl rfl rfl rfl (fK av 2 ?_))
       refine j8 (f:=(fun x:Nd=>{ x with total:=(IntKind.i64.wrap ((fJ H i).total+(fJ H ((fJ y i).k1)).total)) })) 1 av (fun bN aw bO=>?_)
       have I:fZ (fO H i (fun x=>{ x with total:=(IntKind.i64.wrap ((fJ H i).total+(fJ H ((fJ y i).k1)).total)) })):=fZ.iP aq om (fun x a b c d e=>⟨a,b,c,d,e⟩)
       obtain⟨s,ax,bP,I,aw⟩:=iH (m:=m) I aw
       refine gC aw 8 fun aS P=>?_
       refine ld rfl rfl yg rfl (nk P (i:=1) rfl f_ (o9 (F.k1 i om)) rfl) (fK P 4 ?_)
       refine cl (EW fb nb m ed s aS (P.at (i:=0) rfl) (P.at (i:=1) rfl) oa hb I ((fJ s ((fJ y i).k1)).first) ((fJ s i).first) (o9 (I.first ((fJ y i).k1) (o9 (F.k1 i om)))) (o9 (I.first i om))) ?_
       rintro _ bQ ⟨rfl,aT⟩
       have A:=yr P aT
       refine gF A 2 ?_
       cases ay:(lK s ((fJ s ((fJ y i).k1)).first) ((fJ s i).first):Bool)
       . skip
         refine iT A 8 ?_
         refine tN (?_)
         refine iB (iT A 11 ?_)
         refine jc vB ?_
         have e9:iJ xs i=s:=by rw[vt hy o_];first|(rw[ur (k:=(fJ y i).k0) o_ l n o];rw[uu (k:=(fJ y i).k1) o_ O au ay ax])|(rw[uu (k:=(fJ y i).k0) o_ l n o O];rw[ur (k:=(fJ y i).k1) o_ au ax ay])
         have T:=A
         rw[<-e9]at T
         exact⟨rfl,yj (yc [_,_] [] T)⟩
       . skip
         refine fR A 6 ?_
         refine ld rfl rfl yg rfl (nk A (i:=1) rfl f_ (o9 (F.k1 i om)) rfl) (fK A 2 ?_)
         refine j8 (f:=(fun x:Nd=>{ x with first:=((fJ s ((fJ y i).k1)).first) })) 1 A (fun bR Q bS=>?_)
         have aG:fZ (fO s i (fun x=>{ x with first:=((fJ s ((fJ y i).k1)).first) })):=fZ.iP I om (fun x a b c d e=>⟨a,b,c,(o9 (I.first ((fJ y i).k1) (o9 (F.k1 i om)))),e⟩)
         obtain⟨aU,aV,bT,aG,Q⟩:=iH (m:=m) aG Q
         refine fP Q 7 ?_
         refine tN (?_)
         refine iB (iT Q 11 ?_)
         refine jc vB ?_
         have e9:iJ xs i=aU:=by rw[vt hy o_];first|(rw[uu (k:=(fJ y i).k0) o_ l n o O];rw[uu (k:=(fJ y i).k1) o_ au ax ay aV])
         have T:=Q
         rw[<-e9]at T
         exact⟨rfl,yj (yc [_,_] [] T)⟩
theorem nD(c:(Al fb nb m ed).holds w)(b:(blk nb 388 (xs.flatMap Nd.cells)).holds w)(hm:xs.length=m)(hb:m<=1000001)(a:fZ xs)(i:Nat)(hi:i<m){s:Nat}{o:Bool}(d:jI xs i=(s,o)):CR ya 341 (Zm fb i) w (fun r w' => r = .tuple (Z9 s o)/\gx [] w w'):=by
 have h:=ado fb nb m ed xs w c b hm hb a i hi
 rw[d]at h
 exact h
theorem yV(hO:Own (Zk fb nb m ed xs) w)(hm:xs.length=m)(hb:m<=1000001)(F:fZ xs)(i:Nat)(hi:i<m) :
 CR ya 344 (Zm fb i) w (fun r w' => r = .tuple #[]/\fV (Zk fb nb m ed xs) w w' (Zk fb nb m ed (iM xs i))):=by
 have eT:=F.up i o_
 have fL:=F.up _ eT
 refine en func344 ntmps344 ?_
 have bk:=(yt hO).unpack
 refine fR bk 7 ?_
 refine jq (o' := i*9+0) (i:=(i:Int)) rfl rfl rfl yk jo om o_ (fK bk 12 ?_)
 refine jq (o' := ((fJ xs i).up)*9+0) (i:=((fJ xs i).up:Int)) rfl rfl rfl yk jo (o9 (show ((fJ xs i).up)<(xs).length from(o9 (F.up i om)))) o_ (fK bk 1 ?_)
 refine ld rfl rfl yg rfl (nk bk (i:=1) rfl f_ (o9 (F.up i om)) rfl) ?_
 obtain⟨cN,eE⟩:∃ q,Dk xs i=q:=⟨_,rfl⟩
 refine fK bk 7 ?_
 rcases cN with J|K|L
 . skip
   refine cl (nD fb nb m ed xs w (bk.at (i:=0) rfl) (bk.at (i:=1) rfl) oa hb F i o_ J) ?_
   rintro _ a9 ⟨rfl,cO⟩
   have g:=yr bk cO
   obtain⟨cP,eF⟩:∃ q,Dk xs ((fJ xs i).up)=q:=⟨_,rfl⟩
   refine fK g 12 ?_
   rcases cP with bf|bg|bh
   . skip
     refine cl (nD fb nb m ed xs a9 (g.at (i:=0) rfl) (g.at (i:=1) rfl) oa hb F ((fJ xs i).up) (o9 (F.up i om)) bf) ?_
     rintro _ eG ⟨rfl,cQ⟩
     have ba:=yr g cQ
     refine fK ba 20 ?_
     refine jq (o' := i*9+0) (i:=(i:Int)) rfl rfl rfl yk jo om o_ (fK ba 1 ?_)
     refine j8 (f:=(fun x:Nd=>{ x with up:=((fJ xs ((fJ xs i).up)).up) })) 1 ba (fun cR k eH=>?_)
     have l:fZ (fO xs i (fun x=>{ x with up:=((fJ xs ((fJ xs i).up)).up) })):=fZ.iP F om (fun x a b c d e=>⟨a,b,(o9 (F.up ((fJ xs i).up) (o9 (F.up i om)))),d,e⟩)
     obtain⟨M,cS,eI,l,k⟩:=iH (m:=m) l k
     refine fK k 14 ?_
     refine jq (o' := i*9+0) (i:=(i:Int)) rfl rfl rfl yk jo om o_ (fK k 1 ?_)
     refine ic (o:=i*9+0) (o' := i*9+1) (i:=1) rfl rfl rfl yq gq d_ rfl ?_
     have bi:=yc [_,_] _ k
     refine fK k 1 ?_
     refine cl (si fb nb m ed M cR (ye bi 0 rfl) oa hb l ((fJ xs i).up) ((fJ M i).k1) (o9 (F.up i om)) (o9 (l.k1 i om))) ?_
     rintro _ cT ⟨rfl,ht⟩
     have N:=(yi bi ht)
     have O:fZ (jb M ((fJ xs i).up) 0 ((fJ M i).k1)):=fZ.kW l (o9 (F.up i om)) (o9 (l.k1 i om))
     obtain⟨bj,cU,eJ,O,N⟩:=iH (m:=m) O N
     have bl:=yc [_,_] _ N
     refine fK N 9 ?_
     refine cl (sj fb nb m ed bj cT (ye bl 0 rfl) oa hb O i ((fJ xs i).up) o_ (o9 (F.up i om))) ?_
     rintro _ cV ⟨rfl,ht⟩
     have P:=(yi bl ht)
     have Q:fZ (jb bj i 1 ((fJ xs i).up)):=fZ.kW O o_ (o9 (F.up i om))
     obtain⟨bm,cW,eK,Q,P⟩:=iH (m:=m) Q P
     have bn:=yc [_,_] _ P
     refine fK P 6 ?_
     refine cl (mB fb nb m ed bm cV (ye bn 0 rfl) oa hb Q ((fJ xs i).up) (o9 (F.up i om))) ?_
     rintro _ cX ⟨rfl,ht⟩
     have R:=(yi bn ht)
     have S:fZ (iJ bm ((fJ xs i).up)):=fZ.mh Q (o9 (F.up i om))
     obtain⟨bo,cY,eL,S,R⟩:=iH (m:=m) S R
     have bp:=yc [_,_] _ R
     refine fK R 5 ?_
     refine cl (mB fb nb m ed bo cX (ye bp 0 rfl) oa hb S i o_) ?_
     rintro _ eM ⟨rfl,ht⟩
     have U:=(yi bp ht)
     have bq:fZ (iJ bo i):=fZ.mh S o_
     obtain⟨cZ,c0,eN,bq,U⟩:=iH (m:=m) bq U
     refine fP U 1 ?_
     refine jc vC ?_
     have e9:iM xs i=cZ:=by subst c0;subst cY;subst cW;subst cU;subst cS;simp only[iM,J,bf];rfl
     have T:=U
     rw[<-e9]at T
     exact⟨rfl,yj (yc [_,_] [] T)⟩
   . skip
     refine cl (nD fb nb m ed xs a9 (g.at (i:=0) rfl) (g.at (i:=1) rfl) oa hb F ((fJ xs i).up) (o9 (F.up i om)) bg) ?_
     rintro _ c1 ⟨rfl,c2⟩
     have br:=yr g c2
     have bs:=yc [_,_] _ br
     refine fK br 18 ?_
     refine cl (si fb nb m ed xs c1 (ye bs 0 rfl) oa hb F ((fJ xs ((fJ xs i).up)).up) i (o9 (F.up ((fJ xs i).up) (o9 (F.up i om)))) o_) ?_
     rintro _ c3 ⟨rfl,ht⟩
     have n:=(yi bs ht)
     have p:fZ (jb xs ((fJ xs ((fJ xs i).up)).up) 0 i):=fZ.kW F (o9 (F.up ((fJ xs i).up) (o9 (F.up i om)))) o_
     obtain⟨V,c4,eO,p,n⟩:=iH (m:=m) p n
     refine fK n 14 ?_
     refine jq (o' := i*9+0) (i:=(i:Int)) rfl rfl rfl yk jo om o_ (fK n 1 ?_)
     refine ic (o:=i*9+0) (o' := i*9+1) (i:=1) rfl rfl rfl yq gq d_ rfl ?_
     have bt:=yc [_,_] _ n
     refine fK n 1 ?_
     refine cl (si fb nb m ed V c3 (ye bt 0 rfl) oa hb p ((fJ xs i).up) ((fJ V i).k1) (o9 (F.up i om)) (o9 (p.k1 i om))) ?_
     rintro _ c5 ⟨rfl,ht⟩
     have W:=(yi bt ht)
     have X:fZ (jb V ((fJ xs i).up) 0 ((fJ V i).k1)):=fZ.kW p (o9 (F.up i om)) (o9 (p.k1 i om))
     obtain⟨bu,c6,eP,X,W⟩:=iH (m:=m) X W
     have bv:=yc [_,_] _ W
     refine fK W 9 ?_
     refine cl (sj fb nb m ed bu c5 (ye bv 0 rfl) oa hb X i ((fJ xs i).up) o_ (o9 (F.up i om))) ?_
     rintro _ c7 ⟨rfl,ht⟩
     have Y:=(yi bv ht)
     have Z:fZ (jb bu i 1 ((fJ xs i).up)):=fZ.kW X o_ (o9 (F.up i om))
     obtain⟨bw,c8,eQ,Z,Y⟩:=iH (m:=m) Z Y
     have bx:=yc [_,_] _ Y
     refine fK Y 6 ?_
     refine cl (mB fb nb m ed bw c7 (ye bx 0 rfl) oa hb Z ((fJ xs i).up) (o9 (F.up i om))) ?_
     rintro _ c9 ⟨rfl,ht⟩
     have aa:=(yi bx ht)
     have ab:fZ (iJ bw ((fJ xs i).up)):=fZ.mh Z (o9 (F.up i om))
     obtain⟨bz,da,eR,ab,aa⟩:=iH (m:=m) ab aa
     have bA:=yc [_,_] _ aa
     refine fK aa 5 ?_
     refine cl (mB fb nb m ed bz c9 (ye bA 0 rfl) oa hb ab i o_) ?_
     rintro _ eS ⟨rfl,ht⟩
     have ac:=(yi bA ht)
     have bB:fZ (iJ bz i):=fZ.mh ab o_
     obtain⟨db,dc,eU,bB,ac⟩:=iH (m:=m) bB ac
     refine fP ac 1 ?_
     refine jc vC ?_
     have e9:iM xs i=db:=by subst dc;subst da;subst c8;subst c6;subst c4;simp only[iM,J,bg];rfl
     have T:=ac
     rw[<-e9]at T
     exact⟨rfl,yj (yc [_,_] [] T)⟩
   . skip
     refine cl (nD fb nb m ed xs a9 (g.at (i:=0) rfl) (g.at (i:=1) rfl) oa hb F ((fJ xs i).up) (o9 (F.up i om)) bh) ?_
     rintro _ dd ⟨rfl,de⟩
     have bC:=yr g de
     have bD:=yc [_,_] _ bC
     refine fK bC 18 ?_
     refine cl (sj fb nb m ed xs dd (ye bD 0 rfl) oa hb F ((fJ xs ((fJ xs i).up)).up) i (o9 (F.up ((fJ xs i).up) (o9 (F.up i om)))) o_) ?_
     rintro _ df ⟨rfl,ht⟩
     have s:=(yi bD ht)
     have t:fZ (jb xs ((fJ xs ((fJ xs i).up)).up) 1 i):=fZ.kW F (o9 (F.up ((fJ xs i).up) (o9 (F.up i om)))) o_
     obtain⟨ad,dg,eV,t,s⟩:=iH (m:=m) t s
     refine fK s 14 ?_
     refine jq (o' := i*9+0) (i:=(i:Int)) rfl rfl rfl yk jo om o_ (fK s 1 ?_)
     refine ic (o:=i*9+0) (o' := i*9+1) (i:=1) rfl rfl rfl yq gq d_ rfl ?_
     have bE:=yc [_,_] _ s
     refine fK s 1 ?_
     refine cl (si fb nb m ed ad df (ye bE 0 rfl) oa hb t ((fJ xs i).up) ((fJ ad i).k1) (o9 (F.up i om)) (o9 (t.k1 i om))) ?_
     rintro _ dh ⟨rfl,ht⟩
     have ae:=(yi bE ht)
     have af:fZ (jb ad ((fJ xs i).up) 0 ((fJ ad i).k1)):=fZ.kW t (o9 (F.up i om)) (o9 (t.k1 i om))
     obtain⟨bF,di,eW,af,ae⟩:=iH (m:=m) af ae
     have bG:=yc [_,_] _ ae
     refine fK ae 9 ?_
     refine cl (sj fb nb m ed bF dh (ye bG 0 rfl) oa hb af i ((fJ xs i).up) o_ (o9 (F.up i om))) ?_
     rintro _ dj ⟨rfl,ht⟩
     have ag:=(yi bG ht)
     have ah:fZ (jb bF i 1 ((fJ xs i).up)):=fZ.kW af o_ (o9 (F.up i om))
     obtain⟨bH,dk,eX,ah,ag⟩:=iH (m:=m) ah ag
     have bI:=yc [_,_] _ ag
     refine fK ag 6 ?_
     refine cl (mB fb nb m ed bH dj (ye bI 0 rfl) oa hb ah ((fJ xs i).up) (o9 (F.up i om))) ?_
     rintro _ dl ⟨rfl,ht⟩
     have ai:=(yi bI ht)
     have aj:fZ (iJ bH ((fJ xs i).up)):=fZ.mh ah (o9 (F.up i om))
     obtain⟨bJ,dm,eY,aj,ai⟩:=iH (m:=m) aj ai
     have bK:=yc [_,_] _ ai
     refine fK ai 5 ?_
     refine cl (mB fb nb m ed bJ dl (ye bK 0 rfl) oa hb aj i o_) ?_
     rintro _ eZ ⟨rfl,ht⟩
     have ak:=(yi bK ht)
     have bL:fZ (iJ bJ i):=fZ.mh aj o_
     obtain⟨dn,dp,e0,bL,ak⟩:=iH (m:=m) bL ak
     refine fP ak 1 ?_
     refine jc vC ?_
     have e9:iM xs i=dn:=by subst dp;subst dm;subst dk;subst di;subst dg;simp only[iM,J,bh];rfl
     have T:=ak
     rw[<-e9]at T
     exact⟨rfl,yj (yc [_,_] [] T)⟩
 . skip
   refine cl (nD fb nb m ed xs w (bk.at (i:=0) rfl) (bk.at (i:=1) rfl) oa hb F i o_ K) ?_
   rintro _ bb ⟨rfl,dq⟩
   have h:=yr bk dq
   obtain⟨dr,e1⟩:∃ q,Dk xs ((fJ xs i).up)=q:=⟨_,rfl⟩
   refine fK h 12 ?_
   rcases dr with bM|bN|bO
   . skip
     refine cl (nD fb nb m ed xs bb (h.at (i:=0) rfl) (h.at (i:=1) rfl) oa hb F ((fJ xs i).up) (o9 (F.up i om)) bM) ?_
     rintro _ e2 ⟨rfl,ds⟩
     have bc:=yr h ds
     refine fK bc 20 ?_
     refine jq (o' := i*9+0) (i:=(i:Int)) rfl rfl rfl yk jo om o_ (fK bc 1 ?_)
     refine j8 (f:=(fun x:Nd=>{ x with up:=((fJ xs ((fJ xs i).up)).up) })) 1 bc (fun dt u e3=>?_)
     have v:fZ (fO xs i (fun x=>{ x with up:=((fJ xs ((fJ xs i).up)).up) })):=fZ.iP F om (fun x a b c d e=>⟨a,b,(o9 (F.up ((fJ xs i).up) (o9 (F.up i om)))),d,e⟩)
     obtain⟨al,du,e4,v,u⟩:=iH (m:=m) v u
     refine fK u 14 ?_
     refine jq (o' := i*9+0) (i:=(i:Int)) rfl rfl rfl yk jo om o_ (fK u 1 ?_)
     refine ic (o:=i*9+0) (o' := i*9+1) (i:=1) rfl rfl rfl yq gq d_ rfl ?_
     have bP:=yc [_,_] _ u
     refine fK u 1 ?_
     refine cl (si fb nb m ed al dt (ye bP 0 rfl) oa hb v ((fJ xs i).up) ((fJ al i).k1) (o9 (F.up i om)) (o9 (v.k1 i om))) ?_
     rintro _ dv ⟨rfl,ht⟩
     have am:=(yi bP ht)
     have an:fZ (jb al ((fJ xs i).up) 0 ((fJ al i).k1)):=fZ.kW v (o9 (F.up i om)) (o9 (v.k1 i om))
     obtain⟨bQ,dw,e5,an,am⟩:=iH (m:=m) an am
     have bR:=yc [_,_] _ am
     refine fK am 9 ?_
     refine cl (sj fb nb m ed bQ dv (ye bR 0 rfl) oa hb an i ((fJ xs i).up) o_ (o9 (F.up i om))) ?_
     rintro _ dx ⟨rfl,ht⟩
     have ao:=(yi bR ht)
     have ap:fZ (jb bQ i 1 ((fJ xs i).up)):=fZ.kW an o_ (o9 (F.up i om))
     obtain⟨bS,dy,e6,ap,ao⟩:=iH (m:=m) ap ao
     have bT:=yc [_,_] _ ao
     refine fK ao 6 ?_
     refine cl (mB fb nb m ed bS dx (ye bT 0 rfl) oa hb ap ((fJ xs i).up) (o9 (F.up i om))) ?_
     rintro _ dz ⟨rfl,ht⟩
     have aq:=(yi bT ht)
     have ar:fZ (iJ bS ((fJ xs i).up)):=fZ.mh ap (o9 (F.up i om))
     obtain⟨bU,dA,e7,ar,aq⟩:=iH (m:=m) ar aq
     have bV:=yc [_,_] _ aq
     refine fK aq 5 ?_
     refine cl (mB fb nb m ed bU dz (ye bV 0 rfl) oa hb ar i o_) ?_
     rintro _ e8 ⟨rfl,ht⟩
     have au:=(yi bV ht)
     have bW:fZ (iJ bU i):=fZ.mh ar o_
     obtain⟨dB,dC,fa,bW,au⟩:=iH (m:=m) bW au
     refine fP au 1 ?_
     refine jc vC ?_
     have e9:iM xs i=dB:=by subst dC;subst dA;subst dy;subst dw;subst du;simp only[iM,K,bM];rfl
     have T:=au
     rw[<-e9]at T
     exact⟨rfl,yj (yc [_,_] [] T)⟩
   . skip
     refine cl (nD fb nb m ed xs bb (h.at (i:=0) rfl) (h.at (i:=1) rfl) oa hb F ((fJ xs i).up) (o9 (F.up i om)) bN) ?_
     rintro _ dD ⟨rfl,dE⟩
     have bX:=yr h dE
     have bY:=yc [_,_] _ bX
     refine fK bX 18 ?_
     refine cl (si fb nb m ed xs dD (ye bY 0 rfl) oa hb F ((fJ xs ((fJ xs i).up)).up) i (o9 (F.up ((fJ xs i).up) (o9 (F.up i om)))) o_) ?_
     rintro _ dF ⟨rfl,ht⟩
     have y:=(yi bY ht)
     have z:fZ (jb xs ((fJ xs ((fJ xs i).up)).up) 0 i):=fZ.kW F (o9 (F.up ((fJ xs i).up) (o9 (F.up i om)))) o_
     obtain⟨av,dG,fc,z,y⟩:=iH (m:=m) z y
     refine fK y 14 ?_
     refine jq (o' := i*9+0) (i:=(i:Int)) rfl rfl rfl yk jo om o_ (fK y 1 ?_)
     refine ic (o:=i*9+0) (o' := i*9+1) (i:=1) rfl rfl rfl yq gq d_ rfl ?_
     have bZ:=yc [_,_] _ y
     refine fK y 1 ?_
     refine cl (si fb nb m ed av dF (ye bZ 0 rfl) oa hb z ((fJ xs i).up) ((fJ av i).k1) (o9 (F.up i om)) (o9 (z.k1 i om))) ?_
     rintro _ dH ⟨rfl,ht⟩
     have aw:=(yi bZ ht)
     have ax:fZ (jb av ((fJ xs i).up) 0 ((fJ av i).k1)):=fZ.kW z (o9 (F.up i om)) (o9 (z.k1 i om))
     obtain⟨b0,dI,fd,ax,aw⟩:=iH (m:=m) ax aw
     have b1:=yc [_,_] _ aw
     refine fK aw 9 ?_
     refine cl (sj fb nb m ed b0 dH (ye b1 0 rfl) oa hb ax i ((fJ xs i).up) o_ (o9 (F.up i om))) ?_
     rintro _ dJ ⟨rfl,ht⟩
     have ay:=(yi b1 ht)
     have az:fZ (jb b0 i 1 ((fJ xs i).up)):=fZ.kW ax o_ (o9 (F.up i om))
     obtain⟨b2,dK,fe,az,ay⟩:=iH (m:=m) az ay
     have b3:=yc [_,_] _ ay
     refine fK ay 6 ?_
     refine cl (mB fb nb m ed b2 dJ (ye b3 0 rfl) oa hb az ((fJ xs i).up) (o9 (F.up i om))) ?_
     rintro _ dL ⟨rfl,ht⟩
     have aA:=(yi b3 ht)
     have aB:fZ (iJ b2 ((fJ xs i).up)):=fZ.mh az (o9 (F.up i om))
     obtain⟨b4,dM,ff,aB,aA⟩:=iH (m:=m) aB aA
     have b5:=yc [_,_] _ aA
     refine fK aA 5 ?_
     refine cl (mB fb nb m ed b4 dL (ye b5 0 rfl) oa hb aB i o_) ?_
     rintro _ fg ⟨rfl,ht⟩
     have aC:=(yi b5 ht)
     have b6:fZ (iJ b4 i):=fZ.mh aB o_
     obtain⟨dN,dO,fh,b6,aC⟩:=iH (m:=m) b6 aC
     refine fP aC 1 ?_
     refine jc vC ?_
     have e9:iM xs i=dN:=by subst dO;subst dM;subst dK;subst dI;subst dG;simp only[iM,K,bN];rfl
     have T:=aC
     rw[<-e9]at T
     exact⟨rfl,yj (yc [_,_] [] T)⟩
   . skip
     refine cl (nD fb nb m ed xs bb (h.at (i:=0) rfl) (h.at (i:=1) rfl) oa hb F ((fJ xs i).up) (o9 (F.up i om)) bO) ?_
     rintro _ dP ⟨rfl,dQ⟩
     have b7:=yr h dQ
     have b8:=yc [_,_] _ b7
     refine fK b7 18 ?_
     refine cl (sj fb nb m ed xs dP (ye b8 0 rfl) oa hb F ((fJ xs ((fJ xs i).up)).up) i (o9 (F.up ((fJ xs i).up) (o9 (F.up i om)))) o_) ?_
     rintro _ dR ⟨rfl,ht⟩
     have A:=(yi b8 ht)
     have B:fZ (jb xs ((fJ xs ((fJ xs i).up)).up) 1 i):=fZ.kW F (o9 (F.up ((fJ xs i).up) (o9 (F.up i om)))) o_
     obtain⟨aD,dS,fi,B,A⟩:=iH (m:=m) B A
     refine fK A 14 ?_
     refine jq (o' := i*9+0) (i:=(i:Int)) rfl rfl rfl yk jo om o_ (fK A 1 ?_)
     refine ic (o:=i*9+0) (o' := i*9+1) (i:=1) rfl rfl rfl yq gq d_ rfl ?_
     have b9:=yc [_,_] _ A
     refine fK A 1 ?_
     refine cl (si fb nb m ed aD dR (ye b9 0 rfl) oa hb B ((fJ xs i).up) ((fJ aD i).k1) (o9 (F.up i om)) (o9 (B.k1 i om))) ?_
     rintro _ dT ⟨rfl,ht⟩
     have aE:=(yi b9 ht)
     have aF:fZ (jb aD ((fJ xs i).up) 0 ((fJ aD i).k1)):=fZ.kW B (o9 (F.up i om)) (o9 (B.k1 i om))
     obtain⟨ca,dU,fj,aF,aE⟩:=iH (m:=m) aF aE
     have cb:=yc [_,_] _ aE
     refine fK aE 9 ?_
     refine cl (sj fb nb m ed ca dT (ye cb 0 rfl) oa hb aF i ((fJ xs i).up) o_ (o9 (F.up i om))) ?_
     rintro _ dV ⟨rfl,ht⟩
     have aG:=(yi cb ht)
     have aH:fZ (jb ca i 1 ((fJ xs i).up)):=fZ.kW aF o_ (o9 (F.up i om))
     obtain⟨cc,dW,fk,aH,aG⟩:=iH (m:=m) aH aG
     have cd:=yc [_,_] _ aG
     refine fK aG 6 ?_
     refine cl (mB fb nb m ed cc dV (ye cd 0 rfl) oa hb aH ((fJ xs i).up) (o9 (F.up i om))) ?_
     rintro _ dX ⟨rfl,ht⟩
     have aI:=(yi cd ht)
     have aJ:fZ (iJ cc ((fJ xs i).up)):=fZ.mh aH (o9 (F.up i om))
     obtain⟨ce,dY,fl,aJ,aI⟩:=iH (m:=m) aJ aI
     have cf:=yc [_,_] _ aI
     refine fK aI 5 ?_
     refine cl (mB fb nb m ed ce dX (ye cf 0 rfl) oa hb aJ i o_) ?_
     rintro _ fm ⟨rfl,ht⟩
     have aK:=(yi cf ht)
     have cg:fZ (iJ ce i):=fZ.mh aJ o_
     obtain⟨dZ,d0,fn,cg,aK⟩:=iH (m:=m) cg aK
     refine fP aK 1 ?_
     refine jc vC ?_
     have e9:iM xs i=dZ:=by subst d0;subst dY;subst dW;subst dU;subst dS;simp only[iM,K,bO];rfl
     have T:=aK
     rw[<-e9]at T
     exact⟨rfl,yj (yc [_,_] [] T)⟩
 . skip
   refine cl (nD fb nb m ed xs w (bk.at (i:=0) rfl) (bk.at (i:=1) rfl) oa hb F i o_ L) ?_
   rintro _ bd ⟨rfl,d1⟩
   have j:=yr bk d1
   obtain⟨d2,fo⟩:∃ q,Dk xs ((fJ xs i).up)=q:=⟨_,rfl⟩
   refine fK j 12 ?_
   rcases d2 with ch|ci|cj
   . skip
     refine cl (nD fb nb m ed xs bd (j.at (i:=0) rfl) (j.at (i:=1) rfl) oa hb F ((fJ xs i).up) (o9 (F.up i om)) ch) ?_
     rintro _ fp ⟨rfl,d3⟩
     have be:=yr j d3
     refine fK be 20 ?_
     refine jq (o' := i*9+0) (i:=(i:Int)) rfl rfl rfl yk jo om o_ (fK be 1 ?_)
     refine j8 (f:=(fun x:Nd=>{ x with up:=((fJ xs ((fJ xs i).up)).up) })) 1 be (fun d4 C fq=>?_)
     have D:fZ (fO xs i (fun x=>{ x with up:=((fJ xs ((fJ xs i).up)).up) })):=fZ.iP F om (fun x a b c d e=>⟨a,b,(o9 (F.up ((fJ xs i).up) (o9 (F.up i om)))),d,e⟩)
     obtain⟨aL,d5,fr,D,C⟩:=iH (m:=m) D C
     refine fK C 14 ?_
     refine jq (o' := i*9+0) (i:=(i:Int)) rfl rfl rfl yk jo om o_ (fK C 1 ?_)
     refine ic (o:=i*9+0) (o' := i*9+0) (i:=0) rfl rfl rfl yq gq d_ rfl ?_
     have ck:=yc [_,_] _ C
     refine fK C 1 ?_
     refine cl (sj fb nb m ed aL d4 (ye ck 0 rfl) oa hb D ((fJ xs i).up) ((fJ aL i).k0) (o9 (F.up i om)) (o9 (D.k0 i om))) ?_
     rintro _ d6 ⟨rfl,ht⟩
     have aM:=(yi ck ht)
     have aN:fZ (jb aL ((fJ xs i).up) 1 ((fJ aL i).k0)):=fZ.kW D (o9 (F.up i om)) (o9 (D.k0 i om))
     obtain⟨cm,d7,fs,aN,aM⟩:=iH (m:=m) aN aM
     have cn:=yc [_,_] _ aM
     refine fK aM 9 ?_
     refine cl (si fb nb m ed cm d6 (ye cn 0 rfl) oa hb aN i ((fJ xs i).up) o_ (o9 (F.up i om))) ?_
     rintro _ d8 ⟨rfl,ht⟩
     have aO:=(yi cn ht)
     have aP:fZ (jb cm i 0 ((fJ xs i).up)):=fZ.kW aN o_ (o9 (F.up i om))
     obtain⟨co,d9,ft,aP,aO⟩:=iH (m:=m) aP aO
     have cp:=yc [_,_] _ aO
     refine fK aO 6 ?_
     refine cl (mB fb nb m ed co d8 (ye cp 0 rfl) oa hb aP ((fJ xs i).up) (o9 (F.up i om))) ?_
     rintro _ ea ⟨rfl,ht⟩
     have aQ:=(yi cp ht)
     have aR:fZ (iJ co ((fJ xs i).up)):=fZ.mh aP (o9 (F.up i om))
     obtain⟨cq,eb,fu,aR,aQ⟩:=iH (m:=m) aR aQ
     have cr:=yc [_,_] _ aQ
     refine fK aQ 5 ?_
     refine cl (mB fb nb m ed cq ea (ye cr 0 rfl) oa hb aR i o_) ?_
     rintro _ fv ⟨rfl,ht⟩
     have aS:=(yi cr ht)
     have cs:fZ (iJ cq i):=fZ.mh aR o_
     obtain⟨ec,ee,fw,cs,aS⟩:=iH (m:=m) cs aS
     refine fP aS 1 ?_
     refine jc vC ?_
     have e9:iM xs i=ec:=by subst ee;subst eb;subst d9;subst d7;subst d5;simp only[iM,L,ch];rfl
     have T:=aS
     rw[<-e9]at T
     exact⟨rfl,yj (yc [_,_] [] T)⟩
   . skip
     refine cl (nD fb nb m ed xs bd (j.at (i:=0) rfl) (j.at (i:=1) rfl) oa hb F ((fJ xs i).up) (o9 (F.up i om)) ci) ?_
     rintro _ ef ⟨rfl,eg⟩
     have ct:=yr j eg
     have cu:=yc [_,_] _ ct
     refine fK ct 18 ?_
     refine cl (si fb nb m ed xs ef (ye cu 0 rfl) oa hb F ((fJ xs ((fJ xs i).up)).up) i (o9 (F.up ((fJ xs i).up) (o9 (F.up i om)))) o_) ?_
     rintro _ eh ⟨rfl,ht⟩
     have E:=(yi cu ht)
     have G:fZ (jb xs ((fJ xs ((fJ xs i).up)).up) 0 i):=fZ.kW F (o9 (F.up ((fJ xs i).up) (o9 (F.up i om)))) o_
     obtain⟨aT,ei,fx,G,E⟩:=iH (m:=m) G E
     refine fK E 14 ?_
     refine jq (o' := i*9+0) (i:=(i:Int)) rfl rfl rfl yk jo om o_ (fK E 1 ?_)
     refine ic (o:=i*9+0) (o' := i*9+0) (i:=0) rfl rfl rfl yq gq d_ rfl ?_
     have cv:=yc [_,_] _ E
     refine fK E 1 ?_
     refine cl (sj fb nb m ed aT eh (ye cv 0 rfl) oa hb G ((fJ xs i).up) ((fJ aT i).k0) (o9 (F.up i om)) (o9 (G.k0 i om))) ?_
     rintro _ ej ⟨rfl,ht⟩
     have aU:=(yi cv ht)
     have aV:fZ (jb aT ((fJ xs i).up) 1 ((fJ aT i).k0)):=fZ.kW G (o9 (F.up i om)) (o9 (G.k0 i om))
     obtain⟨cw,ek,fy,aV,aU⟩:=iH (m:=m) aV aU
     have cx:=yc [_,_] _ aU
     refine fK aU 9 ?_
     refine cl (si fb nb m ed cw ej (ye cx 0 rfl) oa hb aV i ((fJ xs i).up) o_ (o9 (F.up i om))) ?_
     rintro _ el ⟨rfl,ht⟩
     have aW:=(yi cx ht)
     have aX:fZ (jb cw i 0 ((fJ xs i).up)):=fZ.kW aV o_ (o9 (F.up i om))
     obtain⟨cy,em,fz,aX,aW⟩:=iH (m:=m) aX aW
     have cz:=yc [_,_] _ aW
     refine fK aW 6 ?_
     refine cl (mB fb nb m ed cy el (ye cz 0 rfl) oa hb aX ((fJ xs i).up) (o9 (F.up i om))) ?_
     rintro _ eo ⟨rfl,ht⟩
     have aY:=(yi cz ht)
     have aZ:fZ (iJ cy ((fJ xs i).up)):=fZ.mh aX (o9 (F.up i om))
     obtain⟨cA,ep,fA,aZ,aY⟩:=iH (m:=m) aZ aY
     have cB:=yc [_,_] _ aY
     refine fK aY 5 ?_
     refine cl (mB fb nb m ed cA eo (ye cB 0 rfl) oa hb aZ i o_) ?_
     rintro _ fB ⟨rfl,ht⟩
     have a0:=(yi cB ht)
     have cC:fZ (iJ cA i):=fZ.mh aZ o_
     obtain⟨eq,er,fC,cC,a0⟩:=iH (m:=m) cC a0
     refine fP a0 1 ?_
     refine jc vC ?_
     have e9:iM xs i=eq:=by subst er;subst ep;subst em;subst ek;subst ei;simp only[iM,L,ci];rfl
     have T:=a0
     rw[<-e9]at T
     exact⟨rfl,yj (yc [_,_] [] T)⟩
   . skip
     refine cl (nD fb nb m ed xs bd (j.at (i:=0) rfl) (j.at (i:=1) rfl) oa hb F ((fJ xs i).up) (o9 (F.up i om)) cj) ?_
     rintro _ es ⟨rfl,et⟩
     have cD:=yr j et
     have cE:=yc [_,_] _ cD
     refine fK cD 18 ?_
     refine cl (sj fb nb m ed xs es (ye cE 0 rfl) oa hb F ((fJ xs ((fJ xs i).up)).up) i (o9 (F.up ((fJ xs i).up) (o9 (F.up i om)))) o_) ?_
     rintro _ eu ⟨rfl,ht⟩
     have H:=(yi cE ht)
     have I:fZ (jb xs ((fJ xs ((fJ xs i).up)).up) 1 i):=fZ.kW F (o9 (F.up ((fJ xs i).up) (o9 (F.up i om)))) o_
     obtain⟨a1,ev,fD,I,H⟩:=iH (m:=m) I H
     refine fK H 14 ?_
     refine jq (o' := i*9+0) (i:=(i:Int)) rfl rfl rfl yk jo om o_ (fK H 1 ?_)
     refine ic (o:=i*9+0) (o' := i*9+0) (i:=0) rfl rfl rfl yq gq d_ rfl ?_
     have cF:=yc [_,_] _ H
     refine fK H 1 ?_
     refine cl (sj fb nb m ed a1 eu (ye cF 0 rfl) oa hb I ((fJ xs i).up) ((fJ a1 i).k0) (o9 (F.up i om)) (o9 (I.k0 i om))) ?_
     rintro _ ew ⟨rfl,ht⟩
     have a2:=(yi cF ht)
     have a3:fZ (jb a1 ((fJ xs i).up) 1 ((fJ a1 i).k0)):=fZ.kW I (o9 (F.up i om)) (o9 (I.k0 i om))
     obtain⟨cG,ex,fE,a3,a2⟩:=iH (m:=m) a3 a2
     have cH:=yc [_,_] _ a2
     refine fK a2 9 ?_
     refine cl (si fb nb m ed cG ew (ye cH 0 rfl) oa hb a3 i ((fJ xs i).up) o_ (o9 (F.up i om))) ?_
     rintro _ ey ⟨rfl,ht⟩
     have a4:=(yi cH ht)
     have a5:fZ (jb cG i 0 ((fJ xs i).up)):=fZ.kW a3 o_ (o9 (F.up i om))
     obtain⟨cI,ez,fF,a5,a4⟩:=iH (m:=m) a5 a4
     have cJ:=yc [_,_] _ a4
     refine fK a4 6 ?_
     refine cl (mB fb nb m ed cI ey (ye cJ 0 rfl) oa hb a5 ((fJ xs i).up) (o9 (F.up i om))) ?_
     rintro _ eA ⟨rfl,ht⟩
     have a6:=(yi cJ ht)
     have a7:fZ (iJ cI ((fJ xs i).up)):=fZ.mh a5 (o9 (F.up i om))
     obtain⟨cK,eB,fG,a7,a6⟩:=iH (m:=m) a7 a6
     have cL:=yc [_,_] _ a6
     refine fK a6 5 ?_
     refine cl (mB fb nb m ed cK eA (ye cL 0 rfl) oa hb a7 i o_) ?_
     rintro _ fH ⟨rfl,ht⟩
     have a8:=(yi cL ht)
     have cM:fZ (iJ cK i):=fZ.mh a7 o_
     obtain⟨eC,eD,fI,cM,a8⟩:=iH (m:=m) cM a8
     refine fP a8 1 ?_
     refine jc vC ?_
     have e9:iM xs i=eC:=by subst eD;subst eB;subst ez;subst ex;subst ev;simp only[iM,L,cj];rfl
     have T:=a8
     rw[<-e9]at T
     exact⟨rfl,yj (yc [_,_] [] T)⟩
theorem UD(h1:v.oneCell' = true) :
 CR ya 342 #[v] w (fun r w' => ∃ g,w.heap.size<=g/\r = .func (.func 358) #[] (Zh g)/\(blk g 37 [v]).holds w' /\ gx [] w w'):=by
 refine en func342 ntmps342 ?_
 have f:=yu w
 refine fR f 2 ?_
 refine ir f (fun b d c e a=>?_) (hcs:=(cells_one h1))
 refine fK a 5 ?_
 refine mX (vf:=[]) (vc:=(Zf b)) rfl rfl rfl (fP a 4 ?_)
 refine gf (v:=(.func (.func 358) #[] (Zh b))) results342 rfl ?_
 exact⟨_,mF (f.size zd) c,rfl,a.at (i:=0) rfl,a.gA s_⟩
theorem UC(s:Nat->fT)(l u:Nat)(v:Value)(xs:List Int)(ok:Nat->Prop)(w:World)(E:∀ (k:Nat) (x:Int) (bs:List (World×List Nat)) (L:List fT) (w:World),k<xs.length->xs[xs.length-1-k]? = some x->St bs (s k :: L) w->YR ya l (Zr ((xs.length:Int)-1-(k:Int)) x) w (fun v w' => v = .bool true/\St bs (s (k+1) :: L) w'))(C:Own (s 0) w)(A:(blk u 37 [v]).holds w)(D:u∉(s 0).gJ)(hv:Ints .i64 ok w v xs)(y:∀ b,ok b->b∉(s 0).gJ)(G:xs.length<=1000000000000) :
 CR ya 358 (Mo (.func (.yield l) #[] #[]) u) w (fun r w' => r = .tuple #[]/\fV (s 0) w w' (s xs.length)):=by
 have hv:=hv.old d_
 have y:∀ b,(ok b/\b<w.heap.size)->b∉(s 0).gJ:=fun b hb=>y b hb.1
 refine en func358 ntmps358 ?_
 have z:=yt C
 refine fR z 2 ?_
 refine ld rfl rfl yd rfl (Ct A (o:=0) rfl) (jY (v:=v) rfl rfl yd hv (gF z 5 ?_))
 refine lp (α:=Nat) (fun k=>[(0,(.func (.yield l) #[] #[])),(1,(Zb u)),(3,(Za ((xs.length:Int)-1-(k:Int))))]) (fun k w1=>St [(w,(s 0).gJ)] [s k] w1/\k<=xs.length) (fun k=>xs.length-k) 0 ⟨rfl,rfl,gm rO,trivial⟩ (⟨z,o_⟩) ?_
 rintro k f g ⟨t,F⟩
 refine fR t 4 ?_
 by_cases h:((xs.length:Int)-1-(k:Int):Int)≥0
 . obtain⟨x,B⟩:=oW (show xs.length-1-k<xs.length by omega)
   refine fK t 12 ?_
   refine ld rfl rfl yd rfl (St.ID t (X:=(s 0).gJ) s_ (Ct A (o:=0) rfl) D) (fK t 1 ?_)
   refine CI (i:=(xs.length:Int)-1-(k:Int)) (el:=x) rfl rfl rfl yd gq (St.ints t (X:=(s 0).gJ) s_ hv y) o_ (by rw[show ((xs.length:Int)-1-(k:Int)).toNat=xs.length-1-k by omega];exact B) ?_
   intro j m c d n
   have p:=d.i64
   refine ld rfl rfl yg rfl c (yl (vl:=(Zr ((xs.length:Int)-1-(k:Int)) x)) rfl rfl rfl (E k x _ _ _ o_ B t) ?_)
   rintro _ q ⟨rfl,a⟩
   refine fK a 9 ?_
   refine ar (e:=(xs.length:Int)-1-((k+1:Nat):Int)) rfl rfl rfl rfl je (fP a 2 ?_)
   refine tN (?_)
   exact again (k+1) ⟨rfl,rfl,gm rO,trivial⟩ (⟨a,o_⟩) (by show (xs.length-(k+1):Nat)<xs.length-k;omega)
 . refine fP t 8 ?_
   refine jc results358 ?_
   obtain rfl:k=xs.length:=by omega
   exact⟨rfl,ym (R:=s 0) t s_⟩
theorem RS(hO:Own (Zk fb nb m ed xs) w)(hm:xs.length=m)(hb:m<=1000001)(hI:fZ xs)(i q:Nat)(T:Tr)(hR:gT xs T q)(hT:i∈T.mem)(hn:T.mem.Nodup)(bI:T.mem.length<=1000000)(hq:Out xs q T.mem) :
 CR ya 327 (Zm fb i) w (fun r w' => r = .tuple #[]/\∃ ys a' b', jK xs ys T [] (.nd a' i b') q/\(fJ ys i).flip=false/\fZ ys/\fV (Zk fb nb m ed xs) w w' (Zk fb nb m ed ys)):=by
 have b9:i<m:=by have h7:=hR.pK i hT;omega
 obtain⟨c,a,b,rfl⟩:=FK hT
 have bH:=At.start hR hn
 have bK:Out xs q (lW c (Tr.nd a i b).mem):=by rw[<-qj];exact hq
 have bE:=aa9 hR
 have bY:=aa8 (c:=c) (a:=a) (b:=b) (i:=i)
 have bA:=hI.lX bE
 have bR:=FR (m:=m) (fun j hj=>by have:=bE j hj;omega) hb
 refine AR (vs:=(tS fb i)) func327 rfl ntmps327 rfl ?_
 have bO:=(yt hO).unpack
 refine fR bO 2 ?_
 refine ir bO (fun e aj a7 a8 I=>?_)
 have ak:St _ [iz .i64 Zi 3 ([]),blk e 208 (Zf fb),blk fb 391 (vY fb nb m ed),blk nb 388 (xs.flatMap Nd.cells)] aj:=qJ I 3 1
 have al:=ak
 have am:=al
 refine gF I 19 ?_
 refine lp (α:=Nat×Nat×Value) (fun(k,j,pv)=>[(1,(Za i)),(2,(Zb e)),(4,pv),(5,(Za j))]) (fun(k,j,pv) w1=>St [(w,(Zk fb nb m ed xs).gJ)] [iz .i64 pv 3 (gy ((js c i).take k)),blk e 208 (Zf fb),blk fb 391 (vY fb nb m ed),blk nb 388 (xs.flatMap Nd.cells)] w1/\(js c i)[k]? = some j) (fun(k,j,pv)=>c.length+1-k) (0,i,Zi) ⟨rfl,rfl,rfl,gm rO,trivial⟩ (⟨am,rfl⟩) ?_
 rintro⟨k,j,pv⟩ a9 ba hC
 have bU:j<m:=by have h7:=bE j (ze hC.2);omega
 refine fR hC.1 5 ?_
 refine jW (vs:=(Ze j)) (cs:=(Ze j)) rfl rfl yd gq rfl (by simp[Value.cells]) rfl rfl rfl hC.1 (fun an bb bc bd J=>vZ (k:=.i64) (ys:=gy ((js c i).take k)) (zs:=[(j:Int)]) (LL:=fun f=>[iz .i64 (Z4 an) 3 ([(j:Int)]),iz .i64 f 3 ((gy ((js c i).take k))++([(j:Int)])),blk e 208 (Zf fb),blk fb 391 (vY fb nb m ed),blk nb 388 (xs.flatMap Nd.cells)]) 1 rfl rfl rfl yd gq rfl J rfl (lF J (i:=0) rfl) (by simp only[gy,zu,k8,zh,zk];omega) (by simp only[gy,zu,k8,zh,zk];omega) f_ ?_)
 intro f t K be
 have ao:=yf [1,2,3,4] K
 have g:=yf [3,4,1,2] K
 obtain⟨ap,bf⟩:∃ q,Dk xs j=q:=⟨_,rfl⟩
 refine fK ao 8 ?_
 rcases ap with M|N|P
 . skip
   have b8:=Vw bH bK hC.2 M
   have bQ:gy ((js c i).take k)++[(j:Int)]=gy (js c i):=by rw[Kf hC.2,vF (by rw[bY.1];omega)]
   refine cl (nD fb nb m ed xs t (g.at (i:=0) rfl) (g.at (i:=1) rfl) oa hb hI j o_ M) ?_
   rintro _ aq ⟨rfl,ar⟩
   have u:=yr g ar
   refine fK u 24 ?_
   refine cl (UD f aq (yv u (i:=2) rfl)) ?_
   rintro _ au ⟨kb,bW,rfl,bV,bZ⟩
   have Q:=St.Ns u bZ bW bV
   have av:=yf [4,1,2,3,0] Q
   have aw:St [(w,(Zk fb nb m ed xs).gJ)] (MI e fb nb m ed (lX xs (js c i) 0) f (gy (js c i)) kb) au:=by rw[Q7];have h9:=av;rw[bQ]at h9;exact h9
   refine gF Q 3 ?_
   refine rf (α:=Nat) (ps:=[38,39]) (fi:=[]) (ca:=(Zf kb)) (fun z=>(MI e fb nb m ed (lX xs (js c i) z) f (gy (js c i)) kb)) (fun z=>z=(js c i).length) aw rfl eN ?_ ?_
   . intro fn dd l wl rc bL b6
     have ax:=yf [0,2,3,4,1,5,6] b6
     have bC:=yc (Aq (iw l rc) e fb nb m ed (lX xs (js c i) 0)) [j6 dd (some []),iz .i64 f 3 (gy (js c i)),blk kb 37 [f]] ax
     have bM:rc.state = .ready:=by rw[bL]
     have b1:rc.pending=none:=by rw[bL]
     have b3:∀ (k:Nat) (x:Int) (bs:List (World×List Nat)) (L:List fT) (w:World),k<(gy (js c i)).length->(gy (js c i))[(gy (js c i)).length-1-k]? = some x->St bs ((fun(z:Nat)=>gh (Aq (iw l rc) e fb nb m ed (lX xs (js c i) z))) k :: L) w->YR ya l (Zr (((gy (js c i)).length:Int)-1-(k:Int)) x) w (fun v w' => v = .bool true/\St bs ((fun(z:Nat)=>gh (Aq (iw l rc) e fb nb m ed (lX xs (js c i) z))) (k+1) :: L) w'):=by
      intro k x bs LT wr bX hx bD
      have bD:=bD.unpack
      obtain⟨j,hj,rfl⟩:=aay bX hx
      have bU:j<m:=by have:=bE j (by simpa using ze hj);omega
      have cb:=(bA k).2
      refine yU (vl:=(Zr (((gy (js c i)).length:Int)-1-(k:Int)) j)) 0 bL bD rfl rfl rfl (iT bD 3 ?_)
      refine tN (?_)
      refine AH 0 bD rfl bM rfl ?_
      intro ay R
      have az:=mP R (List.Perm.cons _ (List.Perm.swap _ _ _))
      have aA:=mP az (List.Perm.swap _ _ _)
      have aB:=mP aA (List.Perm.cons _ (List.Perm.cons _ (List.Perm.swap _ _ _)))
      have aC:=mP aB (List.Perm.cons _ (List.Perm.swap _ _ _))
      have S:=yc [_,_] _ aC
      refine fR R 4 ?_
      refine cl (Kw fb nb m ed (lX xs (js c i) k) ay (ye S 0 rfl) oa hb (bA k).1 j o_) ?_
      rintro _ bg ⟨rfl,ht⟩
      have U:=(yi S ht)
      have bh:fZ (kj (lX xs (js c i) k) j):=(fZ.push (bA k).1 o_).1
      refine fP U 2 ?_
      refine u9 2 U rfl bM b1 rfl ?_
      intro bi aD
      have aE:=mP aD (List.Perm.cons _ (List.Perm.swap _ _ _))
      have aF:=mP aE (List.Perm.swap _ _ _)
      have aG:=mP aF (List.Perm.cons _ (List.Perm.cons _ (List.Perm.swap _ _ _)))
      have aH:=mP aG (List.Perm.cons _ (List.Perm.swap _ _ _))
      have bN:=aH
      rw[<-Q6 hj]at bN
      exact⟨_,rfl,rfl,yc [_,_,_,_] _ bN⟩
     refine CR.mono (UC (fun(z:Nat)=>gh (Aq (iw l rc) e fb nb m ed (lX xs (js c i) z))) l kb f (gy (js c i)) (fun b=>b∉((fun(z:Nat)=>gh (Aq (iw l rc) e fb nb m ed (lX xs (js c i) z))) 0).gJ) wl b3 (ye bC 0 rfl) (bC.at (i:=3) rfl) (bC.Qo (by simp[iZ,blk,j6])) (St.acI bC (i:=2) (j:=0) rfl bR rfl d_) (fun _ h=>h) (by simp only[gy,zu];omega)) ?_
     rintro _ w9 ⟨-,b7⟩
     have b5:=(yi bC b7)
     have aI:=yf [0,4,1,2,3,5,6] b5
     exact⟨_,by simp[gy],aI⟩
   . rintro z dd bj hC aJ
     have V:=yf [0,1,2,3] aJ
     obtain⟨O0,a0,b0,bP,bT⟩:=abK hR hn hC
     refine QD tt none V 3 ?_
     refine lp (α:=List Nd×Cx×Tr×Tr) (fun(ys,O,a', b')=>[(1,(Za i)),(2,(Zb e))]) (fun(ys,O,a', b') w1=>St [(w,(Zk fb nb m ed xs).gJ)] (Aq (j6 dd (some [])) e fb nb m ed ys) w1/\jK xs ys (ki c (.nd a i b)) O (.nd a' i b') q/\(fJ ys i).flip=false/\fZ ys/\ys.length=m) (fun(ys,O,a', b')=>O.length) ((lX xs (js c i) z),O0,a0,b0) ⟨rfl,rfl,trivial⟩ (⟨V,bP,bT,(bA z).1,by have:=(bA z).2;omega⟩) ?_
     rintro⟨ys,O,a', b'⟩ bl y ⟨bz,hM,bF,F,cc⟩
     refine fR bz 3 ?_
     rcases hM.sides hn hq with ⟨hO,hS⟩|⟨d,p,s2,hO,hS,hU,bG⟩|⟨d,p,s2,d', g2,s3,c2,hO,hS,hU,bG⟩
     . skip
       subst hO
       have A:=yf [2,3,0,1] bz
       refine fK bz 2 ?_
       refine cl (nD fb nb m ed ys y (A.at (i:=0) rfl) (A.at (i:=1) rfl) oa hb F i o_ hS) ?_
       rintro _ bm ⟨rfl,aK⟩
       have W:=yr A aK
       refine fP W 21 ?_
       refine yC 2 W rfl rfl ?_
       intro w8 b4
       exact⟨_,results_none results327 _ _ _,_,rfl,rfl,ys,a', b', hM,bF,F,yj (yc [_,_] _ b4)⟩
     . skip
       subst hO
       subst hU
       have B:=yf [2,3,0,1] bz
       refine fK bz 2 ?_
       refine cl (nD fb nb m ed ys y (B.at (i:=0) rfl) (B.at (i:=1) rfl) oa hb F i o_ hS) ?_
       rintro _ aL ⟨rfl,aM⟩
       have n:=yr B aM
       refine fK n 24 ?_
       refine jq (o' := i*9+0) (i:=(i:Int)) rfl rfl rfl yk jo (o9 (show i<(ys).length from om)) o_ (fK n 10 ?_)
       refine cl (nD fb nb m ed ys aL (n.at (i:=0) rfl) (n.at (i:=1) rfl) oa hb F ((fJ ys i).up) (o9 (F.up i om)) bG) ?_
       rintro _ aN ⟨rfl,aO⟩
       have X:=yr n aO
       have Y:=yc [_,_] _ X
       refine fK X 18 ?_
       refine cl (yV fb nb m ed ys aN (ye Y 0 rfl) oa hb F i o_) ?_
       rintro _ bn ⟨rfl,ht⟩
       have Z:=(yi Y ht)
       have aP:fZ (iM ys i):=(fZ.rotate F o_).1
       have bo:(iM ys i).length=m:=(Dg F o_).trans o_
       refine fP Z 2 ?_
       refine tN (?_)
       have aQ:=yf [2,3,0,1] Z
       obtain⟨a2,b2,bk,bB⟩:=hM.zig hn o_ bI hq bF
       exact again (iM ys i,[],a2,b2) ⟨rfl,rfl,trivial⟩ (⟨aQ,bk,bB,aP,by have:=bk.kl.len;omega⟩) (by simp only[zh,zk];omega)
     . skip
       subst hO
       subst hU
       have C:=yf [2,3,0,1] bz
       refine fK bz 2 ?_
       refine cl (nD fb nb m ed ys y (C.at (i:=0) rfl) (C.at (i:=1) rfl) oa hb F i o_ hS) ?_
       rintro _ aR ⟨rfl,aS⟩
       have o:=yr C aS
       refine fK o 24 ?_
       refine jq (o' := i*9+0) (i:=(i:Int)) rfl rfl rfl yk jo (o9 (show i<(ys).length from om)) o_ (fK o 10 ?_)
       refine cl (nD fb nb m ed ys aR (o.at (i:=0) rfl) (o.at (i:=1) rfl) oa hb F ((fJ ys i).up) (o9 (F.up i om)) bG) ?_
       rintro _ aa ⟨rfl,aT⟩
       have s:=yr o aT
       refine fK s 17 ?_
       by_cases aU:(sd d:Int)=((sd d' : Int):Int)
       . have ab:=yc [_,_] _ s
         refine fK s 7 ?_
         refine cl (yV fb nb m ed ys aa (ye ab 0 rfl) oa hb F ((fJ ys i).up) (o9 (F.up i om))) ?_
         rintro _ aV ⟨rfl,ht⟩
         have ac:=(yi ab ht)
         have D:fZ (iM ys ((fJ ys i).up)):=(fZ.rotate F (o9 (F.up i om))).1
         have bp:(iM ys ((fJ ys i).up)).length=m:=(Dg F (o9 (F.up i om))).trans o_
         have ad:=yc [_,_] _ ac
         refine fK ac 5 ?_
         refine cl (yV fb nb m ed (iM ys ((fJ ys i).up)) aV (ye ad 0 rfl) oa hb D i o_) ?_
         rintro _ bq ⟨rfl,ht⟩
         have ae:=(yi ad ht)
         have aW:fZ (iM (iM ys ((fJ ys i).up)) i):=(fZ.rotate D o_).1
         have br:(iM (iM ys ((fJ ys i).up)) i).length=m:=(Dg D o_).trans o_
         refine fP ae 2 ?_
         refine tN (?_)
         have aX:=yf [2,3,0,1] ae
         have bS:=ac3 (Int.ofNat.inj aU)
         subst bS
         obtain⟨a2,b2,bk,bB⟩:=hM.af6 hn o_ bI hq bF
         exact again (iM (iM ys ((fJ ys i).up)) i,c2,a2,b2) ⟨rfl,rfl,trivial⟩ (⟨aX,bk,bB,aW,by have:=bk.kl.len;omega⟩) (by simp only[zh,zk];omega)
       . have af:=yc [_,_] _ s
         refine fK s 7 ?_
         refine cl (yV fb nb m ed ys aa (ye af 0 rfl) oa hb F i o_) ?_
         rintro _ aY ⟨rfl,ht⟩
         have ag:=(yi af ht)
         have E:fZ (iM ys i):=(fZ.rotate F o_).1
         have bt:(iM ys i).length=m:=(Dg F o_).trans o_
         have ah:=yc [_,_] _ ag
         refine fK ag 5 ?_
         refine cl (yV fb nb m ed (iM ys i) aY (ye ah 0 rfl) oa hb E i o_) ?_
         rintro _ bu ⟨rfl,ht⟩
         have ai:=(yi ah ht)
         have aZ:fZ (iM (iM ys i) i):=(fZ.rotate E o_).1
         have bv:(iM (iM ys i) i).length=m:=(Dg E o_).trans o_
         refine fP ai 2 ?_
         refine tN (?_)
         have a1:=yf [2,3,0,1] ai
         obtain⟨a2,b2,bk,bB⟩:=hM.af5 hn o_ bI hq bF
         exact again (iM (iM ys i) i,c2,a2,b2) ⟨rfl,rfl,trivial⟩ (⟨a1,bk,bB,aZ,by have:=bk.kl.len;omega⟩) (by simp only[zh,zk];omega)
 . skip
   have bJ:=N8 bH bK hC.2 N
   refine cl (nD fb nb m ed xs t (g.at (i:=0) rfl) (g.at (i:=1) rfl) oa hb hI j o_ N) ?_
   rintro _ bw ⟨rfl,a3⟩
   have G:=yr g a3
   refine fK G 22 ?_
   refine jq (o' := j*9+0) (i:=(j:Int)) rfl rfl rfl yk jo om o_ (fP G 5 ?_)
   refine tN (?_)
   have a4:=yf [2,3,0,1] G
   exact again ((k+1),(fJ xs j).up,f) ⟨rfl,rfl,rfl,gm rO,trivial⟩ (⟨by rw[<-Kf hC.2];exact a4,bJ.2⟩) (by show (c.length+1-(k+1):Nat)<c.length+1-k;omega)
 . skip
   have bJ:=N8 bH bK hC.2 P
   refine cl (nD fb nb m ed xs t (g.at (i:=0) rfl) (g.at (i:=1) rfl) oa hb hI j o_ P) ?_
   rintro _ bx ⟨rfl,a5⟩
   have H:=yr g a5
   refine fK H 22 ?_
   refine jq (o' := j*9+0) (i:=(j:Int)) rfl rfl rfl yk jo om o_ (fP H 5 ?_)
   refine tN (?_)
   have a6:=yf [2,3,0,1] H
   exact again ((k+1),(fJ xs j).up,f) ⟨rfl,rfl,rfl,gm rO,trivial⟩ (⟨by rw[<-Kf hC.2];exact a6,bJ.2⟩) (by show (c.length+1-(k+1):Nat)<c.length+1-k;omega)
theorem xW(hO:Own (Zk fb nb m ed xs) w)(hm:xs.length=m)(hb:m<=1000001)(hI:fZ xs)(F:FT)(hF:Fo xs F)(i:Nat)(hi:i≠0)(aI:i<m) :
 CR ya 288 (Zm fb i) w (fun r w' => ∃ l:Nat,r = .int .i64 (l:Int)/\∃ ys a R,jf xs F ys i a R/\fZ ys/\fV (Zk fb nb m ed xs) w w' (Zk fb nb m ed ys)):=by
 obtain⟨k0,aD⟩:=Ex.init hF (i:=i) o_
 refine en func288 ntmps288 ?_
 have aB:=(yt hO).unpack
 refine rm aB 18 ?_
 refine lp (α:=List Nd×Nat×Nat×Nat×FT×Tr) (fun(zs,below,j,k,R,B)=>[(0,(Zb fb)),(1,(Za i)),(5,(Za below)),(6,(Za j))]) (fun(zs,below,j,k,R,B) w1=>St [(w,(Zk fb nb m ed xs).gJ)] [blk fb 391 (vY fb nb m ed),blk nb 388 (zs.flatMap Nd.cells)] w1/\Ex xs F i zs below j k R B/\fZ zs/\zs.length=m) (fun(zs,below,j,k,R,B)=>k) (xs,0,i,k0,F,.nil) ⟨rfl,rfl,gm rO,gm rO,trivial⟩ (⟨aB,aD,hI,hm⟩) ?_
 rintro⟨zs,below,j,k,R,B⟩ ac D ⟨ap,hE,aA,aL⟩
 have aH:below<m:=by have h7:=hE.rep.Bn o_;rw[hE.root]at h7;omega
 have aJ:j<m:=by have h7:=hE.lt;omega
 refine fR ap 4 ?_
 by_cases Q:(j:Int)=0
 . have aG:j=0:=by omega
   refine fK ap 1 ?_
   subst aG
   obtain⟨au,av,aw,ax,ay,az⟩:=hE.fin hi
   have E:=yc [_,_] _ ap
   refine fK ap 12 ?_
   refine cl (RS fb nb m ed zs D (ye E 0 rfl) (by first|exact hm|omega) hb aA i 0 B au av aw ax ay) ?_
   rintro _ ad ⟨rfl,u,G,S,H,I,U,ht⟩
   have J:=(yi E ht)
   have ae:u.length=m:=by have:=H.kl.len;omega
   refine fP J 9 ?_
   refine gf (v:=(Za below)) results288 rfl ?_
   obtain⟨aE,h1,h2,h3,h4,h5⟩:=az u G S H I
   subst aE
   exact⟨below,rfl,u,G,R,⟨h1,I,h2,h3,h4,h5⟩,U,yj (yc [_,_] [] J)⟩
 . have aF:j≠0:=fun h7=>Q o_
   obtain⟨T,q,au,av,aw,ax,ay,az⟩:=hE.go aF
   have K:=yc [_,_] _ ap
   refine fK ap 12 ?_
   refine cl (RS fb nb m ed zs D (ye K 0 rfl) (by first|exact hm|omega) hb aA j q T au av aw ax ay) ?_
   rintro _ af ⟨rfl,g,L,V,M,W,y,ht⟩
   have N:=(yi K ht)
   have ag:g.length=m:=by have:=M.kl.len;omega
   refine fK N 9 ?_
   refine jq (o' := j*9+0) (i:=(j:Int)) rfl rfl rfl yk jo (o9 (show j<(g).length from om)) o_ (gC N 16 fun ah h=>?_)
   refine ic (o:=j*9+0) (o' := j*9+1) (i:=1) rfl rfl rfl yq gq d_ rfl (fK h 1 ?_)
   refine jq (o' := ((fJ g j).k1)*9+0) (i:=((fJ g j).k1:Int)) rfl rfl rfl yk jo (o9 (show ((fJ g j).k1)<(g).length from(o9 (y.k1 j om)))) o_ (fK h 1 ?_)
   refine ld rfl rfl yg rfl (nk h (i:=1) rfl f_ (o9 (y.k1 j om)) rfl) (fK h 5 ?_)
   refine jq (o' := below*9+0) (i:=(below:Int)) rfl rfl rfl yk jo (o9 (show below<(g).length from om)) o_ (fK h 2 ?_)
   refine ar (e:=(IntKind.i64.wrap ((fJ g ((fJ g j).k1)).total-(fJ g below).total))) rfl rfl rfl rfl rfl (ar (e:=(IntKind.i64.wrap ((fJ g j).iO+(IntKind.i64.wrap ((fJ g ((fJ g j).k1)).total-(fJ g below).total))))) rfl rfl rfl rfl rfl (fK h 2 ?_))
   refine j8 (f:=(fun x:Nd=>{ x with iO:=(IntKind.i64.wrap ((fJ g j).iO+(IntKind.i64.wrap ((fJ g ((fJ g j).k1)).total-(fJ g below).total)))) })) 1 h (fun ai p aj=>?_)
   have z:fZ (fO g j (fun x=>{ x with iO:=(IntKind.i64.wrap ((fJ g j).iO+(IntKind.i64.wrap ((fJ g ((fJ g j).k1)).total-(fJ g below).total)))) })):=fZ.iP y om (fun x a b c d e=>⟨a,b,c,d,e⟩)
   obtain⟨X,Y,ak,z,p⟩:=iH (m:=m) z p
   refine fK p 8 ?_
   refine ic (o:=j*9+0) (o' := j*9+1) (i:=1) rfl rfl rfl yq gq d_ rfl (j8 (f:=(fun x:Nd=>{ x with k1:=below })) 1 p (fun Z s al=>?_))
   have t:fZ (fO X j (fun x=>{ x with k1:=below })):=fZ.iP z om (fun x a b c d e=>⟨a,om,c,d,e⟩)
   obtain⟨O,aa,am,t,s⟩:=iH (m:=m) t s
   have P:=yc [_,_] _ s
   refine fK s 6 ?_
   refine cl (mB fb nb m ed O Z (ye P 0 rfl) oa hb t j o_) ?_
   rintro _ an ⟨rfl,ht⟩
   have n:=(yi P ht)
   have A:fZ (iJ O j):=fZ.mh t o_
   obtain⟨C,ab,ao,A,n⟩:=iH (m:=m) A n
   refine fK n 14 ?_
   refine jq (o' := j*9+0) (i:=(j:Int)) rfl rfl rfl yk jo om o_ (fP n 4 ?_)
   refine tN (?_)
   have e9:lS g j below=C:=by rw[ab,aa,Y];rfl
   obtain⟨aC,aK,k', R', hk,aq⟩:=az g L V M W
   rw[e9]at aC aq
   rw[<-aC]at aq
   exact again (C,j,(fJ C j).up,k', R', (.nd L j B)) ⟨rfl,rfl,gm rO,gm rO,trivial⟩ (⟨n,aq,A,o_⟩) (by subst hk;exact BV _)
theorem Tj(d:(Al fb nb m ed).holds w)(hb:m<=1000001) :
 CR ya 323 (Zh fb) w (fun r w' => r = .bool true/\gx [] w w'):=by
 refine en func323 ntmps323 ?_
 have b:=yu w
 refine fR b 8 ?_
 refine lI (a:=some ⟨fb,0,none⟩) (c:=true) rfl rfl rfl underlying208 rfl (fK b 6 ?_)
 refine xV (a:=⟨fb,0,none⟩) rfl rfl rfl underlying208 Lz (fP b 5 ?_)
 refine gf (v:=Zg) results323 rfl ?_
 exact⟨rfl,b.gA s_⟩
theorem AV(f:(Al fb nb m ed).holds w)(hb:m<=1000001)(v:Nat)(hv:v+1<m) :
 CR ya 316 (Zm fb v) w (fun r w' => r = .bool true/\gx [] w w'):=by
 refine en func316 ntmps316 ?_
 have e:=yu w
 refine fR e 8 ?_
 refine cl (Tj fb nb m ed w (St.KI e s_ f) hb) ?_
 rintro _ d ⟨rfl,b⟩
 have a:=yr e b
 refine fK a 2 ?_
 refine cmp rfl rfl rfl (ow o_) (fK a 7 ?_)
 refine FB (m:=m) (c:=m) rfl rfl yk (fK a 1 ?_)
 refine cmp rfl rfl rfl (p8 o_) (fP a 5 ?_)
 refine gf (v:=Zg) results316 rfl ?_
 exact⟨rfl,a.gA s_⟩
theorem IJ(y:(Al fb nb m ed).holds w)(hb:m<=1000001)(v:Value)(vs:List Nat)(hv:Ints .i64 (fun _=>True) w v (gy vs))(A:∀ x∈vs,x+1<m) :
 CR ya 272 (vR fb v) w (fun r w' => r = .int .i64 0/\gx [] w w'):=by
 have C:(gy vs).length=vs.length:=by simp[gy]
 have D:=hv.len
 refine en func272 ntmps272 ?_
 have u:=yu w
 refine fR u 9 ?_
 refine cl (Tj fb nb m ed w (St.KI u s_ y) hb) ?_
 rintro _ h ⟨rfl,c⟩
 have a:=yr u c
 refine fK a 10 ?_
 refine jY (v:=v) rfl rfl yd hv (gF a 4 ?_)
 refine lp (α:=Nat) (fun k=>[(0,(Zb fb)),(10,v),(11,(Za ((gy vs).length:Int))),(12,(Za k))]) (fun k w1=>St [(w,[])] [] w1/\k<=vs.length) (fun k=>vs.length-k) 0 ⟨rfl,rfl,rfl,gm rO,trivial⟩ (⟨a,o_⟩) ?_
 rintro k j d ⟨t,B⟩
 refine fR t 2 ?_
 by_cases l:(k:Int)<((gy vs).length:Int)
 . obtain⟨x,z⟩:=oW (show k<vs.length by omega)
   refine fK t 11 ?_
   refine CI (i:=(k:Int)) (el:=(x:Int)) rfl rfl rfl yd gq (St.Fu t s_ hv) o_ (by rw[show ((k:Nat):Int).toNat=k by omega];simp[gy,z]) ?_
   intro n o e f p
   have q:=f.i64
   refine ld rfl rfl yg rfl e (fK t 7 ?_)
   refine cl (AV fb nb m ed d (St.KI t s_ y) hb x (by first|omega|exact A _ (ze z))) ?_
   rintro _ s ⟨rfl,g⟩
   have b:=yr t g
   refine fP b 11 ?_
   refine tN (?_)
   exact again (k+1) ⟨rfl,rfl,rfl,gm rO,trivial⟩ (⟨b,o_⟩) (by show (vs.length-(k+1):Nat)<vs.length-k;omega)
 . refine fP t 16 ?_
   refine gf (v:=Zc) results272 rfl ?_
   exact⟨rfl,t.gA s_⟩
theorem PG(B:Own (Zk fb nb m ed xs) w)(hm:xs.length=m)(hb:m<=1000001)(A:fZ xs)(F:FT)(z:Fo xs F)(i:Nat)(hi:i≠0)(D:i<m) :
 CR ya 324 (Zm fb i) w (fun r w' => r = .tuple #[]/\∃ ys a R,jf xs F ys i a R/\fZ ys/\fV (Zk fb nb m ed xs) w w' (Zk fb nb m ed (jC ys i))):=by
 refine en func324 ntmps324 ?_
 have y:=(yt B).unpack
 have j:=yc [_,_] _ y
 refine fR y 4 ?_
 refine cl (xW fb nb m ed xs w (ye j 0 rfl) (by first|exact hm|omega) hb A F z i o_ o_) ?_
 rintro _ q ⟨E,rfl,g,o,p,k,l,ht⟩
 have h:=(yi j ht)
 have s:g.length=m:=by have:=k.len;omega
 refine fK h 8 ?_
 refine jq (o' := i*9+0) (i:=(i:Int)) rfl rfl rfl yk jo (o9 (show i<(g).length from om)) o_ (fK h 1 ?_)
 refine j8 (f:=(fun x:Nd=>{ x with flip:=true })) 1 h (fun t n u=>?_)
 have v:fZ (fO g i (fun x=>{ x with flip:=true })):=fZ.iP l om (fun x a b c d e=>⟨a,b,c,d,e⟩)
 refine fP n 1 ?_
 refine jc results324 ?_
 have C:jC g i=fO g i (fun x=>{ x with flip:=true }):=rfl
 exact⟨rfl,g,o,p,k,l,yj (yc [_,_] [] n)⟩
theorem Ks(E:Own (Zk fb nb m ed xs) w)(hm:xs.length=m)(hb:m<=1000001)(D:fZ xs)(F:FT)(C:Fo xs F)(i j:Nat)(hi:i≠0)(G:i<m)(H:j≠0)(I:j<m) :
 CR ya 274 (Zv fb i j) w (fun r w' => r = .tuple #[]/\∃ ys a R zs b R2,jf xs F ys i a R/\jf (jC ys i) ((.nd a i .nil,0) :: R) zs j b R2/\fZ zs/\fV (Zk fb nb m ed xs) w w' (Zk fb nb m ed zs)):=by
 refine en func274 ntmps274 ?_
 have B:=(yt E).unpack
 have e:=yc [_,_] _ B
 refine fR B 4 ?_
 refine cl (PG fb nb m ed xs w (ye e 0 rfl) (by first|exact hm|omega) hb D F C i o_ o_) ?_
 rintro _ p ⟨rfl,c,f,g,d,q,ht⟩
 have h:=(yi e ht)
 have s:c.length=m:=by have:=d.len;omega
 have t:fZ (jC c i):=q.lead o_
 have y:(jC c i).length=m:=(tC _ _).trans s
 have k:=yc [_,_] _ h
 refine fK h 5 ?_
 refine cl (xW fb nb m ed (jC c i) p (ye k 0 rfl) (by first|exact hm|omega) hb t ((.nd f i .nil,0) :: g) d.uf.fo j o_ o_) ?_
 rintro _ z ⟨J,rfl,l,u,v,n,x,ht⟩
 have o:=(yi k ht)
 have A:l.length=m:=by have:=n.len;omega
 refine fP o 1 ?_
 refine jc results274 ?_
 exact⟨rfl,c,f,g,l,u,v,d,n,x,yj (yc [_,_] [] o)⟩
end Go.Proofs.YtedjjkcihkmjgaaGreatDoor
