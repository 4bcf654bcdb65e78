/- What the functions that the statements reach do: walks through the code of the program and of the references, one theorem a function; under what is said of its arguments. -/
import Derived.Test.YtoceanggliccgaaGreatDoorFb
import Derived.Test.YtoceanggliccgaaGreatDoorVa
import Derived.Test.YtoceanggliccgaaGreatDoorFd
import Derived.Test.YtoceanggliccgaaGreatDoorVc
import Derived.Test.YtoceanggliccgaaGreatDoorFa
import Derived.Test.YtoceanggliccgaaGreatDoorFc
import Derived.Test.YtoceanggliccgaaGreatDoorVb
set_option linter.unusedVariables false
set_option linter.unusedSimpArgs false
set_option maxRecDepth 100000
set_option maxHeartbeats 4000000
namespace Go.Proofs.YtoceanggliccgaaGreatDoor
section
open Go Go.Sx
theorem mW(fb nb m:Nat)(ed:Int)(xs:List Nd)(w:World)(c:(zV fb nb m ed).holds w)(b:(blk nb 352 (xs.flatMap Nd.cells)).holds w)(hm:xs.length=m)(hb:m<=1000001)(a:gf xs)(i:Nat)(hi:i<m){s:Nat}{o:Bool}(d:jC xs i=(s,o)):CR ya 289 (Zm fb i) w (fun r w' => r = .tuple (p8 s o)/\gx [] w w'):=by
 have h:=ad8 fb nb m ed xs w c b hm hb a i hi
 rw[d]at h
 exact h
theorem yE(fb nb m:Nat)(ed:Int)(xs:List Nd)(w:World)(hO:Own (Zl fb nb m ed xs) w)(hm:xs.length=m)(hb:m<=1000001)(F:gf xs)(i:Nat)(hi:i<m) :
 CR ya 292 (Zm fb i) w (fun r w' => r = .tuple #[]/\fZ (Zl fb nb m ed xs) w w' (Zl fb nb m ed (iG xs i))):=by
 have fL:=F.up i o_
 have fM:=F.up _ fL
 refine en Tryz.func292 Tryz.ntmps292 ?_
 have eT:=(yp hO).unpack
 refine fS eT 7 ?_
 refine jj (o' := i*9+0) (i:=(i:Int)) rfl rfl rfl yh jh om o_ (fK eT 12 ?_)
 refine jj (o' := ((fJ xs i).up)*9+0) (i:=((fJ xs i).up:Int)) rfl rfl rfl yh jh (o9 (show ((fJ xs i).up)<(xs).length from(o9 (F.up i om)))) o_ (fK eT 1 ?_)
 refine ld rfl rfl yf rfl (mK eT (i:=1) rfl f_ (o9 (F.up i om)) rfl) ?_
 obtain⟨cN,eE⟩:∃ q,C2 xs i=q:=⟨_,rfl⟩
 refine fK eT 7 ?_
 rcases cN with J|K|L
 . skip
   refine cl mS (mW fb nb m ed xs w (eT.at (i:=0) rfl) (eT.at (i:=1) rfl) oa hb F i o_ J) ?_
   rintro _ a9 ⟨rfl,cO⟩
   have g:=yq eT cO
   obtain⟨cP,eF⟩:∃ q,C2 xs ((fJ xs i).up)=q:=⟨_,rfl⟩
   refine fK g 12 ?_
   rcases cP with bf|bg|bh
   . skip
     refine cl mS (mW fb nb m ed xs a9 (g.at (i:=0) rfl) (g.at (i:=1) rfl) oa hb F ((fJ xs i).up) (o9 (F.up i om)) bf) ?_
     rintro _ eG ⟨rfl,cQ⟩
     have ba:=yq g cQ
     refine fK ba 20 ?_
     refine jj (o' := i*9+0) (i:=(i:Int)) rfl rfl rfl yh jh om o_ (fK ba 1 ?_)
     refine jU (f:=(fun x:Nd=>{ x with up:=((fJ xs ((fJ xs i).up)).up) })) 1 ba (fun cR k eH=>?_)
     have l:gf (fN xs i (fun x=>{ x with up:=((fJ xs ((fJ xs i).up)).up) })):=gf.iJ F om (fun x a b c d e=>⟨a,b,(o9 (F.up ((fJ xs i).up) (o9 (F.up i om)))),d,e⟩)
     obtain⟨M,cS,eI,l,k⟩:=iB (m:=m) l k
     refine fK k 14 ?_
     refine jj (o' := i*9+0) (i:=(i:Int)) rfl rfl rfl yh jh om o_ (fK k 1 ?_)
     refine jB (o:=i*9+0) (o' := i*9+1) (i:=1) rfl rfl rfl yn gr d_ rfl ?_
     have bi:=yc [_,_] _ k
     refine fK k 1 ?_
     refine cl lG (rL fb nb m ed M cR (ye bi 0 rfl) oa hb l ((fJ xs i).up) ((fJ M i).k1) (o9 (F.up i om)) (o9 (l.k1 i om))) ?_
     rintro _ cT ⟨rfl,T⟩
     have N:=(yi bi T)
     have O:gf (iX M ((fJ xs i).up) 0 ((fJ M i).k1)):=gf.ku l (o9 (F.up i om)) (o9 (l.k1 i om))
     obtain⟨bj,cU,eJ,O,N⟩:=iB (m:=m) O N
     have bl:=yc [_,_] _ N
     refine fK N 9 ?_
     refine cl lG (rM fb nb m ed bj cT (ye bl 0 rfl) oa hb O i ((fJ xs i).up) o_ (o9 (F.up i om))) ?_
     rintro _ cV ⟨rfl,T⟩
     have P:=(yi bl T)
     have Q:gf (iX bj i 1 ((fJ xs i).up)):=gf.ku O o_ (o9 (F.up i om))
     obtain⟨bm,cW,eK,Q,P⟩:=iB (m:=m) Q P
     have bn:=yc [_,_] _ P
     refine fK P 6 ?_
     refine cl lQ (lT fb nb m ed bm cV (ye bn 0 rfl) oa hb Q ((fJ xs i).up) (o9 (F.up i om))) ?_
     rintro _ cX ⟨rfl,T⟩
     have R:=(yi bn T)
     have S:gf (iI bm ((fJ xs i).up)):=gf.lK Q (o9 (F.up i om))
     obtain⟨bo,cY,eL,S,R⟩:=iB (m:=m) S R
     have bp:=yc [_,_] _ R
     refine fK R 5 ?_
     refine cl lQ (lT fb nb m ed bo cX (ye bp 0 rfl) oa hb S i o_) ?_
     rintro _ eM ⟨rfl,T⟩
     have U:=(yi bp T)
     have bq:gf (iI bo i):=gf.lK S o_
     obtain⟨cZ,c0,eN,bq,U⟩:=iB (m:=m) bq U
     refine fQ U 1 ?_
     refine iQ uW ?_
     have e9:iG xs i=cZ:=by subst c0;subst cY;subst cW;subst cU;subst cS;simp only[iG,J,bf];rfl
     have bk:=U
     rw[<-e9]at bk
     exact⟨rfl,yj (yc [_,_] [] bk)⟩
   . skip
     refine cl mS (mW fb nb m ed xs a9 (g.at (i:=0) rfl) (g.at (i:=1) rfl) oa hb F ((fJ xs i).up) (o9 (F.up i om)) bg) ?_
     rintro _ c1 ⟨rfl,c2⟩
     have br:=yq g c2
     have bs:=yc [_,_] _ br
     refine fK br 18 ?_
     refine cl lG (rL fb nb m ed xs c1 (ye bs 0 rfl) oa hb F ((fJ xs ((fJ xs i).up)).up) i (o9 (F.up ((fJ xs i).up) (o9 (F.up i om)))) o_) ?_
     rintro _ c3 ⟨rfl,T⟩
     have n:=(yi bs T)
     have p:gf (iX xs ((fJ xs ((fJ xs i).up)).up) 0 i):=gf.ku F (o9 (F.up ((fJ xs i).up) (o9 (F.up i om)))) o_
     obtain⟨V,c4,eO,p,n⟩:=iB (m:=m) p n
     refine fK n 14 ?_
     refine jj (o' := i*9+0) (i:=(i:Int)) rfl rfl rfl yh jh om o_ (fK n 1 ?_)
     refine jB (o:=i*9+0) (o' := i*9+1) (i:=1) rfl rfl rfl yn gr d_ rfl ?_
     have bt:=yc [_,_] _ n
     refine fK n 1 ?_
     refine cl lG (rL fb nb m ed V c3 (ye bt 0 rfl) oa hb p ((fJ xs i).up) ((fJ V i).k1) (o9 (F.up i om)) (o9 (p.k1 i om))) ?_
     rintro _ c5 ⟨rfl,T⟩
     have W:=(yi bt T)
     have X:gf (iX V ((fJ xs i).up) 0 ((fJ V i).k1)):=gf.ku p (o9 (F.up i om)) (o9 (p.k1 i om))
     obtain⟨bu,c6,eP,X,W⟩:=iB (m:=m) X W
     have bv:=yc [_,_] _ W
     refine fK W 9 ?_
     refine cl lG (rM fb nb m ed bu c5 (ye bv 0 rfl) oa hb X i ((fJ xs i).up) o_ (o9 (F.up i om))) ?_
     rintro _ c7 ⟨rfl,T⟩
     have Y:=(yi bv T)
     have Z:gf (iX bu i 1 ((fJ xs i).up)):=gf.ku X o_ (o9 (F.up i om))
     obtain⟨bw,c8,eQ,Z,Y⟩:=iB (m:=m) Z Y
     have bx:=yc [_,_] _ Y
     refine fK Y 6 ?_
     refine cl lQ (lT fb nb m ed bw c7 (ye bx 0 rfl) oa hb Z ((fJ xs i).up) (o9 (F.up i om))) ?_
     rintro _ c9 ⟨rfl,T⟩
     have aa:=(yi bx T)
     have ab:gf (iI bw ((fJ xs i).up)):=gf.lK Z (o9 (F.up i om))
     obtain⟨bz,da,eR,ab,aa⟩:=iB (m:=m) ab aa
     have bA:=yc [_,_] _ aa
     refine fK aa 5 ?_
     refine cl lQ (lT fb nb m ed bz c9 (ye bA 0 rfl) oa hb ab i o_) ?_
     rintro _ eS ⟨rfl,T⟩
     have ac:=(yi bA T)
     have bB:gf (iI bz i):=gf.lK ab o_
     obtain⟨db,dc,eU,bB,ac⟩:=iB (m:=m) bB ac
     refine fQ ac 1 ?_
     refine iQ uW ?_
     have e9:iG xs i=db:=by subst dc;subst da;subst c8;subst c6;subst c4;simp only[iG,J,bg];rfl
     have bk:=ac
     rw[<-e9]at bk
     exact⟨rfl,yj (yc [_,_] [] bk)⟩
   . skip
     refine cl mS (mW fb nb m ed xs a9 (g.at (i:=0) rfl) (g.at (i:=1) rfl) oa hb F ((fJ xs i).up) (o9 (F.up i om)) bh) ?_
     rintro _ dd ⟨rfl,de⟩
     have bC:=yq g de
     have bD:=yc [_,_] _ bC
     refine fK bC 18 ?_
     refine cl lG (rM fb nb m ed xs dd (ye bD 0 rfl) oa hb F ((fJ xs ((fJ xs i).up)).up) i (o9 (F.up ((fJ xs i).up) (o9 (F.up i om)))) o_) ?_
     rintro _ df ⟨rfl,T⟩
     have s:=(yi bD T)
     have t:gf (iX xs ((fJ xs ((fJ xs i).up)).up) 1 i):=gf.ku F (o9 (F.up ((fJ xs i).up) (o9 (F.up i om)))) o_
     obtain⟨ad,dg,eV,t,s⟩:=iB (m:=m) t s
     refine fK s 14 ?_
     refine jj (o' := i*9+0) (i:=(i:Int)) rfl rfl rfl yh jh om o_ (fK s 1 ?_)
     refine jB (o:=i*9+0) (o' := i*9+1) (i:=1) rfl rfl rfl yn gr d_ rfl ?_
     have bE:=yc [_,_] _ s
     refine fK s 1 ?_
     refine cl lG (rL fb nb m ed ad df (ye bE 0 rfl) oa hb t ((fJ xs i).up) ((fJ ad i).k1) (o9 (F.up i om)) (o9 (t.k1 i om))) ?_
     rintro _ dh ⟨rfl,T⟩
     have ae:=(yi bE T)
     have af:gf (iX ad ((fJ xs i).up) 0 ((fJ ad i).k1)):=gf.ku t (o9 (F.up i om)) (o9 (t.k1 i om))
     obtain⟨bF,di,eW,af,ae⟩:=iB (m:=m) af ae
     have bG:=yc [_,_] _ ae
     refine fK ae 9 ?_
     refine cl lG (rM fb nb m ed bF dh (ye bG 0 rfl) oa hb af i ((fJ xs i).up) o_ (o9 (F.up i om))) ?_
     rintro _ dj ⟨rfl,T⟩
     have ag:=(yi bG T)
     have ah:gf (iX bF i 1 ((fJ xs i).up)):=gf.ku af o_ (o9 (F.up i om))
     obtain⟨bH,dk,eX,ah,ag⟩:=iB (m:=m) ah ag
     have bI:=yc [_,_] _ ag
     refine fK ag 6 ?_
     refine cl lQ (lT fb nb m ed bH dj (ye bI 0 rfl) oa hb ah ((fJ xs i).up) (o9 (F.up i om))) ?_
     rintro _ dl ⟨rfl,T⟩
     have ai:=(yi bI T)
     have aj:gf (iI bH ((fJ xs i).up)):=gf.lK ah (o9 (F.up i om))
     obtain⟨bJ,dm,eY,aj,ai⟩:=iB (m:=m) aj ai
     have bK:=yc [_,_] _ ai
     refine fK ai 5 ?_
     refine cl lQ (lT fb nb m ed bJ dl (ye bK 0 rfl) oa hb aj i o_) ?_
     rintro _ eZ ⟨rfl,T⟩
     have ak:=(yi bK T)
     have bL:gf (iI bJ i):=gf.lK aj o_
     obtain⟨dn,dp,e0,bL,ak⟩:=iB (m:=m) bL ak
     refine fQ ak 1 ?_
     refine iQ uW ?_
     have e9:iG xs i=dn:=by subst dp;subst dm;subst dk;subst di;subst dg;simp only[iG,J,bh];rfl
     have bk:=ak
     rw[<-e9]at bk
     exact⟨rfl,yj (yc [_,_] [] bk)⟩
 . skip
   refine cl mS (mW fb nb m ed xs w (eT.at (i:=0) rfl) (eT.at (i:=1) rfl) oa hb F i o_ K) ?_
   rintro _ bb ⟨rfl,dq⟩
   have h:=yq eT dq
   obtain⟨dr,e1⟩:∃ q,C2 xs ((fJ xs i).up)=q:=⟨_,rfl⟩
   refine fK h 12 ?_
   rcases dr with bM|bN|bO
   . skip
     refine cl mS (mW fb nb m ed xs bb (h.at (i:=0) rfl) (h.at (i:=1) rfl) oa hb F ((fJ xs i).up) (o9 (F.up i om)) bM) ?_
     rintro _ e2 ⟨rfl,ds⟩
     have bc:=yq h ds
     refine fK bc 20 ?_
     refine jj (o' := i*9+0) (i:=(i:Int)) rfl rfl rfl yh jh om o_ (fK bc 1 ?_)
     refine jU (f:=(fun x:Nd=>{ x with up:=((fJ xs ((fJ xs i).up)).up) })) 1 bc (fun dt u e3=>?_)
     have v:gf (fN xs i (fun x=>{ x with up:=((fJ xs ((fJ xs i).up)).up) })):=gf.iJ F om (fun x a b c d e=>⟨a,b,(o9 (F.up ((fJ xs i).up) (o9 (F.up i om)))),d,e⟩)
     obtain⟨al,du,e4,v,u⟩:=iB (m:=m) v u
     refine fK u 14 ?_
     refine jj (o' := i*9+0) (i:=(i:Int)) rfl rfl rfl yh jh om o_ (fK u 1 ?_)
     refine jB (o:=i*9+0) (o' := i*9+1) (i:=1) rfl rfl rfl yn gr d_ rfl ?_
     have bP:=yc [_,_] _ u
     refine fK u 1 ?_
     refine cl lG (rL fb nb m ed al dt (ye bP 0 rfl) oa hb v ((fJ xs i).up) ((fJ al i).k1) (o9 (F.up i om)) (o9 (v.k1 i om))) ?_
     rintro _ dv ⟨rfl,T⟩
     have am:=(yi bP T)
     have an:gf (iX al ((fJ xs i).up) 0 ((fJ al i).k1)):=gf.ku v (o9 (F.up i om)) (o9 (v.k1 i om))
     obtain⟨bQ,dw,e5,an,am⟩:=iB (m:=m) an am
     have bR:=yc [_,_] _ am
     refine fK am 9 ?_
     refine cl lG (rM fb nb m ed bQ dv (ye bR 0 rfl) oa hb an i ((fJ xs i).up) o_ (o9 (F.up i om))) ?_
     rintro _ dx ⟨rfl,T⟩
     have ao:=(yi bR T)
     have ap:gf (iX bQ i 1 ((fJ xs i).up)):=gf.ku an o_ (o9 (F.up i om))
     obtain⟨bS,dy,e6,ap,ao⟩:=iB (m:=m) ap ao
     have bT:=yc [_,_] _ ao
     refine fK ao 6 ?_
     refine cl lQ (lT fb nb m ed bS dx (ye bT 0 rfl) oa hb ap ((fJ xs i).up) (o9 (F.up i om))) ?_
     rintro _ dz ⟨rfl,T⟩
     have aq:=(yi bT T)
     have ar:gf (iI bS ((fJ xs i).up)):=gf.lK ap (o9 (F.up i om))
     obtain⟨bU,dA,e7,ar,aq⟩:=iB (m:=m) ar aq
     have bV:=yc [_,_] _ aq
     refine fK aq 5 ?_
     refine cl lQ (lT fb nb m ed bU dz (ye bV 0 rfl) oa hb ar i o_) ?_
     rintro _ e8 ⟨rfl,T⟩
     have au:=(yi bV T)
     have bW:gf (iI bU i):=gf.lK ar o_
     obtain⟨dB,dC,fa,bW,au⟩:=iB (m:=m) bW au
     refine fQ au 1 ?_
     refine iQ uW ?_
     have e9:iG xs i=dB:=by subst dC;subst dA;subst dy;subst dw;subst du;simp only[iG,K,bM];rfl
     have bk:=au
     rw[<-e9]at bk
     exact⟨rfl,yj (yc [_,_] [] bk)⟩
   . skip
     refine cl mS (mW fb nb m ed xs bb (h.at (i:=0) rfl) (h.at (i:=1) rfl) oa hb F ((fJ xs i).up) (o9 (F.up i om)) bN) ?_
     rintro _ dD ⟨rfl,dE⟩
     have bX:=yq h dE
     have bY:=yc [_,_] _ bX
     refine fK bX 18 ?_
     refine cl lG (rL fb nb m ed xs dD (ye bY 0 rfl) oa hb F ((fJ xs ((fJ xs i).up)).up) i (o9 (F.up ((fJ xs i).up) (o9 (F.up i om)))) o_) ?_
     rintro _ dF ⟨rfl,T⟩
     have y:=(yi bY T)
     have z:gf (iX xs ((fJ xs ((fJ xs i).up)).up) 0 i):=gf.ku F (o9 (F.up ((fJ xs i).up) (o9 (F.up i om)))) o_
     obtain⟨av,dG,fc,z,y⟩:=iB (m:=m) z y
     refine fK y 14 ?_
     refine jj (o' := i*9+0) (i:=(i:Int)) rfl rfl rfl yh jh om o_ (fK y 1 ?_)
     refine jB (o:=i*9+0) (o' := i*9+1) (i:=1) rfl rfl rfl yn gr d_ rfl ?_
     have bZ:=yc [_,_] _ y
     refine fK y 1 ?_
     refine cl lG (rL fb nb m ed av dF (ye bZ 0 rfl) oa hb z ((fJ xs i).up) ((fJ av i).k1) (o9 (F.up i om)) (o9 (z.k1 i om))) ?_
     rintro _ dH ⟨rfl,T⟩
     have aw:=(yi bZ T)
     have ax:gf (iX av ((fJ xs i).up) 0 ((fJ av i).k1)):=gf.ku z (o9 (F.up i om)) (o9 (z.k1 i om))
     obtain⟨b0,dI,fd,ax,aw⟩:=iB (m:=m) ax aw
     have b1:=yc [_,_] _ aw
     refine fK aw 9 ?_
     refine cl lG (rM fb nb m ed b0 dH (ye b1 0 rfl) oa hb ax i ((fJ xs i).up) o_ (o9 (F.up i om))) ?_
     rintro _ dJ ⟨rfl,T⟩
     have ay:=(yi b1 T)
     have az:gf (iX b0 i 1 ((fJ xs i).up)):=gf.ku ax o_ (o9 (F.up i om))
     obtain⟨b2,dK,fe,az,ay⟩:=iB (m:=m) az ay
     have b3:=yc [_,_] _ ay
     refine fK ay 6 ?_
     refine cl lQ (lT fb nb m ed b2 dJ (ye b3 0 rfl) oa hb az ((fJ xs i).up) (o9 (F.up i om))) ?_
     rintro _ dL ⟨rfl,T⟩
     have aA:=(yi b3 T)
     have aB:gf (iI b2 ((fJ xs i).up)):=gf.lK az (o9 (F.up i om))
     obtain⟨b4,dM,ff,aB,aA⟩:=iB (m:=m) aB aA
     have b5:=yc [_,_] _ aA
     refine fK aA 5 ?_
     refine cl lQ (lT fb nb m ed b4 dL (ye b5 0 rfl) oa hb aB i o_) ?_
     rintro _ fg ⟨rfl,T⟩
     have aC:=(yi b5 T)
     have b6:gf (iI b4 i):=gf.lK aB o_
     obtain⟨dN,dO,fh,b6,aC⟩:=iB (m:=m) b6 aC
     refine fQ aC 1 ?_
     refine iQ uW ?_
     have e9:iG xs i=dN:=by subst dO;subst dM;subst dK;subst dI;subst dG;simp only[iG,K,bN];rfl
     have bk:=aC
     rw[<-e9]at bk
     exact⟨rfl,yj (yc [_,_] [] bk)⟩
   . skip
     refine cl mS (mW fb nb m ed xs bb (h.at (i:=0) rfl) (h.at (i:=1) rfl) oa hb F ((fJ xs i).up) (o9 (F.up i om)) bO) ?_
     rintro _ dP ⟨rfl,dQ⟩
     have b7:=yq h dQ
     have b8:=yc [_,_] _ b7
     refine fK b7 18 ?_
     refine cl lG (rM fb nb m ed xs dP (ye b8 0 rfl) oa hb F ((fJ xs ((fJ xs i).up)).up) i (o9 (F.up ((fJ xs i).up) (o9 (F.up i om)))) o_) ?_
     rintro _ dR ⟨rfl,T⟩
     have A:=(yi b8 T)
     have B:gf (iX xs ((fJ xs ((fJ xs i).up)).up) 1 i):=gf.ku F (o9 (F.up ((fJ xs i).up) (o9 (F.up i om)))) o_
     obtain⟨aD,dS,fi,B,A⟩:=iB (m:=m) B A
     refine fK A 14 ?_
     refine jj (o' := i*9+0) (i:=(i:Int)) rfl rfl rfl yh jh om o_ (fK A 1 ?_)
     refine jB (o:=i*9+0) (o' := i*9+1) (i:=1) rfl rfl rfl yn gr d_ rfl ?_
     have b9:=yc [_,_] _ A
     refine fK A 1 ?_
     refine cl lG (rL fb nb m ed aD dR (ye b9 0 rfl) oa hb B ((fJ xs i).up) ((fJ aD i).k1) (o9 (F.up i om)) (o9 (B.k1 i om))) ?_
     rintro _ dT ⟨rfl,T⟩
     have aE:=(yi b9 T)
     have aF:gf (iX aD ((fJ xs i).up) 0 ((fJ aD i).k1)):=gf.ku B (o9 (F.up i om)) (o9 (B.k1 i om))
     obtain⟨ca,dU,fj,aF,aE⟩:=iB (m:=m) aF aE
     have cb:=yc [_,_] _ aE
     refine fK aE 9 ?_
     refine cl lG (rM fb nb m ed ca dT (ye cb 0 rfl) oa hb aF i ((fJ xs i).up) o_ (o9 (F.up i om))) ?_
     rintro _ dV ⟨rfl,T⟩
     have aG:=(yi cb T)
     have aH:gf (iX ca i 1 ((fJ xs i).up)):=gf.ku aF o_ (o9 (F.up i om))
     obtain⟨cc,dW,fk,aH,aG⟩:=iB (m:=m) aH aG
     have cd:=yc [_,_] _ aG
     refine fK aG 6 ?_
     refine cl lQ (lT fb nb m ed cc dV (ye cd 0 rfl) oa hb aH ((fJ xs i).up) (o9 (F.up i om))) ?_
     rintro _ dX ⟨rfl,T⟩
     have aI:=(yi cd T)
     have aJ:gf (iI cc ((fJ xs i).up)):=gf.lK aH (o9 (F.up i om))
     obtain⟨ce,dY,fl,aJ,aI⟩:=iB (m:=m) aJ aI
     have cf:=yc [_,_] _ aI
     refine fK aI 5 ?_
     refine cl lQ (lT fb nb m ed ce dX (ye cf 0 rfl) oa hb aJ i o_) ?_
     rintro _ fm ⟨rfl,T⟩
     have aK:=(yi cf T)
     have cg:gf (iI ce i):=gf.lK aJ o_
     obtain⟨dZ,d0,fn,cg,aK⟩:=iB (m:=m) cg aK
     refine fQ aK 1 ?_
     refine iQ uW ?_
     have e9:iG xs i=dZ:=by subst d0;subst dY;subst dW;subst dU;subst dS;simp only[iG,K,bO];rfl
     have bk:=aK
     rw[<-e9]at bk
     exact⟨rfl,yj (yc [_,_] [] bk)⟩
 . skip
   refine cl mS (mW fb nb m ed xs w (eT.at (i:=0) rfl) (eT.at (i:=1) rfl) oa hb F i o_ L) ?_
   rintro _ bd ⟨rfl,d1⟩
   have j:=yq eT d1
   obtain⟨d2,fo⟩:∃ q,C2 xs ((fJ xs i).up)=q:=⟨_,rfl⟩
   refine fK j 12 ?_
   rcases d2 with ch|ci|cj
   . skip
     refine cl mS (mW fb nb m ed xs bd (j.at (i:=0) rfl) (j.at (i:=1) rfl) oa hb F ((fJ xs i).up) (o9 (F.up i om)) ch) ?_
     rintro _ fp ⟨rfl,d3⟩
     have be:=yq j d3
     refine fK be 20 ?_
     refine jj (o' := i*9+0) (i:=(i:Int)) rfl rfl rfl yh jh om o_ (fK be 1 ?_)
     refine jU (f:=(fun x:Nd=>{ x with up:=((fJ xs ((fJ xs i).up)).up) })) 1 be (fun d4 C fq=>?_)
     have D:gf (fN xs i (fun x=>{ x with up:=((fJ xs ((fJ xs i).up)).up) })):=gf.iJ F om (fun x a b c d e=>⟨a,b,(o9 (F.up ((fJ xs i).up) (o9 (F.up i om)))),d,e⟩)
     obtain⟨aL,d5,fr,D,C⟩:=iB (m:=m) D C
     refine fK C 14 ?_
     refine jj (o' := i*9+0) (i:=(i:Int)) rfl rfl rfl yh jh om o_ (fK C 1 ?_)
     refine jB (o:=i*9+0) (o' := i*9+0) (i:=0) rfl rfl rfl yn gr d_ rfl ?_
     have ck:=yc [_,_] _ C
     refine fK C 1 ?_
     refine cl lG (rM fb nb m ed aL d4 (ye ck 0 rfl) oa hb D ((fJ xs i).up) ((fJ aL i).k0) (o9 (F.up i om)) (o9 (D.k0 i om))) ?_
     rintro _ d6 ⟨rfl,T⟩
     have aM:=(yi ck T)
     have aN:gf (iX aL ((fJ xs i).up) 1 ((fJ aL i).k0)):=gf.ku D (o9 (F.up i om)) (o9 (D.k0 i om))
     obtain⟨cm,d7,fs,aN,aM⟩:=iB (m:=m) aN aM
     have cn:=yc [_,_] _ aM
     refine fK aM 9 ?_
     refine cl lG (rL fb nb m ed cm d6 (ye cn 0 rfl) oa hb aN i ((fJ xs i).up) o_ (o9 (F.up i om))) ?_
     rintro _ d8 ⟨rfl,T⟩
     have aO:=(yi cn T)
     have aP:gf (iX cm i 0 ((fJ xs i).up)):=gf.ku aN o_ (o9 (F.up i om))
     obtain⟨co,d9,ft,aP,aO⟩:=iB (m:=m) aP aO
     have cp:=yc [_,_] _ aO
     refine fK aO 6 ?_
     refine cl lQ (lT fb nb m ed co d8 (ye cp 0 rfl) oa hb aP ((fJ xs i).up) (o9 (F.up i om))) ?_
     rintro _ ea ⟨rfl,T⟩
     have aQ:=(yi cp T)
     have aR:gf (iI co ((fJ xs i).up)):=gf.lK aP (o9 (F.up i om))
     obtain⟨cq,eb,fu,aR,aQ⟩:=iB (m:=m) aR aQ
     have cr:=yc [_,_] _ aQ
     refine fK aQ 5 ?_
     refine cl lQ (lT fb nb m ed cq ea (ye cr 0 rfl) oa hb aR i o_) ?_
     rintro _ fv ⟨rfl,T⟩
     have aS:=(yi cr T)
     have cs:gf (iI cq i):=gf.lK aR o_
     obtain⟨ec,ee,fw,cs,aS⟩:=iB (m:=m) cs aS
     refine fQ aS 1 ?_
     refine iQ uW ?_
     have e9:iG xs i=ec:=by subst ee;subst eb;subst d9;subst d7;subst d5;simp only[iG,L,ch];rfl
     have bk:=aS
     rw[<-e9]at bk
     exact⟨rfl,yj (yc [_,_] [] bk)⟩
   . skip
     refine cl mS (mW fb nb m ed xs bd (j.at (i:=0) rfl) (j.at (i:=1) rfl) oa hb F ((fJ xs i).up) (o9 (F.up i om)) ci) ?_
     rintro _ ef ⟨rfl,eg⟩
     have ct:=yq j eg
     have cu:=yc [_,_] _ ct
     refine fK ct 18 ?_
     refine cl lG (rL fb nb m ed xs ef (ye cu 0 rfl) oa hb F ((fJ xs ((fJ xs i).up)).up) i (o9 (F.up ((fJ xs i).up) (o9 (F.up i om)))) o_) ?_
     rintro _ eh ⟨rfl,T⟩
     have E:=(yi cu T)
     have G:gf (iX xs ((fJ xs ((fJ xs i).up)).up) 0 i):=gf.ku F (o9 (F.up ((fJ xs i).up) (o9 (F.up i om)))) o_
     obtain⟨aT,ei,fx,G,E⟩:=iB (m:=m) G E
     refine fK E 14 ?_
     refine jj (o' := i*9+0) (i:=(i:Int)) rfl rfl rfl yh jh om o_ (fK E 1 ?_)
     refine jB (o:=i*9+0) (o' := i*9+0) (i:=0) rfl rfl rfl yn gr d_ rfl ?_
     have cv:=yc [_,_] _ E
     refine fK E 1 ?_
     refine cl lG (rM fb nb m ed aT eh (ye cv 0 rfl) oa hb G ((fJ xs i).up) ((fJ aT i).k0) (o9 (F.up i om)) (o9 (G.k0 i om))) ?_
     rintro _ ej ⟨rfl,T⟩
     have aU:=(yi cv T)
     have aV:gf (iX aT ((fJ xs i).up) 1 ((fJ aT i).k0)):=gf.ku G (o9 (F.up i om)) (o9 (G.k0 i om))
     obtain⟨cw,ek,fy,aV,aU⟩:=iB (m:=m) aV aU
     have cx:=yc [_,_] _ aU
     refine fK aU 9 ?_
     refine cl lG (rL fb nb m ed cw ej (ye cx 0 rfl) oa hb aV i ((fJ xs i).up) o_ (o9 (F.up i om))) ?_
     rintro _ el ⟨rfl,T⟩
     have aW:=(yi cx T)
     have aX:gf (iX cw i 0 ((fJ xs i).up)):=gf.ku aV o_ (o9 (F.up i om))
     obtain⟨cy,em,fz,aX,aW⟩:=iB (m:=m) aX aW
     have cz:=yc [_,_] _ aW
     refine fK aW 6 ?_
     refine cl lQ (lT fb nb m ed cy el (ye cz 0 rfl) oa hb aX ((fJ xs i).up) (o9 (F.up i om))) ?_
     rintro _ eo ⟨rfl,T⟩
     have aY:=(yi cz T)
     have aZ:gf (iI cy ((fJ xs i).up)):=gf.lK aX (o9 (F.up i om))
     obtain⟨cA,ep,fA,aZ,aY⟩:=iB (m:=m) aZ aY
     have cB:=yc [_,_] _ aY
     refine fK aY 5 ?_
     refine cl lQ (lT fb nb m ed cA eo (ye cB 0 rfl) oa hb aZ i o_) ?_
     rintro _ fB ⟨rfl,T⟩
     have a0:=(yi cB T)
     have cC:gf (iI cA i):=gf.lK aZ o_
     obtain⟨eq,er,fC,cC,a0⟩:=iB (m:=m) cC a0
     refine fQ a0 1 ?_
     refine iQ uW ?_
     have e9:iG xs i=eq:=by subst er;subst ep;subst em;subst ek;subst ei;simp only[iG,L,ci];rfl
     have bk:=a0
     rw[<-e9]at bk
     exact⟨rfl,yj (yc [_,_] [] bk)⟩
   . skip
     refine cl mS (mW fb nb m ed xs bd (j.at (i:=0) rfl) (j.at (i:=1) rfl) oa hb F ((fJ xs i).up) (o9 (F.up i om)) cj) ?_
     rintro _ es ⟨rfl,et⟩
     have cD:=yq j et
     have cE:=yc [_,_] _ cD
     refine fK cD 18 ?_
     refine cl lG (rM fb nb m ed xs es (ye cE 0 rfl) oa hb F ((fJ xs ((fJ xs i).up)).up) i (o9 (F.up ((fJ xs i).up) (o9 (F.up i om)))) o_) ?_
     rintro _ eu ⟨rfl,T⟩
     have H:=(yi cE T)
     have I:gf (iX xs ((fJ xs ((fJ xs i).up)).up) 1 i):=gf.ku F (o9 (F.up ((fJ xs i).up) (o9 (F.up i om)))) o_
     obtain⟨a1,ev,fD,I,H⟩:=iB (m:=m) I H
     refine fK H 14 ?_
     refine jj (o' := i*9+0) (i:=(i:Int)) rfl rfl rfl yh jh om o_ (fK H 1 ?_)
     refine jB (o:=i*9+0) (o' := i*9+0) (i:=0) rfl rfl rfl yn gr d_ rfl ?_
     have cF:=yc [_,_] _ H
     refine fK H 1 ?_
     refine cl lG (rM fb nb m ed a1 eu (ye cF 0 rfl) oa hb I ((fJ xs i).up) ((fJ a1 i).k0) (o9 (F.up i om)) (o9 (I.k0 i om))) ?_
     rintro _ ew ⟨rfl,T⟩
     have a2:=(yi cF T)
     have a3:gf (iX a1 ((fJ xs i).up) 1 ((fJ a1 i).k0)):=gf.ku I (o9 (F.up i om)) (o9 (I.k0 i om))
     obtain⟨cG,ex,fE,a3,a2⟩:=iB (m:=m) a3 a2
     have cH:=yc [_,_] _ a2
     refine fK a2 9 ?_
     refine cl lG (rL fb nb m ed cG ew (ye cH 0 rfl) oa hb a3 i ((fJ xs i).up) o_ (o9 (F.up i om))) ?_
     rintro _ ey ⟨rfl,T⟩
     have a4:=(yi cH T)
     have a5:gf (iX cG i 0 ((fJ xs i).up)):=gf.ku a3 o_ (o9 (F.up i om))
     obtain⟨cI,ez,fF,a5,a4⟩:=iB (m:=m) a5 a4
     have cJ:=yc [_,_] _ a4
     refine fK a4 6 ?_
     refine cl lQ (lT fb nb m ed cI ey (ye cJ 0 rfl) oa hb a5 ((fJ xs i).up) (o9 (F.up i om))) ?_
     rintro _ eA ⟨rfl,T⟩
     have a6:=(yi cJ T)
     have a7:gf (iI cI ((fJ xs i).up)):=gf.lK a5 (o9 (F.up i om))
     obtain⟨cK,eB,fG,a7,a6⟩:=iB (m:=m) a7 a6
     have cL:=yc [_,_] _ a6
     refine fK a6 5 ?_
     refine cl lQ (lT fb nb m ed cK eA (ye cL 0 rfl) oa hb a7 i o_) ?_
     rintro _ fH ⟨rfl,T⟩
     have a8:=(yi cL T)
     have cM:gf (iI cK i):=gf.lK a7 o_
     obtain⟨eC,eD,fI,cM,a8⟩:=iB (m:=m) cM a8
     refine fQ a8 1 ?_
     refine iQ uW ?_
     have e9:iG xs i=eC:=by subst eD;subst eB;subst ez;subst ex;subst ev;simp only[iG,L,cj];rfl
     have bk:=a8
     rw[<-e9]at bk
     exact⟨rfl,yj (yc [_,_] [] bk)⟩
end
section
open Go Go.Sx
theorem UO(v:Value)(w:World)(h1:v.oneCell' = true) :
 CR ya 290 #[v] w (fun r w' => ∃ g,w.heap.size<=g/\r = .func (.func 299) #[] (Zi g)/\(blk g 35 [v]).holds w' /\ gx [] w w'):=by
 refine en Tryz.func290 Tryz.ntmps290 ?_
 have f:=yt w
 refine fS f 2 ?_
 refine ij f (fun b d c e a=>?_) (hcs:=(cells_one h1))
 refine fK a 5 ?_
 refine mD (vf:=[]) (vc:=(Zh b)) rfl rfl rfl (fQ a 4 ?_)
 refine gq (v:=(.func (.func 299) #[] (Zi b))) Tryz.results290 rfl ?_
 exact⟨_,kS (f.size za) c,rfl,a.at (i:=0) rfl,a.gz s_⟩
theorem UN(s:Nat->fU)(l u:Nat)(v:Value)(xs:List Int)(ok:Nat->Prop)(w:World)(E:∀ (k:Nat) (x:Int) (bs:List (World×List Nat)) (L:List fU) (w:World),k<xs.length->xs[xs.length-1-k]? = some x->St bs (s k :: L) w->YR ya l (Zo ((xs.length:Int)-1-(k:Int)) x) w (fun v w' => v = .bool true/\St bs (s (k+1) :: L) w'))(C:Own (s 0) w)(A:(blk u 35 [v]).holds w)(D:u∉(s 0).gG)(hv:Ints .i64 ok w v xs)(y:∀ b,ok b->b∉(s 0).gG)(G:xs.length<=1000000000000) :
 CR ya 299 (D3 (.func (.yield l) #[] #[]) u) w (fun r w' => r = .tuple #[]/\fZ (s 0) w w' (s xs.length)):=by
 have hv:=hv.old d_
 have y:∀ b,(ok b/\b<w.heap.size)->b∉(s 0).gG:=fun b hb=>y b hb.1
 refine en Tryz.func299 Tryz.ntmps299 ?_
 have z:=yp C
 refine fS z 2 ?_
 refine ld rfl rfl yd rfl (B0 A (o:=0) rfl) (kX (v:=v) rfl rfl yd hv (gF z 5 ?_))
 refine lp (α:=Nat) (fun k=>[(0,(.func (.yield l) #[] #[])),(1,(Zb u)),(3,(Za ((xs.length:Int)-1-(k:Int))))]) (fun k w1=>St [(w,(s 0).gG)] [s k] w1/\k<=xs.length) (fun k=>xs.length-k) 0 ⟨rfl,rfl,gm rO,trivial⟩ (⟨z,o_⟩) ?_
 rintro k f g ⟨t,F⟩
 refine fS t 4 ?_
 by_cases h:((xs.length:Int)-1-(k:Int):Int)≥(0:Int)
 . obtain⟨x,B⟩:=pK (show xs.length-1-k<xs.length by omega)
   refine fK t 12 ?_
   refine ld rfl rfl yd rfl (St.HS t (X:=(s 0).gG) s_ (B0 A (o:=0) rfl) D) (fK t 1 ?_)
   refine Cn (i:=(xs.length:Int)-1-(k:Int)) (el:=x) rfl rfl rfl yd gr (St.ints t (X:=(s 0).gG) s_ hv y) o_ (by rw[show ((xs.length:Int)-1-(k:Int)).toNat=xs.length-1-k by omega];exact B) ?_
   intro j m c d n
   have p:=d.i64
   refine ld rfl rfl yf rfl c (yl (vl:=(Zo ((xs.length:Int)-1-(k:Int)) x)) rfl rfl rfl (E k x _ _ _ o_ B t) ?_)
   rintro _ q ⟨rfl,a⟩
   refine fK a 9 ?_
   refine ar (e:=(xs.length:Int)-1-((k+1:Nat):Int)) rfl rfl rfl rfl iT (fQ a 2 ?_)
   refine tN (?_)
   exact again (k+1) ⟨rfl,rfl,gm rO,trivial⟩ (⟨a,o_⟩) (by show (xs.length-(k+1):Nat)<xs.length-k;omega)
 . refine fQ t 8 ?_
   refine iQ Tryz.results299 ?_
   obtain rfl:k=xs.length:=by omega
   exact⟨rfl,yo (R:=s 0) t s_⟩
end
section
open Go Go.Sx
theorem SJ(fb nb m:Nat)(ed:Int)(xs:List Nd)(w:World)(hO:Own (Zl fb nb m ed xs) w)(hm:xs.length=m)(hb:m<=1000001)(hI:gf xs)(i q:Nat)(T:Tr)(hR:gO xs T q)(hT:i∈T.mem)(hn:T.mem.Nodup)(bI:T.mem.length<=1000000)(hq:Out xs q T.mem) :
 CR ya 273 (Zm fb i) w (fun r w' => r = .tuple #[]/\∃ ys a' b', jE xs ys T [] (.nd a' i b') q/\(fJ ys i).flip=false/\gf ys/\fZ (Zl fb nb m ed xs) w w' (Zl fb nb m ed ys)):=by
 have b9:i<m:=by have h7:=hR.qj i hT;omega
 obtain⟨c,a,b,rfl⟩:=Fk hT
 have bH:=At.start hR hn
 have bK:Out xs q (lq c (Tr.nd a i b).mem):=by rw[<-pO];exact hq
 have bE:=acd hR
 have bY:=ab9 (c:=c) (a:=a) (b:=b) (i:=i)
 have bA:=hI.lB bE
 have bR:=Ft (m:=m) (fun j hj=>by have:=bE j hj;omega) hb
 refine Al (vs:=(sI fb i)) Tryz.func273 rfl Tryz.ntmps273 rfl ?_
 have bO:=(yp hO).unpack
 refine fS bO 2 ?_
 refine ij bO (fun e aj a7 a8 I=>?_)
 have ak:St _ [ig .i64 Zg 3 ([]),blk e 226 (Zh fb),blk fb 349 (vH fb nb m ed),blk nb 352 (xs.flatMap Nd.cells)] aj:=oU I 3 1
 have al:=ak
 have am:=al
 refine gF I 19 ?_
 refine lp (α:=Nat×Nat×Value) (fun(k,j,pv)=>[(1,(Za i)),(2,(Zb e)),(4,pv),(5,(Za j))]) (fun(k,j,pv) w1=>St [(w,(Zl fb nb m ed xs).gG)] [ig .i64 pv 3 (gw ((jm c i).take k)),blk e 226 (Zh fb),blk fb 349 (vH fb nb m ed),blk nb 352 (xs.flatMap Nd.cells)] w1/\(jm c i)[k]? = some j) (fun(k,j,pv)=>c.length+1-k) (0,i,Zg) ⟨rfl,rfl,rfl,gm rO,trivial⟩ (⟨am,rfl⟩) ?_
 rintro⟨k,j,pv⟩ a9 ba hC
 have bU:j<m:=by have h7:=bE j (zd hC.2);omega
 refine fS hC.1 5 ?_
 refine jL (vs:=(Ze j)) (cs:=(Ze j)) rfl rfl yd gr rfl (by simp[Value.cells]) rfl rfl rfl hC.1 (fun an bb bc bd J=>vI (k:=.i64) (ys:=gw ((jm c i).take k)) (zs:=[(j:Int)]) (LL:=fun f=>[ig .i64 (Z3 an) 3 ([(j:Int)]),ig .i64 f 3 ((gw ((jm c i).take k))++([(j:Int)])),blk e 226 (Zh fb),blk fb 349 (vH fb nb m ed),blk nb 352 (xs.flatMap Nd.cells)]) 1 rfl rfl rfl yd gr rfl J rfl (kO J (i:=0) rfl) (by simp only[gw,zo,zx,ze,zh];omega) (by simp only[gw,zo,zx,ze,zh];omega) f_ ?_)
 intro f t K be
 have ao:=yg [1,2,3,4] K
 have g:=yg [3,4,1,2] K
 obtain⟨ap,bf⟩:∃ q,C2 xs j=q:=⟨_,rfl⟩
 refine fK ao 8 ?_
 rcases ap with M|N|P
 . skip
   have b8:=Vn bH bK hC.2 M
   have bQ:gw ((jm c i).take k)++[(j:Int)]=gw (jm c i):=by rw[JU hC.2,u6 (by rw[bY.1];omega)]
   refine cl mS (mW fb nb m ed xs t (g.at (i:=0) rfl) (g.at (i:=1) rfl) oa hb hI j o_ M) ?_
   rintro _ aq ⟨rfl,ar⟩
   have u:=yq g ar
   refine fK u 24 ?_
   refine cl XF (UO f aq (yu u (i:=2) rfl)) ?_
   rintro _ au ⟨kb,bW,rfl,bV,bZ⟩
   have Q:=St.M7 u bZ bW bV
   have av:=yg [4,1,2,3,0] Q
   have aw:St [(w,(Zl fb nb m ed xs).gG)] (L6 e fb nb m ed (lB xs (jm c i) 0) f (gw (jm c i)) kb) au:=by rw[RT];have h9:=av;rw[bQ]at h9;exact h9
   refine gF Q 3 ?_
   refine rf (α:=Nat) (ps:=[38,39]) (fi:=[]) (ca:=(Zh kb)) (fun z=>(L6 e fb nb m ed (lB xs (jm c i) z) f (gw (jm c i)) kb)) (fun z=>z=(jm c i).length) aw rfl XK ?_ ?_
   . intro fn dd l wl rc bL b6
     have ax:=yg [0,2,3,4,1,5,6] b6
     have bC:=yc (zO (iR l rc) e fb nb m ed (lB xs (jm c i) 0)) [jW dd (some []),ig .i64 f 3 (gw (jm c i)),blk kb 35 [f]] ax
     have bM:rc.state = .ready:=by rw[bL]
     have b1:rc.pending=none:=by rw[bL]
     have b3:∀ (k:Nat) (x:Int) (bs:List (World×List Nat)) (L:List fU) (w:World),k<(gw (jm c i)).length->(gw (jm c i))[(gw (jm c i)).length-1-k]? = some x->St bs ((fun(z:Nat)=>gj (zO (iR l rc) e fb nb m ed (lB xs (jm c i) z))) k :: L) w->YR ya l (Zo (((gw (jm c i)).length:Int)-1-(k:Int)) x) w (fun v w' => v = .bool true/\St bs ((fun(z:Nat)=>gj (zO (iR l rc) e fb nb m ed (lB xs (jm c i) z))) (k+1) :: L) w'):=by
      intro k x bs LT wr bX hx bD
      have bD:=bD.unpack
      obtain⟨j,hj,rfl⟩:=abE bX hx
      have bU:j<m:=by have:=bE j (by simpa using zd hj);omega
      have cb:=(bA k).2
      refine yD (vl:=(Zo (((gw (jm c i)).length:Int)-1-(k:Int)) j)) 0 bL bD rfl rfl rfl (iN bD 3 ?_)
      refine tN (?_)
      refine Aa 0 bD rfl bM rfl ?_
      intro ay R
      have az:=lN R (List.Perm.cons _ (List.Perm.swap _ _ _))
      have aA:=lN az (List.Perm.swap _ _ _)
      have aB:=lN aA (List.Perm.cons _ (List.Perm.cons _ (List.Perm.swap _ _ _)))
      have aC:=lN aB (List.Perm.cons _ (List.Perm.swap _ _ _))
      have S:=yc [_,_] _ aC
      refine fS R 4 ?_
      refine cl XG (Ki fb nb m ed (lB xs (jm c i) k) ay (ye S 0 rfl) oa hb (bA k).1 j o_) ?_
      rintro _ bg ⟨rfl,ht⟩
      have U:=(yi S ht)
      have bh:gf (jT (lB xs (jm c i) k) j):=(gf.push (bA k).1 o_).1
      refine fQ U 2 ?_
      refine vR 2 U rfl bM b1 rfl ?_
      intro bi aD
      have aE:=lN aD (List.Perm.cons _ (List.Perm.swap _ _ _))
      have aF:=lN aE (List.Perm.swap _ _ _)
      have aG:=lN aF (List.Perm.cons _ (List.Perm.cons _ (List.Perm.swap _ _ _)))
      have aH:=lN aG (List.Perm.cons _ (List.Perm.swap _ _ _))
      have bN:=aH
      rw[<-RS hj]at bN
      exact⟨_,rfl,rfl,yc [_,_,_,_] _ bN⟩
     refine CR.mono (UN (fun(z:Nat)=>gj (zO (iR l rc) e fb nb m ed (lB xs (jm c i) z))) l kb f (gw (jm c i)) (fun b=>b∉((fun(z:Nat)=>gj (zO (iR l rc) e fb nb m ed (lB xs (jm c i) z))) 0).gG) wl b3 (ye bC 0 rfl) (bC.at (i:=3) rfl) (bC.Q4 (by simp[iU,blk,jW])) (St.adB bC (i:=2) (j:=0) rfl bR rfl d_) (fun _ h=>h) (by simp only[gw,zo];omega)) ?_
     rintro _ w9 ⟨-,b7⟩
     have b5:=(yi bC b7)
     have aI:=yg [0,4,1,2,3,5,6] b5
     exact⟨_,by simp[gw],aI⟩
   . rintro z dd bj hC aJ
     have V:=yg [0,1,2,3] aJ
     obtain⟨O0,a0,b0,bP,bT⟩:=acK hR hn hC
     refine FA tt none V 3 ?_
     refine lp (α:=List Nd×Cx×Tr×Tr) (fun(ys,O,a', b')=>[(1,(Za i)),(2,(Zb e))]) (fun(ys,O,a', b') w1=>St [(w,(Zl fb nb m ed xs).gG)] (zO (jW dd (some [])) e fb nb m ed ys) w1/\jE xs ys (jY c (.nd a i b)) O (.nd a' i b') q/\(fJ ys i).flip=false/\gf ys/\ys.length=m) (fun(ys,O,a', b')=>O.length) ((lB xs (jm c i) z),O0,a0,b0) ⟨rfl,rfl,trivial⟩ (⟨V,bP,bT,(bA z).1,by have:=(bA z).2;omega⟩) ?_
     rintro⟨ys,O,a', b'⟩ bl y ⟨bz,hM,bF,F,cc⟩
     refine fS bz 3 ?_
     rcases hM.sides hn hq with ⟨hO,hS⟩|⟨d,p,s2,hO,hS,hU,bG⟩|⟨d,p,s2,d', g2,s3,c2,hO,hS,hU,bG⟩
     . skip
       subst hO
       have A:=yg [2,3,0,1] bz
       refine fK bz 2 ?_
       refine cl mS (mW fb nb m ed ys y (A.at (i:=0) rfl) (A.at (i:=1) rfl) oa hb F i o_ hS) ?_
       rintro _ bm ⟨rfl,aK⟩
       have W:=yq A aK
       refine fQ W 21 ?_
       refine xP 2 W rfl rfl ?_
       intro w8 b4
       exact⟨_,results_none Tryz.results273 _ _ _,_,rfl,rfl,ys,a', b', hM,bF,F,yj (yc [_,_] _ b4)⟩
     . skip
       subst hO
       subst hU
       have B:=yg [2,3,0,1] bz
       refine fK bz 2 ?_
       refine cl mS (mW fb nb m ed ys y (B.at (i:=0) rfl) (B.at (i:=1) rfl) oa hb F i o_ hS) ?_
       rintro _ aL ⟨rfl,aM⟩
       have n:=yq B aM
       refine fK n 24 ?_
       refine jj (o' := i*9+0) (i:=(i:Int)) rfl rfl rfl yh jh (o9 (show i<(ys).length from om)) o_ (fK n 10 ?_)
       refine cl mS (mW fb nb m ed ys aL (n.at (i:=0) rfl) (n.at (i:=1) rfl) oa hb F ((fJ ys i).up) (o9 (F.up i om)) bG) ?_
       rintro _ aN ⟨rfl,aO⟩
       have X:=yq n aO
       have Y:=yc [_,_] _ X
       refine fK X 18 ?_
       refine cl Cb (yE fb nb m ed ys aN (ye Y 0 rfl) oa hb F i o_) ?_
       rintro _ bn ⟨rfl,ht⟩
       have Z:=(yi Y ht)
       have aP:gf (iG ys i):=(gf.rotate F o_).1
       have bo:(iG ys i).length=m:=(CW F o_).trans o_
       refine fQ Z 2 ?_
       refine tN (?_)
       have aQ:=yg [2,3,0,1] Z
       obtain⟨a2,b2,bk,bB⟩:=hM.zig hn o_ bI hq bF
       exact again (iG ys i,[],a2,b2) ⟨rfl,rfl,trivial⟩ (⟨aQ,bk,bB,aP,by have:=bk.kl.len;omega⟩) (by simp only[ze,zh];omega)
     . skip
       subst hO
       subst hU
       have C:=yg [2,3,0,1] bz
       refine fK bz 2 ?_
       refine cl mS (mW fb nb m ed ys y (C.at (i:=0) rfl) (C.at (i:=1) rfl) oa hb F i o_ hS) ?_
       rintro _ aR ⟨rfl,aS⟩
       have o:=yq C aS
       refine fK o 24 ?_
       refine jj (o' := i*9+0) (i:=(i:Int)) rfl rfl rfl yh jh (o9 (show i<(ys).length from om)) o_ (fK o 10 ?_)
       refine cl mS (mW fb nb m ed ys aR (o.at (i:=0) rfl) (o.at (i:=1) rfl) oa hb F ((fJ ys i).up) (o9 (F.up i om)) bG) ?_
       rintro _ aa ⟨rfl,aT⟩
       have s:=yq o aT
       refine fK s 17 ?_
       by_cases aU:((sd d:Int):Int)=((sd d' : Int):Int)
       . have ab:=yc [_,_] _ s
         refine fK s 7 ?_
         refine cl Cb (yE fb nb m ed ys aa (ye ab 0 rfl) oa hb F ((fJ ys i).up) (o9 (F.up i om))) ?_
         rintro _ aV ⟨rfl,ht⟩
         have ac:=(yi ab ht)
         have D:gf (iG ys ((fJ ys i).up)):=(gf.rotate F (o9 (F.up i om))).1
         have bp:(iG ys ((fJ ys i).up)).length=m:=(CW F (o9 (F.up i om))).trans o_
         have ad:=yc [_,_] _ ac
         refine fK ac 5 ?_
         refine cl Cb (yE fb nb m ed (iG ys ((fJ ys i).up)) aV (ye ad 0 rfl) oa hb D i o_) ?_
         rintro _ bq ⟨rfl,ht⟩
         have ae:=(yi ad ht)
         have aW:gf (iG (iG ys ((fJ ys i).up)) i):=(gf.rotate D o_).1
         have br:(iG (iG ys ((fJ ys i).up)) i).length=m:=(CW D o_).trans o_
         refine fQ ae 2 ?_
         refine tN (?_)
         have aX:=yg [2,3,0,1] ae
         have bS:=adW (Int.ofNat.inj aU)
         subst bS
         obtain⟨a2,b2,bk,bB⟩:=hM.ahR hn o_ bI hq bF
         exact again (iG (iG ys ((fJ ys i).up)) i,c2,a2,b2) ⟨rfl,rfl,trivial⟩ (⟨aX,bk,bB,aW,by have:=bk.kl.len;omega⟩) (by simp only[ze,zh];omega)
       . have af:=yc [_,_] _ s
         refine fK s 7 ?_
         refine cl Cb (yE fb nb m ed ys aa (ye af 0 rfl) oa hb F i o_) ?_
         rintro _ aY ⟨rfl,ht⟩
         have ag:=(yi af ht)
         have E:gf (iG ys i):=(gf.rotate F o_).1
         have bt:(iG ys i).length=m:=(CW F o_).trans o_
         have ah:=yc [_,_] _ ag
         refine fK ag 5 ?_
         refine cl Cb (yE fb nb m ed (iG ys i) aY (ye ah 0 rfl) oa hb E i o_) ?_
         rintro _ bu ⟨rfl,ht⟩
         have ai:=(yi ah ht)
         have aZ:gf (iG (iG ys i) i):=(gf.rotate E o_).1
         have bv:(iG (iG ys i) i).length=m:=(CW E o_).trans o_
         refine fQ ai 2 ?_
         refine tN (?_)
         have a1:=yg [2,3,0,1] ai
         obtain⟨a2,b2,bk,bB⟩:=hM.ahQ hn o_ bI hq bF
         exact again (iG (iG ys i) i,c2,a2,b2) ⟨rfl,rfl,trivial⟩ (⟨a1,bk,bB,aZ,by have:=bk.kl.len;omega⟩) (by simp only[ze,zh];omega)
 . skip
   have bJ:=NH bH bK hC.2 N
   refine cl mS (mW fb nb m ed xs t (g.at (i:=0) rfl) (g.at (i:=1) rfl) oa hb hI j o_ N) ?_
   rintro _ bw ⟨rfl,a3⟩
   have G:=yq g a3
   refine fK G 22 ?_
   refine jj (o' := j*9+0) (i:=(j:Int)) rfl rfl rfl yh jh om o_ (fQ G 5 ?_)
   refine tN (?_)
   have a4:=yg [2,3,0,1] G
   exact again ((k+1),(fJ xs j).up,f) ⟨rfl,rfl,rfl,gm rO,trivial⟩ (⟨by rw[<-JU hC.2];exact a4,bJ.2⟩) (by show (c.length+1-(k+1):Nat)<c.length+1-k;omega)
 . skip
   have bJ:=NH bH bK hC.2 P
   refine cl mS (mW fb nb m ed xs t (g.at (i:=0) rfl) (g.at (i:=1) rfl) oa hb hI j o_ P) ?_
   rintro _ bx ⟨rfl,a5⟩
   have H:=yq g a5
   refine fK H 22 ?_
   refine jj (o' := j*9+0) (i:=(j:Int)) rfl rfl rfl yh jh om o_ (fQ H 5 ?_)
   refine tN (?_)
   have a6:=yg [2,3,0,1] H
   exact again ((k+1),(fJ xs j).up,f) ⟨rfl,rfl,rfl,gm rO,trivial⟩ (⟨by rw[<-JU hC.2];exact a6,bJ.2⟩) (by show (c.length+1-(k+1):Nat)<c.length+1-k;omega)
end
section
open Go Go.Sx
theorem xF(fb nb m:Nat)(ed:Int)(xs:List Nd)(w:World)(hO:Own (Zl fb nb m ed xs) w)(hm:xs.length=m)(hb:m<=1000001)(hI:gf xs)(F:FT)(hF:Fo xs F)(i:Nat)(hi:i≠0)(aI:i<m) :
 CR ya 228 (Zm fb i) w (fun r w' => ∃ l:Nat,r = .int .i64 (l:Int)/\∃ ys a R,kE xs F ys i a R/\gf ys/\fZ (Zl fb nb m ed xs) w w' (Zl fb nb m ed ys)):=by
 obtain⟨k0,aD⟩:=Ex.init hF (i:=i) o_
 refine en Tryz.func228 Tryz.ntmps228 ?_
 have aB:=(yp hO).unpack
 refine qV aB 18 ?_
 refine lp (α:=List Nd×Nat×Nat×Nat×FT×Tr) (fun(zs,below,j,k,R,B)=>[(0,(Zb fb)),(1,(Za i)),(5,(Za below)),(6,(Za j))]) (fun(zs,below,j,k,R,B) w1=>St [(w,(Zl fb nb m ed xs).gG)] [blk fb 349 (vH fb nb m ed),blk nb 352 (zs.flatMap Nd.cells)] w1/\Ex xs F i zs below j k R B/\gf zs/\zs.length=m) (fun(zs,below,j,k,R,B)=>k) (xs,0,i,k0,F,.nil) ⟨rfl,rfl,gm rO,gm rO,trivial⟩ (⟨aB,aD,hI,hm⟩) ?_
 rintro⟨zs,below,j,k,R,B⟩ ac D ⟨ap,hE,aA,aL⟩
 have aH:below<m:=by have h7:=hE.rep.AV o_;rw[hE.root]at h7;omega
 have aJ:j<m:=by have h7:=hE.lt;omega
 refine fS ap 4 ?_
 by_cases Q:((j:Int):Int)=(0:Int)
 . have aG:j=0:=by omega
   refine fK ap 1 ?_
   subst aG
   obtain⟨au,av,aw,ax,ay,az⟩:=hE.fin hi
   have E:=yc [_,_] _ ap
   refine fK ap 12 ?_
   refine cl OQ (SJ fb nb m ed zs D (ye E 0 rfl) (by first|exact hm|omega) hb aA i 0 B au av aw ax ay) ?_
   rintro _ ad ⟨rfl,u,G,S,H,I,U,ht⟩
   have J:=(yi E ht)
   have ae:u.length=m:=by have:=H.kl.len;omega
   refine fQ J 9 ?_
   refine gq (v:=(Za below)) Tryz.results228 rfl ?_
   obtain⟨aE,h1,h2,h3,h4,h5⟩:=az u G S H I
   subst aE
   exact⟨below,rfl,u,G,R,⟨h1,I,h2,h3,h4,h5⟩,U,yj (yc [_,_] [] J)⟩
 . have aF:j≠0:=fun h7=>Q o_
   obtain⟨T,q,au,av,aw,ax,ay,az⟩:=hE.go aF
   have K:=yc [_,_] _ ap
   refine fK ap 12 ?_
   refine cl OQ (SJ fb nb m ed zs D (ye K 0 rfl) (by first|exact hm|omega) hb aA j q T au av aw ax ay) ?_
   rintro _ af ⟨rfl,g,L,V,M,W,y,ht⟩
   have N:=(yi K ht)
   have ag:g.length=m:=by have:=M.kl.len;omega
   refine fK N 9 ?_
   refine jj (o' := j*9+0) (i:=(j:Int)) rfl rfl rfl yh jh (o9 (show j<(g).length from om)) o_ (gJ N 16 fun ah h=>?_)
   refine jB (o:=j*9+0) (o' := j*9+1) (i:=1) rfl rfl rfl yn gr d_ rfl (fK h 1 ?_)
   refine jj (o' := ((fJ g j).k1)*9+0) (i:=((fJ g j).k1:Int)) rfl rfl rfl yh jh (o9 (show ((fJ g j).k1)<(g).length from(o9 (y.k1 j om)))) o_ (fK h 1 ?_)
   refine ld rfl rfl yf rfl (mK h (i:=1) rfl f_ (o9 (y.k1 j om)) rfl) (fK h 5 ?_)
   refine jj (o' := below*9+0) (i:=(below:Int)) rfl rfl rfl yh jh (o9 (show below<(g).length from om)) o_ (fK h 2 ?_)
   refine ar (e:=(IntKind.i64.wrap ((fJ g ((fJ g j).k1)).total-(fJ g below).total))) rfl rfl rfl rfl rfl (ar (e:=(IntKind.i64.wrap ((fJ g j).iP+(IntKind.i64.wrap ((fJ g ((fJ g j).k1)).total-(fJ g below).total))))) rfl rfl rfl rfl rfl (fK h 2 ?_))
   refine jU (f:=(fun x:Nd=>{ x with iP:=(IntKind.i64.wrap ((fJ g j).iP+(IntKind.i64.wrap ((fJ g ((fJ g j).k1)).total-(fJ g below).total)))) })) 1 h (fun ai p aj=>?_)
   have z:gf (fN g j (fun x=>{ x with iP:=(IntKind.i64.wrap ((fJ g j).iP+(IntKind.i64.wrap ((fJ g ((fJ g j).k1)).total-(fJ g below).total)))) })):=gf.iJ y om (fun x a b c d e=>⟨a,b,c,d,e⟩)
   obtain⟨X,Y,ak,z,p⟩:=iB (m:=m) z p
   refine fK p 8 ?_
   refine jB (o:=j*9+0) (o' := j*9+1) (i:=1) rfl rfl rfl yn gr d_ rfl (jU (f:=(fun x:Nd=>{ x with k1:=below })) 1 p (fun Z s al=>?_))
   have t:gf (fN X j (fun x=>{ x with k1:=below })):=gf.iJ z om (fun x a b c d e=>⟨a,om,c,d,e⟩)
   obtain⟨O,aa,am,t,s⟩:=iB (m:=m) t s
   have P:=yc [_,_] _ s
   refine fK s 6 ?_
   refine cl lQ (lT fb nb m ed O Z (ye P 0 rfl) oa hb t j o_) ?_
   rintro _ an ⟨rfl,ht⟩
   have n:=(yi P ht)
   have A:gf (iI O j):=gf.lK t o_
   obtain⟨C,ab,ao,A,n⟩:=iB (m:=m) A n
   refine fK n 14 ?_
   refine jj (o' := j*9+0) (i:=(j:Int)) rfl rfl rfl yh jh om o_ (fQ n 4 ?_)
   refine tN (?_)
   have e9:k9 g j below=C:=by rw[ab,aa,Y];rfl
   obtain⟨aC,aK,k', R', hk,aq⟩:=az g L V M W
   rw[e9]at aC aq
   rw[<-aC]at aq
   exact again (C,j,(fJ C j).up,k', R', (.nd L j B)) ⟨rfl,rfl,gm rO,gm rO,trivial⟩ (⟨n,aq,A,o_⟩) (by subst hk;exact Nat.lt_succ_self _)
end
section
open Go Go.Sx
theorem TG(fb nb m:Nat)(ed:Int)(w:World)(d:(zV fb nb m ed).holds w)(hb:m<=1000001) :
 CR ya 272 (Zi fb) w (fun r w' => r = .bool true/\gx [] w w'):=by
 refine en Tryz.func272 Tryz.ntmps272 ?_
 have b:=yt w
 refine fS b 8 ?_
 refine lS (a:=some ⟨fb,0,none⟩) (c:=true) rfl rfl rfl Tryz.underlying226 rfl (fK b 6 ?_)
 refine Am (a:=⟨fb,0,none⟩) rfl rfl rfl Tryz.underlying226 Lc (fQ b 5 ?_)
 refine gq (v:=Zf) Tryz.results272 rfl ?_
 exact⟨rfl,b.gz s_⟩
theorem Aq(fb nb m:Nat)(ed:Int)(w:World)(f:(zV fb nb m ed).holds w)(hb:m<=1000001)(v:Nat)(hv:v+1<m) :
 CR ya 257 (Zm fb v) w (fun r w' => r = .bool true/\gx [] w w'):=by
 refine en Tryz.func257 Tryz.ntmps257 ?_
 have e:=yt w
 refine fS e 8 ?_
 refine cl OP (TG fb nb m ed w (St.Ks e s_ f) hb) ?_
 rintro _ d ⟨rfl,b⟩
 have a:=yq e b
 refine fK a 2 ?_
 refine cmp rfl rfl rfl (nv o_) (fK a 7 ?_)
 refine Fc (m:=m) (c:=m) rfl rfl yh (fK a 1 ?_)
 refine cmp rfl rfl rfl (pI o_) (fQ a 5 ?_)
 refine gq (v:=Zf) Tryz.results257 rfl ?_
 exact⟨rfl,a.gz s_⟩
theorem HW(fb nb m:Nat)(ed:Int)(w:World)(y:(zV fb nb m ed).holds w)(hb:m<=1000001)(v:Value)(vs:List Nat)(hv:Ints .i64 (fun _=>True) w v (gw vs))(A:∀ x∈vs,x+1<m) :
 CR ya 227 (Hf fb v) w (fun r w' => r = .int .i64 0/\gx [] w w'):=by
 have C:(gw vs).length=vs.length:=by simp[gw]
 have D:=hv.len
 refine en Tryz.func227 Tryz.ntmps227 ?_
 have u:=yt w
 refine fS u 9 ?_
 refine cl OP (TG fb nb m ed w (St.Ks u s_ y) hb) ?_
 rintro _ h ⟨rfl,c⟩
 have a:=yq u c
 refine fK a 10 ?_
 refine kX (v:=v) rfl rfl yd hv (gF a 4 ?_)
 refine lp (α:=Nat) (fun k=>[(0,(Zb fb)),(10,v),(11,(Za ((gw vs).length:Int))),(12,(Za k))]) (fun k w1=>St [(w,[])] [] w1/\k<=vs.length) (fun k=>vs.length-k) 0 ⟨rfl,rfl,rfl,gm rO,trivial⟩ (⟨a,o_⟩) ?_
 rintro k j d ⟨t,B⟩
 refine fS t 2 ?_
 by_cases l:((k:Int):Int)<(((gw vs).length:Int):Int)
 . obtain⟨x,z⟩:=pK (show k<vs.length by omega)
   refine fK t 11 ?_
   refine Cn (i:=(k:Int)) (el:=(x:Int)) rfl rfl rfl yd gr (St.EZ t s_ hv) o_ (by rw[show ((k:Nat):Int).toNat=k by omega];simp[gw,z]) ?_
   intro n o e f p
   have q:=f.i64
   refine ld rfl rfl yf rfl e (fK t 7 ?_)
   refine cl EF (Aq fb nb m ed d (St.Ks t s_ y) hb x (by first|omega|exact A _ (zd z))) ?_
   rintro _ s ⟨rfl,g⟩
   have b:=yq t g
   refine fQ b 11 ?_
   refine tN (?_)
   exact again (k+1) ⟨rfl,rfl,rfl,gm rO,trivial⟩ (⟨b,o_⟩) (by show (vs.length-(k+1):Nat)<vs.length-k;omega)
 . refine fQ t 16 ?_
   refine gq (v:=Zc) Tryz.results227 rfl ?_
   exact⟨rfl,t.gz s_⟩
theorem Qu(fb nb m:Nat)(ed:Int)(xs:List Nd)(w:World)(B:Own (Zl fb nb m ed xs) w)(hm:xs.length=m)(hb:m<=1000001)(A:gf xs)(F:FT)(z:Fo xs F)(i:Nat)(hi:i≠0)(E:i<m) :
 CR ya 277 (Zm fb i) w (fun r w' => r = .tuple #[]/\∃ ys a R,kE xs F ys i a R/\gf ys/\fZ (Zl fb nb m ed xs) w w' (Zl fb nb m ed (kg ys i))):=by
 refine en Tryz.func277 Tryz.ntmps277 ?_
 have y:=(yp B).unpack
 have j:=yc [_,_] _ y
 refine fS y 4 ?_
 refine cl xE (xF fb nb m ed xs w (ye j 0 rfl) (by first|exact hm|omega) hb A F z i o_ o_) ?_
 rintro _ q ⟨G,rfl,g,o,p,k,l,C⟩
 have h:=(yi j C)
 have s:g.length=m:=by have:=k.len;omega
 refine fK h 8 ?_
 refine jj (o' := i*9+0) (i:=(i:Int)) rfl rfl rfl yh jh (o9 (show i<(g).length from om)) o_ (fK h 1 ?_)
 refine jU (f:=(fun x:Nd=>{ x with flip:=true })) 1 h (fun t n u=>?_)
 have v:gf (fN g i (fun x=>{ x with flip:=true })):=gf.iJ l om (fun x a b c d e=>⟨a,b,c,d,e⟩)
 refine fQ n 1 ?_
 refine iQ Tryz.results277 ?_
 have D:kg g i=fN g i (fun x=>{ x with flip:=true }):=rfl
 exact⟨rfl,g,o,p,k,l,yj (yc [_,_] [] n)⟩
theorem Ke(fb nb m:Nat)(ed:Int)(xs:List Nd)(w:World)(G:Own (Zl fb nb m ed xs) w)(hm:xs.length=m)(hb:m<=1000001)(E:gf xs)(F:FT)(D:Fo xs F)(i j:Nat)(hi:i≠0)(H:i<m)(I:j≠0)(J:j<m) :
 CR ya 234 (Zu fb i j) w (fun r w' => r = .tuple #[]/\∃ ys a R zs b R2,kE xs F ys i a R/\kE (kg ys i) ((.nd a i .nil,0) :: R) zs j b R2/\gf zs/\fZ (Zl fb nb m ed xs) w w' (Zl fb nb m ed zs)):=by
 refine en Tryz.func234 Tryz.ntmps234 ?_
 have C:=(yp G).unpack
 have e:=yc [_,_] _ C
 refine fS C 4 ?_
 refine cl OU (Qu fb nb m ed xs w (ye e 0 rfl) (by first|exact hm|omega) hb E F D i o_ o_) ?_
 rintro _ p ⟨rfl,c,f,g,d,q,B⟩
 have h:=(yi e B)
 have s:c.length=m:=by have:=d.len;omega
 have t:gf (kg c i):=q.lead o_
 have y:(kg c i).length=m:=(uF _ _).trans s
 have k:=yc [_,_] _ h
 refine fK h 5 ?_
 refine cl xE (xF fb nb m ed (kg c i) p (ye k 0 rfl) (by first|exact hm|omega) hb t ((.nd f i .nil,0) :: g) d.Cy.fo j o_ o_) ?_
 rintro _ z ⟨K,rfl,l,u,v,n,x,B⟩
 have o:=(yi k B)
 have A:l.length=m:=by have:=n.len;omega
 refine fQ o 1 ?_
 refine iQ Tryz.results234 ?_
 exact⟨rfl,c,f,g,l,u,v,d,n,x,yj (yc [_,_] [] o)⟩
end
section
open Go Go.Sx
theorem GU(fb nb m:Nat)(ed:Int)(xs:List Nd)(w:World)(R:Own (Zl fb nb m ed xs) w)(hm:xs.length=m)(hb:m<=1000001)(Q:gf xs)(F:FT)(M:Fo xs F)(a b:Nat)(T:a+1<m)(U:b+1<m) :
 CR ya 245 (Zu fb a b) w (fun r w' => ∃ B zs F2,r = .bool B/\(B=true↔Joined xs F (a+1) (b+1))/\Fo zs F2/\gf zs/\zs.length=m/\(∀ u v,Joined zs F2 u v↔Joined xs F u v)/\(∀ k,(fJ zs k).key=(fJ xs k).key)/\fZ (Zl fb nb m ed xs) w w' (Zl fb nb m ed zs)):=by
 refine en Tryz.func245 Tryz.ntmps245 ?_
 have O:=(yp R).unpack
 refine fS O 10 ?_
 refine cl EF (Aq fb nb m ed w (O.at (i:=0) rfl) hb a o_) ?_
 rintro _ q ⟨rfl,s⟩
 have h:=yq O s
 refine fK h 4 ?_
 refine cl EF (Aq fb nb m ed q (h.at (i:=0) rfl) hb b o_) ?_
 rintro _ t ⟨rfl,x⟩
 have f:=yq h x
 refine fK f 12 ?_
 by_cases D:((a:Int):Int)=((b:Int):Int)
 . refine fQ f 11 ?_
   refine gq (v:=Zf) Tryz.results245 rfl ?_
   have S:a=b:=by omega
   subst S
   exact⟨true,xs,F,rfl,⟨fun _=>M.aal o_ o_,fun _=>rfl⟩,M,Q,hm,fun _ _=>Iff.rfl,fun _=>rfl,yj (yc [_,_] _ f)⟩
 . have j:=yc [_,_] _ f
   refine fK f 11 ?_
   refine cl xE (xF fb nb m ed xs t (ye j 0 rfl) (by first|exact hm|omega) hb Q F M (a+1) o_ o_) ?_
   rintro _ y ⟨V,rfl,l,z,A,d,C,P⟩
   have n:=(yi j P)
   have E:l.length=m:=by have:=d.len;omega
   have o:=yc [_,_] _ n
   refine fK n 7 ?_
   refine cl xE (xF fb nb m ed l y (ye o 0 rfl) (by first|exact hm|omega) hb C ((.nd z (a+1) .nil,0) :: A) d.fo (b+1) o_ o_) ?_
   rintro _ G ⟨W,rfl,g,H,I,c,p,P⟩
   have e:=(yi o P)
   have J:g.length=m:=by have:=c.len;omega
   refine fK e 10 ?_
   refine jj (o' := (a+1)*9+0) (i:=(a:Int)+1) rfl rfl rfl yh jh (o9 (show (a+1)<(g).length from om)) o_ (fK e 2 ?_)
   by_cases K:(((fJ g (a+1)).up:Int):Int)=(0:Int)
   . refine fQ e 5 ?_
     refine gq (v:=Zp) Tryz.results245 rfl ?_
     have N:=P8 d c (show a+1≠b+1 by omega)
     exact⟨false,g,_,rfl,⟨fun L=>(by cases L),fun L=>absurd (N.2 L) o_⟩,c.fo,p,by have:=c.len;omega,fun u v=>(c.joined u v).trans (d.joined u v),fun k=>(c.key k).trans (d.key k),yj (yc [_,_] _ e)⟩
   . refine fQ e 5 ?_
     refine gq (v:=Zf) Tryz.results245 rfl ?_
     have N:=P8 d c (show a+1≠b+1 by omega)
     exact⟨true,g,_,rfl,⟨fun _=>N.1 o_,fun _=>rfl⟩,c.fo,p,by have:=c.len;omega,fun u v=>(c.joined u v).trans (d.joined u v),fun k=>(c.key k).trans (d.key k),yj (yc [_,_] _ e)⟩
theorem Uh(fb nb m:Nat)(ed:Int)(xs:List Nd)(w:World)(W:Own (Zl fb nb m ed xs) w)(hm:xs.length=m)(hb:m<=1000001)(V:gf xs)(F:FT)(U:Fo xs F)(v:Nat)(hv:v+1<m)(key:Int)(hk:gX .i64 key) :
 CR ya 175 (Zu fb v key) w (fun r w' => r = .int .i64 0/\∃ zs F2,Fo zs F2/\gf zs/\zs.length=m/\fZ (Zl fb nb m ed xs) w w' (Zl fb nb m ed zs)):=by
 refine en Tryz.func175 Tryz.ntmps175 ?_
 have S:=(yp W).unpack
 refine fS S 10 ?_
 refine jL (vs:=(Ze v)) (cs:=(Ze v)) rfl rfl yd gr rfl (by simp[Value.cells]) rfl rfl rfl S (fun u y G H h=>cl IJ (HW fb nb m ed y (h.at (i:=1) rfl) hb (Z3 u) [v] (wT h (i:=0) rfl (Ft (m:=m) (P:=[v]) (by intro j O;simp at O;omega) hb)).any (by intro j O;simp at O;omega)) ?_)
 rintro _ z ⟨rfl,A⟩
 have n:=yq h A
 have B:=yg [1,2,0] n
 have o:=yc [_,_] _ B
 refine fK n 17 ?_
 refine cl xE (xF fb nb m ed xs z (ye o 0 rfl) (by first|exact hm|omega) hb V F U (v+1) o_ o_) ?_
 rintro _ I ⟨X,rfl,g,J,K,k,C,Q⟩
 have l:=(yi o Q)
 have L:g.length=m:=by have:=k.len;omega
 refine fK l 11 ?_
 refine jj (o' := (v+1)*9+0) (i:=(v:Int)+1) rfl rfl rfl yh jh (o9 (show (v+1)<(g).length from om)) o_ (fK l 1 ?_)
 refine jU (f:=(fun x:Nd=>{ x with key:=key })) 1 l (fun D p M=>?_)
 have q:gf (fN g (v+1) (fun x=>{ x with key:=key })):=gf.iJ C om (fun x a b c d e=>⟨a,b,c,d,hk⟩)
 have s:=yc [_,_] _ p
 refine fK p 7 ?_
 refine cl lQ (lT fb nb m ed (fN g (v+1) (fun x=>{ x with key:=key })) D (ye s 0 rfl) oa hb q (v+1) om) ?_
 rintro _ N ⟨rfl,Q⟩
 have t:=(yi s Q)
 have E:gf (iI (fN g (v+1) (fun x=>{ x with key:=key })) (v+1)):=gf.lK q om
 refine fQ t 8 ?_
 refine gq (v:=Zc) Tryz.results175 rfl ?_
 have T:wK g (v+1) key=iI (fN g (v+1) (fun x=>{ x with key:=key })) (v+1):=rfl
 have R:=ad3 (c:=key) k.fo
 exact⟨rfl,iI (fN g (v+1) (fun x=>{ x with key:=key })) (v+1),_,R.1,E,by rw[<-T,R.2.1];have:=k.len;omega,yj (yc [_,_] _ t)⟩
theorem Ua(fb nb m:Nat)(ed:Int)(xs:List Nd)(w:World)(T:Own (Zl fb nb m ed xs) w)(hm:xs.length=m)(hb:m<=1000001)(Q:gf xs)(F:FT)(P:Fo xs F)(a b:Nat)(V:a+1<m)(W:b+1<m) :
 CR ya 233 (Zu fb a b) w (fun r w' => ∃ d zs F2,r = .int .i64 d/\Fo zs F2/\gf zs/\zs.length=m/\(d=1->∃ L R,F2=(.nd L (b+1) .nil,0) :: R/\gA zs false (.nd L (b+1) .nil)=[a+1,b+1])/\fZ (Zl fb nb m ed xs) w w' (Zl fb nb m ed zs)):=by
 refine en Tryz.func233 Tryz.ntmps233 ?_
 have N:=(yp T).unpack
 have k:=yc [_,_] _ N
 refine fS N 11 ?_
 refine cl IQ (GU fb nb m ed xs w (ye k 0 rfl) (by first|exact hm|omega) hb Q F P a b o_ o_) ?_
 rintro _ s ⟨t,l,O,rfl,u,g,n,x,y,B,K⟩
 have f:=(yi k K)
 refine gF f 3 ?_
 cases o:(t:Bool)
 . skip
   subst o
   refine iN f 8 ?_
   refine gq (v:=Zw) Tryz.results233 rfl ?_
   exact⟨-1,l,_,rfl,g,n,x,fun M=>absurd M d_,yj (yc [_,_] _ f)⟩
 . skip
   subst o
   have p:=yc [_,_] _ f
   refine fS f 10 ?_
   refine cl IL (Ke fb nb m ed l s (ye p 0 rfl) (by first|exact hm|omega) hb n O g (a+1) (b+1) o_ o_ o_ o_) ?_
   rintro _ C ⟨rfl,D,E,G,c,q,z,h,e,A,K⟩
   have j:=(yi p K)
   have H:c.length=m:=by have I:=e.len;have J:=h.len;rw[uF]at I;omega
   have X:0<=(fJ c (b+1)).size/\(fJ c (b+1)).size<=1000000:=by have I:=(e.fo.rep (.nd q (b+1) .nil,0) s_).2.2.1.size;have J:=e.fo.count;simp only[Tr.mem]at I J;rw[I];omega
   refine fK j 10 ?_
   refine jj (o' := (b+1)*9+0) (i:=(b:Int)+1) rfl rfl rfl yh jh (o9 (show (b+1)<(c).length from om)) o_ (fQ j 7 ?_)
   refine gq (v:=(Za (((fJ c (b+1)).size)-1))) Tryz.results233 rfl ?_
   have S:=(y (a+1) (b+1)).2 (u.1 rfl)
   have U:=fun hs=>Wd g S h e hs
   skip
   exact⟨(fJ c (b+1)).size-1,c,_,rfl,e.fo,A,by have I:=e.len;have J:=h.len;rw[uF]at I;omega,fun M=>⟨q,z,rfl,U o_⟩,yj (yc [_,_] _ j)⟩
theorem Ue(fb nb m:Nat)(ed:Int)(xs:List Nd)(w:World)(Q:Own (Zl fb nb m ed xs) w)(hm:xs.length=m)(hb:m<=1000001)(P:gf xs)(F:FT)(O:Fo xs F)(a b:Nat)(S:a+1<m)(T:b+1<m) :
 CR ya 197 (Zu fb a b) w (fun r w' => ∃ (f:Nat) (B:Bool),∃ zs F2,r = .tuple (p8 f B)/\f+1<m/\Fo zs F2/\gf zs/\zs.length=m/\fZ (Zl fb nb m ed xs) w w' (Zl fb nb m ed zs)):=by
 refine en Tryz.func197 Tryz.ntmps197 ?_
 have M:=(yp Q).unpack
 have h:=yc [_,_] _ M
 refine fS M 12 ?_
 refine cl IQ (GU fb nb m ed xs w (ye h 0 rfl) (by first|exact hm|omega) hb P F O a b o_ o_) ?_
 rintro _ s ⟨t,j,N,rfl,y,k,l,u,z,A,K⟩
 have d:=(yi h K)
 refine gF d 3 ?_
 cases n:(t:Bool)
 . skip
   subst n
   refine iN d 9 ?_
   refine iC (v:=Zc) (v' := Zp) Tryz.results197 rfl rfl ?_
   exact⟨0,false,j,_,rfl,o_,k,l,u,yj (yc [_,_] _ d)⟩
 . skip
   subst n
   have o:=yc [_,_] _ d
   refine fS d 10 ?_
   refine cl IL (Ke fb nb m ed j s (ye o 0 rfl) (by first|exact hm|omega) hb l N k (a+1) (b+1) o_ o_ o_ o_) ?_
   rintro _ C ⟨rfl,D,E,G,c,x,H,p,e,q,K⟩
   have g:=(yi o K)
   have I:c.length=m:=by have J:=e.len;have L:=p.len;rw[uF]at J;omega
   have U:(fJ c (b+1)).first≠0/\(fJ c (b+1)).first<m:=by have J:=e.fo.rep (.nd x (b+1) .nil,0) s_;have L:=J.qj _ J.2.2.1.first.1;have R:=q.first (b+1) o_;omega
   refine fK g 10 ?_
   refine jj (o' := (b+1)*9+0) (i:=(b:Int)+1) rfl rfl rfl yh jh (o9 (show (b+1)<(c).length from om)) o_ (fQ g 8 ?_)
   refine iC (v:=(Za (((fJ c (b+1)).first:Int)-1))) (v' := Zf) Tryz.results197 rfl rfl ?_
   exact⟨(fJ c (b+1)).first-1,true,c,_,by rw[show (((fJ c (b+1)).first-1:Nat):Int)=((fJ c (b+1)).first:Int)-1 by omega],o_,e.fo,q,by have J:=e.len;have L:=p.len;rw[uF]at J;omega,yj (yc [_,_] _ g)⟩
theorem Ud(fb nb m:Nat)(ed:Int)(xs:List Nd)(w:World)(hO:Own (Zl fb nb m ed xs) w)(hm:xs.length=m)(hb:m<=1000001)(hI:gf xs)(F:FT)(hF:Fo xs F)(a b:Nat)(ha:a+1<m)(aG:b+1<m) :
 CR ya 246 (Zu fb a b) w (fun r w' => ∃ e aD, ∃ zs F2,r = .int .i64 e/\Fo zs F2/\gf zs/\zs.length=m/\fZ (Zl fb nb m ed xs) w w' (Zl fb nb m aD zs)):=by
 refine en Tryz.func246 Tryz.ntmps246 ?_
 have aC:=(yp hO).unpack
 refine fS aC 11 ?_
 refine jL (vs:=(Zo a b)) (cs:=(Zo a b)) rfl rfl yd gr rfl (by simp[Value.cells]) rfl rfl rfl aC (fun J K ai aj q=>cl IJ (HW fb nb m ed K (q.at (i:=1) rfl) hb (xh J) [a,b] (wT q (i:=0) rfl (Ft (m:=m) (P:=[a,b]) (by intro j hj;simp at hj;omega) hb)).any (by intro j hj;simp at hj;omega)) ?_)
 rintro _ L ⟨rfl,M⟩
 have h:=yq q M
 refine fK h 17 ?_
 by_cases ak:((a:Int):Int)=((b:Int):Int)
 . refine fQ h 11 ?_
   refine gq (v:=xx) Tryz.results246 rfl ?_
   have N:=yg [1,2,0] h
   exact⟨_,ed,xs,F,rfl,hF,hI,hm,yj (yc [_,_] _ N)⟩
 . skip
   have O:=yg [1,2,0] h
   have y:=yc [_,_] _ O
   refine fK h 12 ?_
   refine cl IQ (GU fb nb m ed xs L (ye y 0 rfl) (by first|exact hm|omega) hb hI F hF a b o_ o_) ?_
   rintro _ Q ⟨R,s,aA,rfl,S,t,z,U,V,al,T⟩
   have k:=(yi y T)
   refine gF k 2 ?_
   cases A:(R:Bool)
   . skip
     subst A
     have B:=yc [_,_] _ k
     refine fS k 8 ?_
     refine cl OU (Qu fb nb m ed s Q (ye B 0 rfl) (by first|exact hm|omega) hb z aA t (a+1) o_ o_) ?_
     rintro _ W ⟨rfl,l,X,Y,n,Z,T⟩
     have C:=(yi B T)
     have aa:l.length=m:=by have:=n.len;omega
     have ab:gf (kg l (a+1)):=Z.lead o_
     have am:(kg l (a+1)).length=m:=(uF _ _).trans aa
     have D:=yc [_,_] _ C
     refine fK C 7 ?_
     refine cl xE (xF fb nb m ed (kg l (a+1)) W (ye D 0 rfl) (by first|exact hm|omega) hb ab ((.nd X (a+1) .nil,0) :: Y) n.Cy.fo (b+1) o_ o_) ?_
     rintro _ an ⟨l₁,rfl,g,ao,ap,o,ac,T⟩
     have u:=(yi D T)
     have aq:g.length=m:=by have:=o.len;omega
     refine fK u 12 ?_
     refine jj (o' := (a+1)*9+0) (i:=(a:Int)+1) rfl rfl rfl yh jh (o9 (show (a+1)<(g).length from om)) o_ (fK u 1 ?_)
     refine jU (f:=(fun x:Nd=>{ x with up:=(b+1) })) 1 u (fun au ad av=>?_)
     have ae:gf (fN g (a+1) (fun x=>{ x with up:=(b+1) })):=gf.iJ ac om (fun x a b c d e=>⟨a,b,om,d,e⟩)
     refine gJ ad 10 fun aw p=>?_
     refine jj (o' := (b+1)*9+0) (i:=(b:Int)+1) rfl rfl rfl yh jh (o9 (show (b+1)<(fN g (a+1) (fun x=>{ x with up:=(b+1) })).length from om)) o_ (fK p 8 ?_)
     refine jj (o' := (a+1)*9+0) (i:=(a:Int)+1) rfl rfl rfl yh jh (o9 (show (a+1)<(fN g (a+1) (fun x=>{ x with up:=(b+1) })).length from om)) o_ (fK p 2 ?_)
     refine ar (e:=(IntKind.i64.wrap ((fJ (fN g (a+1) (fun x=>{ x with up:=(b+1) })) (b+1)).iP+(fJ (fN g (a+1) (fun x=>{ x with up:=(b+1) })) (a+1)).total))) rfl rfl rfl rfl rfl (jj (o' := (b+1)*9+0) (i:=(b:Int)+1) rfl rfl rfl yh jh (o9 (show (b+1)<(fN g (a+1) (fun x=>{ x with up:=(b+1) })).length from om)) o_ (fK p 1 ?_))
     refine jU (f:=(fun x:Nd=>{ x with iP:=(IntKind.i64.wrap ((fJ (fN g (a+1) (fun x=>{ x with up:=(b+1) })) (b+1)).iP+(fJ (fN g (a+1) (fun x=>{ x with up:=(b+1) })) (a+1)).total)) })) 1 p (fun af E ax=>?_)
     have G:gf (fN (fN g (a+1) (fun x=>{ x with up:=(b+1) })) (b+1) (fun x=>{ x with iP:=(IntKind.i64.wrap ((fJ (fN g (a+1) (fun x=>{ x with up:=(b+1) })) (b+1)).iP+(fJ (fN g (a+1) (fun x=>{ x with up:=(b+1) })) (a+1)).total)) })):=gf.iJ ae om (fun x a b c d e=>⟨a,b,c,d,e⟩)
     have H:=yc [_,_] _ E
     refine fK E 7 ?_
     refine cl lQ (lT fb nb m ed (fN (fN g (a+1) (fun x=>{ x with up:=(b+1) })) (b+1) (fun x=>{ x with iP:=(IntKind.i64.wrap ((fJ (fN g (a+1) (fun x=>{ x with up:=(b+1) })) (b+1)).iP+(fJ (fN g (a+1) (fun x=>{ x with up:=(b+1) })) (a+1)).total)) })) af (ye H 0 rfl) oa hb G (b+1) om) ?_
     rintro _ ay ⟨rfl,T⟩
     have I:=(yi H T)
     have ag:gf (iI (fN (fN g (a+1) (fun x=>{ x with up:=(b+1) })) (b+1) (fun x=>{ x with iP:=(IntKind.i64.wrap ((fJ (fN g (a+1) (fun x=>{ x with up:=(b+1) })) (b+1)).iP+(fJ (fN g (a+1) (fun x=>{ x with up:=(b+1) })) (a+1)).total)) })) (b+1)):=gf.lK G om
     refine fK I 8 ?_
     refine ar (e:=(D9 ed)) rfl rfl rfl rfl rfl (jZ I 11 fun az ah=>?_)
     refine gq (v:=Zc) Tryz.results246 rfl ?_
     have aF:¬ Joined s aA (a+1) (b+1):=fun h9=>by have h8:=S.2 ((V _ _).1 h9);cases h8
     obtain⟨R3,aE⟩:=aaS t n o aF o_ o_ o_ o_
     have aB:=aaT (o.fo.perm (aE.cons _))
     have e9:qQ g (a+1) (b+1)=iI (fN (fN g (a+1) (fun x=>{ x with up:=(b+1) })) (b+1) (fun x=>{ x with iP:=(IntKind.i64.wrap ((fJ (fN g (a+1) (fun x=>{ x with up:=(b+1) })) (b+1)).iP+(fJ (fN g (a+1) (fun x=>{ x with up:=(b+1) })) (a+1)).total)) })) (b+1):=rfl
     exact⟨_,_,iI (fN (fN g (a+1) (fun x=>{ x with up:=(b+1) })) (b+1) (fun x=>{ x with iP:=(IntKind.i64.wrap ((fJ (fN g (a+1) (fun x=>{ x with up:=(b+1) })) (b+1)).iP+(fJ (fN g (a+1) (fun x=>{ x with up:=(b+1) })) (a+1)).total)) })) (b+1),_,rfl,aB.1,ag,by rw[<-e9,aB.2.1];have h7:=o.len;have h8:=n.len;rw[uF]at h7;omega,yj (yc [_,_] _ ah)⟩
   . skip
     subst A
     refine iN k 8 ?_
     refine gq (v:=zK) Tryz.results246 rfl ?_
     exact⟨_,ed,s,_,rfl,t,z,U,yj (yc [_,_] _ k)⟩
theorem T9(fb nb m:Nat)(ed:Int)(xs:List Nd)(w:World)(hO:Own (Zl fb nb m ed xs) w)(hm:xs.length=m)(hb:m<=1000001)(hI:gf xs)(F:FT)(hF:Fo xs F)(a b:Nat)(ha:a+1<m)(ax:b+1<m) :
 CR ya 179 (Zu fb a b) w (fun r w' => ∃ e ap, ∃ zs F2,r = .int .i64 e/\Fo zs F2/\gf zs/\zs.length=m/\fZ (Zl fb nb m ed xs) w w' (Zl fb nb m ap zs)):=by
 refine en Tryz.func179 Tryz.ntmps179 ?_
 have am:=(yp hO).unpack
 refine fS am 11 ?_
 refine jL (vs:=(Zo a b)) (cs:=(Zo a b)) rfl rfl yd gr rfl (by simp[Value.cells]) rfl rfl rfl am (fun G H W X l=>cl IJ (HW fb nb m ed H (l.at (i:=1) rfl) hb (xh G) [a,b] (wT l (i:=0) rfl (Ft (m:=m) (P:=[a,b]) (by intro j hj;simp at hj;omega) hb)).any (by intro j hj;simp at hj;omega)) ?_)
 rintro _ I ⟨rfl,J⟩
 have t:=yq l J
 have K:=yg [1,2,0] t
 have u:=yc [_,_] _ K
 refine fK t 18 ?_
 refine cl Xk (Ua fb nb m ed xs I (ye u 0 rfl) (by first|exact hm|omega) hb hI F hF a b o_ o_) ?_
 rintro _ L ⟨M,y,ao,rfl,n,z,N,O,T⟩
 have h:=(yi u T)
 by_cases Y:(M:Int)=(1:Int)
 . have A:=yc [_,_] _ h
   refine fK h 13 ?_
   refine cl IL (Ke fb nb m ed y L (ye A 0 rfl) (by first|exact hm|omega) hb z ao n (a+1) (b+1) o_ o_ o_ o_) ?_
   rintro _ Z ⟨rfl,aa,ab,ac,g,ad,ae,p,k,Q,T⟩
   have q:=(yi A T)
   have af:g.length=m:=by have h7:=k.len;have h8:=p.len;rw[uF]at h7;omega
   refine fK q 10 ?_
   refine jj (o' := (a+1)*9+0) (i:=(a:Int)+1) rfl rfl rfl yh jh (o9 (show (a+1)<(g).length from om)) o_ (fK q 1 ?_)
   refine jU (f:=(fun x:Nd=>{ x with up:=0 })) 1 q (fun ag s ah=>?_)
   have R:gf (fN g (a+1) (fun x=>{ x with up:=0 })):=gf.iJ Q om (fun x a b c d e=>⟨a,b,om,d,e⟩)
   refine fK s 10 ?_
   refine jj (o' := (b+1)*9+0) (i:=(b:Int)+1) rfl rfl rfl yh jh (o9 (show (b+1)<(fN g (a+1) (fun x=>{ x with up:=0 })).length from om)) o_ (fK s 1 ?_)
   refine jB (o:=(b+1)*9+0) (o' := (b+1)*9+0) (i:=0) rfl rfl rfl yn gr d_ rfl (jU (f:=(fun x:Nd=>{ x with k0:=0 })) 1 s (fun S B ai=>?_))
   have C:gf (fN (fN g (a+1) (fun x=>{ x with up:=0 })) (b+1) (fun x=>{ x with k0:=0 })):=gf.iJ R om (fun x a b c d e=>⟨om,b,c,d,e⟩)
   have D:=yc [_,_] _ B
   refine fK B 7 ?_
   refine cl lQ (lT fb nb m ed (fN (fN g (a+1) (fun x=>{ x with up:=0 })) (b+1) (fun x=>{ x with k0:=0 })) S (ye D 0 rfl) oa hb C (b+1) om) ?_
   rintro _ aj ⟨rfl,T⟩
   have E:=(yi D T)
   have U:gf (iI (fN (fN g (a+1) (fun x=>{ x with up:=0 })) (b+1) (fun x=>{ x with k0:=0 })) (b+1)):=gf.lK C om
   refine fK E 8 ?_
   refine ar (e:=(IntKind.i64.wrap (ed-1))) rfl rfl rfl rfl rfl (jZ E 11 fun ak V=>?_)
   refine gq (v:=Zc) Tryz.results179 rfl ?_
   obtain⟨b9,R9,aq,av⟩:=O o_
   subst aq
   obtain⟨au,aw⟩:=ace n av p k
   have al:=k.fo
   rw[au]at al
   have an:=ag1 al
   have e9:uT g (a+1) (b+1)=iI (fN (fN g (a+1) (fun x=>{ x with up:=0 })) (b+1) (fun x=>{ x with k0:=0 })) (b+1):=rfl
   exact⟨_,_,iI (fN (fN g (a+1) (fun x=>{ x with up:=0 })) (b+1) (fun x=>{ x with k0:=0 })) (b+1),_,rfl,an.1,U,by rw[<-e9,an.2.1];have h7:=k.len;have h8:=p.len;rw[uF]at h7;omega,yj (yc [_,_] _ V)⟩
 . refine fQ h 11 ?_
   refine gq (v:=(.int .i64 5)) Tryz.results179 rfl ?_
   exact⟨_,ed,y,_,rfl,n,z,N,yj (yc [_,_] _ h)⟩
end
section
open Go Go.Sx
theorem aaG(n:Nat)(w:World)(E:n<=65536) :
 CR ya 174 (Z8 n) w (fun r w' => ∃ fb nb,r = .tuple (Zy fb)/\fZ (gj []) w w' (gj (Md fb nb (n+1) (mE n n)))):=by
 refine en Tryz.func174 Tryz.ntmps174 ?_
 have B:=yt w
 refine fS B 10 ?_
 refine cmp rfl rfl rfl (kV o_) (fK B 2 ?_)
 refine cmp rfl rfl rfl (pJ o_) (fK B 10 ?_)
 refine qU (cf:=Nd.cells) (z0:=uI) (m:=n+1) (c:=n+1) rfl (gm o_) (gm o_) yh jh rfl f_ d_ (zk _) o_ o_ B ?_
 intro a f o p g
 have h:St [(w,[])] [blk a 352 ((mE n 0).flatMap Nd.cells)] f:=by rw[abN];exact g
 refine ja (pvs:=[(1,(Zd a (n+1)))]) (v:=.agg #[Zt,(Zd a (n+1)),Zc]) rfl rfl (jq [(1,(p7 a (n+1)))] Lc acA rfl ⟨rfl,rfl,trivial⟩ rfl) (ij h (fun b q s t i=>?_))
 refine tL i 20 fun u j=>?_
 refine lp (α:=Nat) (fun k=>[(4,(Zb b)),(21,(Za n)),(22,(Za k))]) (fun k w1=>St [(w,[])] (Md b a (n+1) (mE n k)) w1/\k<=n) (fun k=>n-k) 0 ⟨rfl,rfl,gm rO,trivial⟩ (⟨j,o_⟩) ?_
 rintro k x l ⟨A,D⟩
 refine fS A 2 ?_
 by_cases y:((k:Int):Int)<((n:Int):Int)
 . have d:=yc [_,_] [] A
   refine fK A 19 ?_
   refine cl lQ (lT b a (n+1) 0 (mE n k) l (ye d 0 rfl) (qn n k) o_ (Q2 o_) (k+1) o_) ?_
   rintro _ z ⟨rfl,C⟩
   rw[abM (show k<n by omega)]at C
   have e:=(yi d C)
   refine fQ e 7 ?_
   refine tN (?_)
   exact again (k+1) ⟨rfl,rfl,gm rO,trivial⟩ (⟨e,o_⟩) (by show (n-(k+1):Nat)<n-k;omega)
 . refine fQ A 18 ?_
   refine iC (v:=(Zb b)) (v' := Zc) Tryz.results174 rfl rfl ?_
   obtain rfl:k=n:=by omega
   exact⟨b,a,rfl,nV (yc [_,_] [] A)⟩
end
section
open Go Go.Sx
def kB(fb nb m:Nat):fU where
 gG:=[fb,nb]
 holds w:=∃ (ed:Int) (xs:List Nd) (F:FT),(xs.length=m/\gf xs/\Fo xs F)/\(Zl fb nb m ed xs).holds w
 loc w w' h hh:=by
  obtain⟨ed,xs,F,a,c⟩:=hh
  exact⟨ed,xs,F,a,(Zl fb nb m ed xs).loc w w' (fun b hb=>h b (by simpa[gj,iU,blk]using hb)) c⟩
theorem wg(fb nb m:Nat)(ed:Int)(xs:List Nd):(Zl fb nb m ed xs).gG=(kB fb nb m).gG:=by simp[gj,iU,blk,kB]
theorem CP{fb nb m:Nat}{w:World}(h:Own (kB fb nb m) w):∃ (ed:Int) (xs:List Nd) (F:FT),xs.length=m/\gf xs/\Fo xs F/\Own (Zl fb nb m ed xs) w:=by
 obtain⟨ed,xs,F,⟨a,c,d⟩,e⟩:=h.holds
 exact⟨ed,xs,F,a,c,d,e,by rw[wg];exact h.nodup,fun b hb=>h.lt b (by rw[wg]at hb;exact hb)⟩
theorem Dg{fb nb m:Nat}{w w' : World}{ed a : Int}{xs zs:List Nd}{F:FT}(h:fZ (Zl fb nb m ed xs) w w' (Zl fb nb m a zs))(h1:zs.length=m)(c:gf zs)(d:Fo zs F):fZ (kB fb nb m) w w' (kB fb nb m) :=
 ⟨⟨a, zs,F,⟨h1,c,d⟩,h.holds⟩,by have:=h.gz;rw[wg]at this;exact this,fun b hb=>by have:=h.place b (by rw[wg];exact hb);rw[wg]at this;exact this,by have:=h.nodup;rw[wg]at this;exact this,fun b hb=>h.lt b (by rw[wg];exact hb)⟩
theorem agO{fb nb m:Nat}{w w' : World}{ed:Int}{xs:List Nd}{F:FT}(h:fZ (gj []) w w' (Zl fb nb m ed xs))(h1:xs.length=m)(a:gf xs)(b:Fo xs F):fZ (gj []) w w' (kB fb nb m) :=
 h.Fh (wg fb nb m ed xs).symm fun c=>⟨ed,xs,F,⟨h1,a,b⟩,c⟩
theorem QB(fb nb m:Nat)(w:World)(i:Own (kB fb nb m) w)(hb:m<=1000001)(a:Nat)(k:a+1<m)(key:Int)(hk:gX .i64 key) :
 CR ya 175 (Zu fb a key) w (fun r w' => r = .int .i64 0/\fZ (kB fb nb m) w w' (kB fb nb m)):=by
 obtain⟨ed,xs,F,b,c,d,j⟩:=CP i
 exact CR.mono (Uh fb nb m ed xs w j b hb c F d a k key hk) fun r w' ⟨e,zs,F2,f,g,h,l⟩=>⟨e,Dg l h g f⟩
theorem aaW(fb nb m:Nat)(w:World)(k:Own (kB fb nb m) w)(hb:m<=1000001)(a b:Nat)(n:a+1<m)(o:b+1<m) :
 CR ya 197 (Zu fb a b) w (fun r w' => ∃ (f:Nat) (B:Bool),r = .tuple (p8 f B)/\f+1<m/\fZ (kB fb nb m) w w' (kB fb nb m)):=by
 obtain⟨ed,xs,F,c,d,g,l⟩:=CP k
 exact CR.mono (Ue fb nb m ed xs w l c hb d F g a b n o) fun r w' ⟨f,B,zs,F2,e,p,h,i,j,q⟩=>⟨f,B,e,p,Dg q j i h⟩
theorem Qy(fb nb m:Nat)(w:World)(j:Own (kB fb nb m) w)(hb:m<=1000001)(a b:Nat)(l:a+1<m)(n:b+1<m) :
 CR ya 246 (Zu fb a b) w (fun r w' => ∃ e:Int,r = .int .i64 e/\fZ (kB fb nb m) w w' (kB fb nb m)):=by
 obtain⟨ed,xs,F,c,d,f,k⟩:=CP j
 exact CR.mono (Ud fb nb m ed xs w k c hb d F f a b l n) fun r w' ⟨e,q, zs,F2,o,g,h,i,p⟩=>⟨e,o,Dg p i h g⟩
theorem Qp(fb nb m:Nat)(w:World)(j:Own (kB fb nb m) w)(hb:m<=1000001)(a b:Nat)(l:a+1<m)(n:b+1<m) :
 CR ya 179 (Zu fb a b) w (fun r w' => ∃ e:Int,r = .int .i64 e/\fZ (kB fb nb m) w w' (kB fb nb m)):=by
 obtain⟨ed,xs,F,c,d,f,k⟩:=CP j
 exact CR.mono (T9 fb nb m ed xs w k c hb d F f a b l n) fun r w' ⟨e,q, zs,F2,o,g,h,i,p⟩=>⟨e,o,Dg p i h g⟩
end
section
open Go Go.Sx
def QS.R(hb n:Nat)(s:QS):fU:=j7 (s.ok n) (gj [blk hb 346 (pG hb n s.iv s.pv),fL gE.cells s.iv 224 2 s.fP,fL ir s.pv 361 1 s.ps,gK fR 363 64 s.ps s.pl])
def QS.SR(sb hb n:Nat)(s:QS):fU:=gj [blk sb 298 (xA n hb),(QS.R hb n s)]
abbrev vw(a:WW)(b:Nat):=(QS.SR a.sb a.hb b a.q:fU)
abbrev DV a (b c d:Nat) (e:Int) (f g:Nat) h:=(gj [a,blk b 110 (Zh c),blk d 2 (Ze e),blk c 298 (xA f g),QS.R g f h]:fU)
abbrev zT(a b c:Nat)(d:Int)(e:Nat)(f:Int)(g h:Nat) i:=(gj [blk a 110 (Zh b),blk c 3 (Ze d),blk e 2 (Ze f),blk b 298 (xA g h),QS.R h g i]:fU)
theorem RY(n:Nat)(w:World)(a:n<=65536) :
 CR ya 173 (Z8 n) w (fun r w' => ∃ hb s,r = .tuple (Zy hb)/\s.fP=[]/\fZ (gj []) w w' (QS.R hb n s)) :=
 CR.mono (ZH n w a) fun r w' ⟨hb,pv,b,c⟩=>⟨hb,⟨.slice none 0 0,pv,List.replicate ((n+63) / 64) none,[],List.replicate (64*((n+63) / 64)) 0⟩,b,rfl,c.Be ⟨Hp.new rfl,js.new a rfl,Ord.nil⟩⟩
theorem acW(hb n:Nat)(s:QS)(w:World)(a:Own (QS.R hb n s) w)(i:Nat)(hi:i<n)(c:∀ e∈s.fP,e.ix≠i) :
 CR ya 241 (Zm hb i) w (fun r w' => r = .tuple G7/\fZ (QS.R hb n s) w w' (QS.R hb n s)) :=
 CR.mono (ZG hb n s.iv s.pv s.ps s.fP s.pl w a.un a.fact.hp a.fact.gN i hi (a.fact.free hi c)) fun r w' ⟨b,d⟩=>⟨b,d.pW a.fact⟩
theorem acZ(hb n:Nat)(s:QS)(w:World)(f:Own (QS.R hb n s) w)(i:Nat)(hi:i<n)(h:∀ e∈s.fP,e.ix≠i)(key:Int)(hk:gX .i64 key) :
 CR ya 195 (Zu hb i key) w (fun r w' => ∃ s2,r = .int .i64 0/\(∀ e,e∈s2.fP↔e∈s.fP\/e=⟨i,key⟩)/\fZ (QS.R hb n s) w w' (QS.R hb n s2)) :=
 CR.mono (PS hb n s.iv s.pv s.ps s.fP s.pl w f.un f.fact.hp f.fact.gN f.fact.ord i hi (f.fact.free hi h) key hk) fun r w' ⟨g,k,l,ys,m,a,b,c,d,_,_,j⟩=>⟨⟨k,s.pv,l,ys,m⟩,g,d,j.pW ⟨a,b,c⟩⟩
theorem ac0(hb n:Nat)(s:QS)(w:World)(e:Own (QS.R hb n s) w)(i:Nat)(hi:i<n)(key:Int)(hk:gX .i64 key) :
 CR ya 195 (Zu hb i key) w (fun r w' => ∃ z s2,r = .int .i64 z/\fZ (QS.R hb n s) w w' (QS.R hb n s2)):=by
 rcases yY (fJ s.pl i)with h|h
 . exact CR.mono (PS hb n s.iv s.pv s.ps s.fP s.pl w e.un e.fact.hp e.fact.gN e.fact.ord i hi h key hk) fun r w' ⟨f,j,k,ys,l,a,b,c,d,_,_,g⟩=>⟨0,⟨j,s.pv,k,ys,l⟩,f,g.pW ⟨a,b,c⟩⟩
 . exact CR.mono (ZO hb n s.iv s.pv s.ps s.fP s.pl w e.un e.fact.hp e.fact.gN i hi (fJ s.pl i-1) o_ key) fun r w' ⟨f,g⟩=>⟨6,s,f,g.pW e.fact⟩
theorem RW(hb n:Nat)(s:QS)(w:World)(a:Own (QS.R hb n s) w)(b:s.fP.length=0) :
 CR ya 177 (Zi hb) w (fun r w' => r = .tuple BE/\fZ (QS.R hb n s) w w' (QS.R hb n s)) :=
 CR.mono (PN hb n s.iv s.pv s.ps s.fP s.pl w a.un a.fact.hp a.fact.gN b) fun r w' ⟨c,d⟩=>⟨c,d.pW a.fact⟩
theorem RX(hb n:Nat)(s:QS)(w:World)(a:Own (QS.R hb n s) w)(b:0<s.fP.length) :
 CR ya 177 (Zi hb) w (fun r w' => r = .tuple (BF ((fJ s.fP 0).ix:Int) ((fJ s.fP 0).key))/\fZ (QS.R hb n s) w w' (QS.R hb n s)) :=
 CR.mono (PO hb n s.iv s.pv s.ps s.fP s.pl w a.un a.fact.hp a.fact.gN b) fun r w' ⟨c,d⟩=>⟨c,d.pW a.fact⟩
theorem acX(hb n:Nat)(s:QS)(w:World)(a:Own (QS.R hb n s) w)(b:s.fP.length=0) :
 CR ya 115 (Zi hb) w (fun r w' => r = .tuple BE/\fZ (QS.R hb n s) w w' (QS.R hb n s)) :=
 CR.mono (ZM hb n s.iv s.pv s.ps s.fP s.pl w a.un a.fact.hp a.fact.gN b) fun r w' ⟨c,d⟩=>⟨c,d.pW a.fact⟩
theorem RZ(hb n:Nat)(s:QS)(w:World)(g:Own (QS.R hb n s) w)(h:0<s.fP.length) :
 CR ya 115 (Zi hb) w (fun r w' => ∃ s2,r = .tuple (BF ((fJ s.fP 0).ix:Int) ((fJ s.fP 0).key))/\((∀ e,e∈s2.fP↔e∈s.fP/\e.ix≠(fJ s.fP 0).ix)/\s2.fP.length+1=s.fP.length)/\fZ (QS.R hb n s) w w' (QS.R hb n s2)) :=
 CR.mono (ZN hb n s.iv s.pv s.ps s.fP s.pl w g.un g.fact.hp g.fact.gN g.fact.ord h) fun r w' ⟨i,k,l,ys,m,a,b,c,d,_,f,j⟩=>⟨⟨k,s.pv,l,ys,m⟩,i,⟨d,f⟩,j.pW ⟨a,b,c⟩⟩
theorem acV(hb n:Nat)(s:QS)(w:World)(a:Own (QS.R hb n s) w) :
 CR ya 189 (Zi hb) w (fun r w' => ∃ b s2,r = .pointer (some ⟨b,0,none⟩)/\s2.fP=s.fP/\fZ (QS.R hb n s) w w' (gj [QS.R hb n s,QS.R b n s2])) :=
 CR.mono (ZD hb n s.iv s.pv s.ps s.fP s.pl w a.un a.fact.hp a.fact.gN) fun r w' ⟨b,c,d,e,g,i,_,j⟩=>⟨b,⟨c,d,e,s.fP,s.pl⟩,g,rfl,(fZ.ER (A:=[blk hb 346 [(.pointer (some ⟨hb,0,none⟩)),(.int .i64 n),s.iv,s.pv],fL gE.cells s.iv 224 2 s.fP,fL ir s.pv 361 1 s.ps,gK fR 363 64 s.ps s.pl]) (B:=[blk b 346 [(.pointer (some ⟨b,0,none⟩)),(.int .i64 n),c,d],fL gE.cells c 224 2 s.fP,fL ir d 361 1 e,gK fR 363 64 e s.pl]) j).Gd.Fh rfl (fun h=>by
  intro Q f
  simp only[zb,nI,or_false]at f
  rcases f with rfl|rfl
  . exact⟨a.fact,h _ s_⟩
  . exact⟨⟨a.fact.hp,i,a.fact.ord⟩,h _ s_⟩)⟩
end
section
open Go Go.Sx
theorem C3(sb hb n:Nat)(s:QS)(w:World)(d:Own (QS.SR sb hb n s) w) :
 CR ya 112 (Zi sb) w (fun r w' => r = .bool true/\fZ (QS.SR sb hb n s) w w' (QS.SR sb hb n s)):=by
 refine en Tryz.func112 Tryz.ntmps112 ?_
 have b:=Own.of d
 have e:=(y0 b (i:=1) rfl:s.ok n)
 refine fS b 8 ?_
 refine lS (a:=some ⟨sb,0,none⟩) (c:=true) rfl rfl rfl Tryz.underlying110 rfl (fK b 5 ?_)
 refine lS (a:=some ⟨hb,0,none⟩) (c:=true) rfl rfl rfl Gx rfl (fQ b 5 ?_)
 refine gq (v:=Zf) Tryz.results112 rfl ?_
 exact⟨rfl,yj (yc [_,_] _ b)⟩
theorem aed(n:Nat)(w:World)(l:n<=65536) :
 CR ya 109 (Z8 n) w (fun r w' => ∃ sb hb s,r = .tuple (Zy sb)/\s.fP=[]/\fZ (gj []) w w' (QS.SR sb hb n s)):=by
 refine en Tryz.func109 Tryz.ntmps109 ?_
 have k:=yt w
 refine fS k 9 ?_
 refine cl Ow (RY n w l) ?_
 rintro _ g ⟨a,e,rfl,f,m⟩
 have b:=(jJ k m)
 refine fK b 21 ?_
 refine ja (pvs:=[(0,(Za n)),(1,(Zb a))]) (v:=.agg (BI n a)) rfl rfl (jq [(0,(Ze n)),(1,(Zh a))] K9 RH rfl ⟨rfl,rfl,rfl,rfl,trivial⟩ rfl) (ij b (fun c h i j d=>?_))
 refine fQ d 5 ?_
 refine iC (v:=(Zb c)) (v' := Zc) Tryz.results109 rfl rfl ?_
 exact⟨c,a,e,rfl,f,nV (yc [_,_] _ d)⟩
theorem aee(sb hb n:Nat)(s:QS)(w:World)(y:Own (QS.SR sb hb n s) w)(x:s.fP.length=0) :
 CR ya 123 (Zi sb) w (fun r w' => r = .tuple BE/\fZ (QS.SR sb hb n s) w w' (QS.SR sb hb n s)):=by
 refine en Tryz.func123 Tryz.ntmps123 ?_
 have t:=Own.of y
 have z:=(y0 t (i:=1) rfl:s.ok n)
 refine fS t 2 ?_
 refine iH t (fun k e l m b=>?_)
 have f:=yg [1,2,0] b
 have c:=yc [_,_] _ f
 refine fK b 7 ?_
 refine cl B9 (C3 sb hb n s e (ye c 0 rfl)) ?_
 rintro _ g ⟨rfl,u⟩
 have h:=ym 0 c u
 have a:=yy h
 refine fK a 12 ?_
 refine cl Af (RW hb n s g (ye a 1 rfl) x) ?_
 rintro _ p ⟨rfl,u⟩
 have j:=ym 1 a u
 refine jZ j 7 fun q d=>?_
 refine nO (v:=Hz) (v' := Zp) Tryz.results123 (nE (cs:=vt) rfl wR rfl pV rfl (lM d (i:=2) (o:=0) (vs:=vt) rfl rfl)) (oC rfl) ?_
 exact⟨rfl,yj (yc [_,_] _ d)⟩
theorem aef(sb hb n:Nat)(s:QS)(w:World)(y:Own (QS.SR sb hb n s) w)(x:0<s.fP.length) :
 CR ya 123 (Zi sb) w (fun r w' => r = .tuple (BF ((fJ s.fP 0).ix:Int) ((fJ s.fP 0).key))/\fZ (QS.SR sb hb n s) w w' (QS.SR sb hb n s)):=by
 refine en Tryz.func123 Tryz.ntmps123 ?_
 have t:=Own.of y
 have z:=(y0 t (i:=1) rfl:s.ok n)
 refine fS t 2 ?_
 refine iH t (fun k e l m b=>?_)
 have f:=yg [1,2,0] b
 have c:=yc [_,_] _ f
 refine fK b 7 ?_
 refine cl B9 (C3 sb hb n s e (ye c 0 rfl)) ?_
 rintro _ g ⟨rfl,u⟩
 have h:=ym 0 c u
 have a:=yy h
 refine fK a 12 ?_
 refine cl Af (RX hb n s g (ye a 1 rfl) x) ?_
 rintro _ p ⟨rfl,u⟩
 have j:=ym 1 a u
 refine jZ j 7 fun q d=>?_
 refine nO (v:=(BQ ((fJ s.fP 0).ix:Int) ((fJ s.fP 0).key))) (v' := Zf) Tryz.results123 (nE (cs:=(Zo ((fJ s.fP 0).ix:Int) ((fJ s.fP 0).key))) rfl wR rfl pV rfl (lM d (i:=2) (o:=0) (vs:=(Zo ((fJ s.fP 0).ix:Int) ((fJ s.fP 0).key))) rfl rfl)) (oC rfl) ?_
 exact⟨rfl,yj (yc [_,_] _ d)⟩
theorem ad1(b1 b2 b3 sb hb n:Nat)(s:QS)(w:World)(i:Nat)(hi:i<n)(j:∀ e∈s.fP,e.ix≠i)(key:Int)(hk:gX .i64 key)(h:Own (zT b1 sb b2 i b3 key n hb s) w) :
 CR ya 193 #[Zp,(Zb b1),(Zb b2),(Zb b3)] w (fun r w' => ∃ s2,r = .int .i64 0/\(∀ e,e∈s2.fP↔e∈s.fP\/e=⟨i,key⟩)/\fZ (zT b1 sb b2 i b3 key n hb s) w w' (zT b1 sb b2 i b3 key n hb s2)):=by
 refine en Tryz.func193 Tryz.ntmps193 ?_
 have k:=Own.of h
 refine oD k 22 fun c a=>?_
 refine cl OB (acZ hb n s c (ye a 4 rfl) i hi j key hk) ?_
 rintro _ g ⟨d,rfl,f,l⟩
 have b:=ym 4 a l
 refine fQ b 4 ?_
 refine gq (v:=Zc) Tryz.results193 rfl ?_
 exact⟨d,rfl,f,yj (yc [_,_,_,_,_] _ b)⟩
theorem aeH(b1 b2 b3 sb hb n:Nat)(s:QS)(w:World)(i:Nat)(hi:i<n)(u:∀ e∈s.fP,e.ix≠i)(key:Int)(hk:gX .i64 key)(y:Own (zT b1 sb b2 i b3 key n hb s) w) :
 CR ya 192 #[(Zb sb),(Za i),(.func (.func 193) #[] (Mj b1 b2 b3))] w (fun r w' => ∃ s2,r = .int .i64 0/\(∀ e,e∈s2.fP↔e∈s.fP\/e=⟨i,key⟩)/\fZ (zT b1 sb b2 i b3 key n hb s) w w' (zT b1 sb b2 i b3 key n hb s2)):=by
 refine en Tryz.func192 Tryz.ntmps192 ?_
 have x:=Own.of y
 have g:=yg [3,4,0,1,2] x
 have b:=yc [_,_] _ g
 refine fS x 9 ?_
 refine cl B9 (C3 sb hb n s w (ye b 0 rfl)) ?_
 rintro _ h ⟨rfl,t⟩
 have j:=ym 0 b t
 have a:=yy j
 refine fK a 10 ?_
 refine cmp rfl rfl rfl (kV o_) (fK a 6 ?_)
 refine cmp rfl rfl rfl (oh o_) (fK a 13 ?_)
 refine cl Xo (acW hb n s h (ye a 1 rfl) i hi u) ?_
 rintro _ k ⟨rfl,t⟩
 have c:=ym 1 a t
 have l:=yg [2,3,4,0,1] c
 have d:=yc [_,_,_,_,_] _ l
 refine fK c 11 ?_
 refine qg (fi:=[]) (ca:=(vF b1 b2 b3)) rfl rfl rfl Xc (ad1 b1 b2 b3 sb hb n s k i hi u key hk (ye d 0 rfl)) ?_
 rintro _ q ⟨m,rfl,o,t⟩
 have p:=ym 0 d t
 have f:=yy p
 refine fQ f 4 ?_
 refine gq (v:=Zc) Tryz.results192 rfl ?_
 exact⟨m,rfl,o,yj (yc [_,_,_,_,_] _ f)⟩
theorem aev(sb hb n:Nat)(s:QS)(w:World)(F:Own (QS.SR sb hb n s) w)(i:Nat)(hi:i<n)(G:∀ e∈s.fP,e.ix≠i)(key:Int)(hk:gX .i64 key) :
 CR ya 129 (Zu sb i key) w (fun r w' => ∃ s2,r = .int .i64 0/\(∀ e,e∈s2.fP↔e∈s.fP\/e=⟨i,key⟩)/\fZ (QS.SR sb hb n s) w w' (QS.SR sb hb n s2)):=by
 refine en Tryz.func129 Tryz.ntmps129 ?_
 have E:=Own.of F
 have I:=(y0 E (i:=1) rfl:s.ok n)
 refine fS E 2 ?_
 refine ij E (fun a t u x h=>?_)
 refine ij h (fun b y z A j=>?_)
 refine ij j (fun c k B C d=>?_)
 refine fK d 7 ?_
 refine mD (vf:=[]) (vc:=(vF a b c)) rfl rfl rfl ?_
 have l:=yg [2,1,0,3,4] d
 have f:=yc [_,_,_,_,_] _ l
 refine cl Xb (aeH a b c sb hb n s k i hi G key hk (ye f 0 rfl)) ?_
 rintro _ D ⟨m,rfl,o,H⟩
 have p:=ym 0 f H
 have g:=yy p
 refine fQ g 4 ?_
 refine gq (v:=Zc) Tryz.results129 rfl ?_
 have q:=yg [3,4,0,1,2] g
 exact⟨m,rfl,o,yj (yc [_,_] _ q)⟩
end
section
open Go Go.Sx
theorem Wn(sb:Nat)(now:Int)(w:World) :
 CR ya 113 (Zm sb now) w (fun r w' => ∃ m tb,r = .func (.func 176) #[] (BS m tb)/\fZ (gj []) w w' (gj [blk m 110 (Zh sb),blk tb 2 (Ze now)])):=by
 refine en Tryz.func113 Tryz.ntmps113 ?_
 have l:=yt w
 refine fS l 2 ?_
 refine ij l (fun a f g h d=>?_)
 refine ij d (fun b i j k c=>?_)
 refine fK c 5 ?_
 refine mD (vf:=[]) (vc:=(Z5 a b)) rfl rfl rfl (fQ c 4 ?_)
 refine gq (v:=(.func (.func 176) #[] (BS a b))) Tryz.results113 rfl ?_
 have e:=yg [1,0] c
 exact⟨a,b,rfl,nV (yc [_,_] _ e)⟩
theorem Wm{γ:Type}(T:γ->fU)(F:γ->List Nat)(z0:γ)(l X tb sb hb n:Nat)(s:QS)(now:Int)(w:World)(hy:∀ (z:γ) (i:Nat) (bs:List (World×List Nat)) (L:List fU) (w:World),i<n->(F z).length<=65536->St bs (T z :: L) w->YR ya l (Ze i) w (fun v w' => v = .bool true/\∃ z2,F z2=F z++[i]/\St bs (T z2 :: L) w'))(ai:(F z0).length=0)(hn:n<=65536)(hO:Own (DV (T z0) X sb tb now n hb s) w) :
 CR ya 176 (Ml (.func (.yield l) #[] #[]) X tb) w (fun r w' => ∃ z s2 ds,r = .tuple #[]/\F z=F z0++ds/\qE n s s2 ds now/\fZ (DV (T z0) X sb tb now n hb s) w w' (DV (T z) X sb tb now n hb s2)):=by
 refine en Tryz.func176 Tryz.ntmps176 ?_
 have af:=Own.of hO
 have ae:=(y0 af (i:=4) rfl:s.ok n)
 refine qV af 1 ?_
 refine lp (α:=γ×QS) (fun(z,t)=>[(0,(.func (.yield l) #[] #[])),(1,(Zb X)),(2,(Zb tb))]) (fun(z,t) w1=>St [(w,(DV (T z0) X sb tb now n hb s).gG)] [(T z),blk X 110 (Zh sb),blk tb 2 (Ze now),blk sb 298 (xA n hb),(QS.R hb n t)] w1/\∃ ds,uc s.fP t.fP ds now/\F z=F z0++ds) (fun(z,t)=>t.fP.length) (z0,s) ⟨rfl,rfl,rfl,trivial⟩ (⟨af,[],uc.start _ _,by rw[qA]⟩) ?_
 rintro⟨z,t⟩ D c ⟨Y,ds,hI,aa⟩
 have ad:=(y0 Y (i:=4) rfl:t.ok n)
 obtain⟨k,E⟩:∃ q,yY t.fP.length=q:=⟨_,rfl⟩
 refine fS Y 7 ?_
 rcases k with W|W
 . skip
   refine cl Af (RW hb n t c (ye Y 4 rfl) W) ?_
   rintro _ G ⟨rfl,Z⟩
   have d:=ym 4 Y Z
   refine fK d 3 ?_
   refine iH d (fun H I J K m=>?_)
   refine jZ m 23 fun M o=>?_
   refine yC Tryz.results176 ?_
   have p:=yg [1,2,3,4,5,0] o
   have ab:=hI.fin ae ad (Or.inl W)
   exact⟨z,t,ds,rfl,aa,ab,yj (yc [_,_,_,_,_] _ p)⟩
 . skip
   refine cl Af (RX hb n t c (ye Y 4 rfl) W) ?_
   rintro _ N ⟨rfl,Z⟩
   have e:=ym 4 Y Z
   refine fK e 3 ?_
   refine iH e (fun O P Q S u=>?_)
   refine gJ u 13 fun x a=>?_
   by_cases f:((fJ t.fP 0).key:Int)>(now:Int)
   . have ac:now<(fJ t.fP 0).key:=by have h7:=@f;omega
     refine fQ a 10 ?_
     refine yC Tryz.results176 ?_
     have y:=yg [1,2,3,4,5,0] a
     have ab:=hI.fin ae ad (Or.inr ac)
     exact⟨z,t,ds,rfl,aa,ab,yj (yc [_,_,_,_,_] _ y)⟩
   . have ac:(fJ t.fP 0).key<=now:=by have h7:=@f;omega
     refine fK a 13 ?_
     refine cl Og (RZ hb n t x (ye a 5 rfl) W) ?_
     rintro _ U ⟨g,rfl,b,Z⟩
     have h:=ym 5 a Z
     have A:=yg [1,2,3,4,5,0] h
     have ah:=ad.lt (qS.2 ⟨0,W,rfl⟩)
     have ag:(F z).length<=65536:=by have h7:=hI.len;have h8:=ae.hp.len;rw[aa,zq,ai];omega
     refine fK h 7 ?_
     refine yl (vl:=(Ze ((fJ t.fP 0).ix:Int))) rfl rfl rfl (hy z (fJ t.fP 0).ix _ _ _ ah ag A) ?_
     rintro _ V ⟨rfl,B,aj,j⟩
     refine fQ j 6 ?_
     refine tN (?_)
     have C:=yg [0,1,2,3,4] j
     exact again (B,g) ⟨rfl,rfl,rfl,trivial⟩ (⟨C,(ds++[(fJ t.fP 0).ix]),hI.step W ac b.1 b.2,by rw[aj,aa,mL]⟩) (by have h7:=b.2;show g.fP.length<t.fP.length;omega)
theorem abF(ds:List Nat)(i:Nat):gw (ds++[i])=gw ds++[(i:Int)]:=by simp[gw]
theorem adY(sb hb n:Nat)(s:QS)(w:World)(hO:Own (QS.SR sb hb n s) w)(now:Int)(hn:n<=65536) :
 CR ya 63 (Zm sb now) w (fun r w' => ∃ v ds t,r=v/\qE n s t ds now/\fZ (QS.SR sb hb n s) w w' (gj [(QS.SR sb hb n t),ig .i64 v 3 (gw ds)])):=by
 refine Al (vs:=(sI sb now)) Tryz.func63 rfl Tryz.ntmps63 rfl ?_
 have aa:=Own.of hO
 have aq:=(y0 aa (i:=1) rfl:s.ok n)
 have f:=yc [_,_] _ aa
 refine fS aa 9 ?_
 refine cl B9 (C3 sb hb n s w (ye f 0 rfl)) ?_
 rintro _ M ⟨rfl,ht⟩
 have u:=ym 0 f ht
 have g:=yy u
 refine fK g 8 ?_
 refine iH g (fun a x N O h=>?_)
 refine fK h 7 ?_
 refine cl Wx (Wn sb now x) ?_
 rintro _ y ⟨b,c,rfl,ht⟩
 have j:=yy (jJ h ht)
 have A:St _ [ig .i64 Zg 3 ([]),blk b 110 (Zh sb),blk c 2 (Ze now),blk a 35 nq,blk sb 298 (xA n hb),(QS.R hb n s)] y:=oU j 3 1
 have B:=yg [3,0,1,2,4,5] A
 have C:=B
 have D:=C
 refine gF j 3 ?_
 refine rf (α:=Value×List Nat×QS) (ps:=[13]) (fi:=[]) (ca:=(Z5 b c)) (fun(v,ds,t)=>[blk a 35 [v],ig .i64 v 3 (gw ds),blk b 110 (Zh sb),blk c 2 (Ze now),blk sb 298 (xA n hb),(QS.R hb n t)]) (fun(v,ds,t)=>qE n s t ds now) D rfl W3 ?_ ?_
 . intro fn dd l wl rc T an
   have E:=yg [0,2,3,4,5,6,7,1] an
   have ah:=yc [iR l rc,blk a 35 nq,ig .i64 Zg 3 (gw ([]))] [blk b 110 (Zh sb),blk c 2 (Ze now),blk sb 298 (xA n hb),(QS.R hb n s),jW dd (some [])] E
   have ac:rc.state = .ready:=by rw[T]
   have aj:rc.pending=none:=by rw[T]
   have ak:∀ (z:Value×List Nat) (i:Nat) (bs:List (World×List Nat)) (L:List fU) (w:World),i<n->((Prod.snd:Value×List Nat->List Nat) z).length<=65536->St bs ((fun((v,ds):Value×List Nat)=>gj [iR l rc,blk a 35 [v],ig .i64 v 3 (gw ds)]) z :: L) w->YR ya l (Ze i) w (fun v w' => v = .bool true/\∃ z2,(Prod.snd:Value×List Nat->List Nat) z2=(Prod.snd:Value×List Nat->List Nat) z++[i]/\St bs ((fun((v,ds):Value×List Nat)=>gj [iR l rc,blk a 35 [v],ig .i64 v 3 (gw ds)]) z2 :: L) w'):=by
    intro z i bs LT wr hi ap F
    have F:=F.unpack
    refine yD (vl:=(Ze i)) 0 T F rfl rfl rfl (iN F 3 ?_)
    refine tN (?_)
    refine Aa 0 F rfl ac rfl (fun P m=>fS m 4 ?_)
    refine jL (vs:=(Ze i)) (cs:=(Ze i)) rfl rfl yd gr rfl (by simp[Value.cells]) rfl rfl rfl m (fun G Q S U o=>vI (k:=.i64) (ys:=gw z.2) (zs:=[(i:Int)]) (LL:=fun d=>(ig .i64 (Z3 G) 3 ([(i:Int)]) :: iR l { rc with state:=.busy } :: blk a 35 [z.1] :: ig .i64 d 3 ((gw z.2)++([(i:Int)])) :: LT)) 3 rfl rfl rfl yd gr rfl o rfl (kO o (i:=0) rfl) (by simp only[gw,zo,ze,zh,maxLen];first|omega|skip) (by simp only[gw,zo,ze,zh,maxLen];first|omega|skip) f_ ?_)
    intro d V H W
    have e:=St.sub (L' := (iR l { rc with state:=.busy } :: blk a 35 [z.1] :: ig .i64 d 3 ((gw z.2)++([(i:Int)])) :: LT)) H (List.Sublist.cons _ (List.Sublist.refl _))
    refine jM 1 e (fun X p=>?_) (hvs:=(cells_one (yu e (i:=2) rfl))) (h1:=(ia (yu e (i:=2) rfl) kT))
    refine fQ p 2 ?_
    refine vR 0 p rfl ac aj rfl ?_
    intro Y I
    have ad:=I
    rw[<-abF]at ad
    exact⟨_,rfl,rfl,(d,z.2++[i]),rfl,yc [_,_,_] _ ad⟩
   have ab:=yc [_,_,_,_,_] _ ah
   refine CR.mono (Wm (fun((v,ds):Value×List Nat)=>gj [iR l rc,blk a 35 [v],ig .i64 v 3 (gw ds)]) Prod.snd (.slice none 0 0,[]) l b c sb hb n s now wl ak rfl hn (ye ab 0 rfl)) ?_
   rintro _ w9 ⟨z,t,ds,-,ai,ae,ao⟩
   have am:=(yi ab ao).unpack
   have J:=yg [0,7,1,2,3,4,5,6] am
   exact⟨(z.1,z.2,t),by rw[show z.2=ds by simpa using ai];exact ae,J⟩
 . rintro⟨v,ds,t⟩ dd Z hC q
   refine rS tt none q 9 ?_
   refine xP 0 q rfl rfl ?_
   intro w8 al
   have K:=yg [5,6,2,0,1,3,4] al
   have ag:=yc [_,_] _ K
   have af:St _ (gj [(QS.SR sb hb n t),ig .i64 v 3 (gw ds)] :: _) _:=yc [_,_] _ ag
   have hT:fZ (QS.SR sb hb n s) w _ (gj [(QS.SR sb hb n t),ig .i64 v 3 (gw ds)]):=yj af
   exact⟨_,results_tmp Tryz.results63 _ _ _,_,rfl,by rw[qi];exact⟨v,ds,t,rfl,hC,hT⟩⟩
theorem adV(sb hb n:Nat)(s:QS)(w:World)(C:Own (QS.SR sb hb n s) w) :
 CR ya 125 (Zi sb) w (fun r w' => ∃ z D s2,r = .pointer (some ⟨z,0,none⟩)/\s2.fP=s.fP/\fZ (QS.SR sb hb n s) w w' (gj [(QS.SR sb hb n s),(QS.SR z D n s2)])):=by
 refine en Tryz.func125 Tryz.ntmps125 ?_
 have x:=Own.of C
 have F:=(y0 x (i:=1) rfl:s.ok n)
 have b:=yc [_,_] _ x
 refine fS x 9 ?_
 refine cl B9 (C3 sb hb n s w (ye b 0 rfl)) ?_
 rintro _ m ⟨rfl,y⟩
 have g:=ym 0 b y
 have c:=yy g
 refine gF c 7 ?_
 refine kY mixed [([0,1,2,3,4,5,6,7,8],[3])] [9,10,11] c (fun h a=>jO ?_)
 refine fK a 8 ?_
 refine cl Xa (acV hb n s h (ye a 1 rfl)) ?_
 rintro _ o ⟨u,E,rfl,j,y⟩
 have k:=yg [1,0] a
 have d:=yy (ym 0 k y)
 refine fQ d 1 ?_
 refine kJ (kZ ?_)
 refine ja (pvs:=[(0,(Za n)),(1,(Zb u))]) (v:=.agg (BI n u)) rfl rfl (jq [(0,(Ze n)),(1,(Zh u))] K9 RH rfl ⟨rfl,rfl,rfl,rfl,trivial⟩ rfl) (ij d (fun e p q t f=>?_))
 refine fQ f 4 ?_
 refine gq (v:=(Zb e)) Tryz.results125 rfl ?_
 have l:=yg [3,1,0,2] f
 exact⟨e,u,E,rfl,j,(fZ.ER (A:=[_,_]) (B:=[_,_]) (yj (yc [_,_,_,_] _ l)))⟩
end
section
open Go Go.Sx
def GW.R(fO fM ob:Nat)(s:GW):fU:=j7 (s.ok fO fM) (gj [blk ob 232 (zP fO fM s (some s.mb)),(kB s.fb s.nb (fM+fO+1)),(QS.R s.hb fM s.q),gM s.mb .i64 Ed.enc s.m])
abbrev vu(a b:Nat)(c:WW):=(GW.R a b c.ob c.g:fU)
abbrev MD(a:Nat)(b c:Int)(d:Lv)(e:Int)(f g:Nat)(h:Int)(i j:Nat)(k:Int)(l:WW) m n:=([blk a 59 [.int .i64 b,.int .u64 c,.int .u64 d.u,.int .u64 d.v,.int .i64 d.wt,.int .i64 d.t,.int .i64 e],blk f 57 (Zz d),blk g 113 (tq h i j k l),blk l.cb 221 (Zo h l.now),j7 m (fW.R j i l.ub n),QS.SR l.sb l.hb i l.q,GW.R j i l.ob l.g]:List fU)
theorem I5(fO fM ob:Nat)(s:GW)(w:World)(d:Own (GW.R fO fM ob s) w) :
 CR ya 114 (Zi ob) w (fun r w' => r = .bool true/\fZ (GW.R fO fM ob s) w w' (GW.R fO fM ob s)):=by
 refine en Tryz.func114 Tryz.ntmps114 ?_
 have b:=Own.of d.un
 have e:s.ok fO fM:=d.fact
 refine fS b 8 ?_
 refine lS (a:=some ⟨ob,0,none⟩) (c:=true) rfl rfl rfl Tryz.underlying111 rfl (fK b 5 ?_)
 refine Q0 (a:=some s.mb) (c:=true) rfl rfl rfl r6 rfl (fQ b 5 ?_)
 refine gq (v:=Zf) Tryz.results114 rfl ?_
 exact⟨rfl,yo (yr (p:=s.ok fO fM) (yc [_,_,_,_] _ b) e) za⟩
theorem I1(fO fM ob:Nat)(s:GW)(w:World)(e:Own (GW.R fO fM ob s) w)(v:Nat)(hv:v<fO) :
 CR ya 196 (Zm ob v) w (fun r w' => r = .bool true/\fZ (GW.R fO fM ob s) w w' (GW.R fO fM ob s)):=by
 have k:=e.fact.vn
 have j:=e.fact.v2
 have i:=e.fact.en
 refine en Tryz.func196 Tryz.ntmps196 ?_
 have g:=Own.of e.un
 have f:s.ok fO fM:=e.fact
 have b:=yr (p:=GW.ok fO fM s) (yc [_,_,_,_] _ g) f
 refine fS g 8 ?_
 refine cl It (I5 fO fM ob s w (ye b 0 rfl)) ?_
 rintro _ d ⟨rfl,h⟩
 have c:=ym 0 b h
 have a:=(jP c).unpack
 refine fK a 2 ?_
 refine cmp rfl rfl rfl (nv o_) (fK a 7 ?_)
 refine cmp rfl rfl rfl (pI o_) (fQ a 5 ?_)
 refine gq (v:=Zf) Tryz.results196 rfl ?_
 exact⟨rfl,yo (yr (p:=s.ok fO fM) (yc [_,_,_,_] _ a) f) za⟩
theorem IZ(fO fM ob:Nat)(s:GW)(w:World)(F:Own (GW.R fO fM ob s) w)(k:Nat)(hk:k+1<(fM+fO+1)) :
 CR ya 198 (Zm ob k) w (fun r w' => ∃ (s2:GW),r = .tuple #[]/\fZ (GW.R fO fM ob s) w w' (GW.R fO fM ob s2)):=by
 have V:=F.fact.vn
 have U:=F.fact.v2
 have Q:=F.fact.en
 have M:=F.fact.get (k:Int)
 have S:=M.a
 have T:=M.b
 refine en Tryz.func198 Tryz.ntmps198 ?_
 have O:=Own.of F.un
 have P:s.ok fO fM:=F.fact
 refine fS O 7 ?_
 refine pM (a:=(k:Int)) (mm:=s.m) (enc:=Ed.enc) (k:=.i64) 3 rfl rfl rfl r6 yf yL rfl O rfl (iH O (fun i A B C j=>?_))
 refine gJ j 13 fun l f=>?_
 refine cl Ox (QB s.fb s.nb (fM+fO+1) l (ye f 2 rfl) o_ k hk ((gh s.m (k:Int)).exp) M.exp) ?_
 rintro _ D ⟨rfl,N⟩
 have n:=ym 2 f N
 refine gJ n 16 fun o g=>?_
 refine ar (e:=(((fM+(gh s.m (k:Int)).a):Nat):Int)) rfl rfl rfl rfl iT (cl OL (Qy s.fb s.nb (fM+fO+1) o (ye g 2 rfl) o_ k (fM+(gh s.m (k:Int)).a) hk o_) ?_)
 rintro _ E ⟨G,rfl,N⟩
 have t:=ym 2 g N
 refine gJ t 16 fun u h=>?_
 refine ar (e:=(((fM+(gh s.m (k:Int)).b):Nat):Int)) rfl rfl rfl rfl iT (cl OL (Qy s.fb s.nb (fM+fO+1) u (ye h 2 rfl) o_ k (fM+(gh s.m (k:Int)).b) hk o_) ?_)
 rintro _ H ⟨I,rfl,N⟩
 have v:=ym 2 h N
 refine gJ v 16 fun J x=>?_
 refine qm (a:=(k:Int)) (c:=(D0 s k)) (mm:=s.m) (enc:=Ed.enc) (k:=.i64) (L' := [blk i 235 [(Za ((gh s.m (k:Int)).a:Int)),(Za ((gh s.m (k:Int)).b:Int)),(Za ((gh s.m (k:Int)).exp)),Zf],blk ob 232 (zP fO fM s (some s.mb)),(kB s.fb s.nb (fM+fO+1)),(QS.R s.hb fM s.q),gM s.mb .i64 Ed.enc (gD s.m (k:Int) (D0 s k))]) 4 rfl rfl rfl rfl r6 yf x rfl rfl (fun K d=>fQ d 1 ?_)
 refine CQ tt none d 6 ?_
 refine ar (e:=(Hv s)) rfl rfl rfl rfl rfl (jZ d 4 fun L y=>?_)
 refine iQ Tryz.results198 ?_
 have z:=yg [1,2,3,4,0] y
 exact⟨(⟨s.fb,s.nb,s.hb,s.mb,(Hv s),s.q,(gD s.m (k:Int) (D0 s k))⟩:GW),rfl,yo (yr (p:=GW.ok fO fM (⟨s.fb,s.nb,s.hb,s.mb,(Hv s),s.q,(gD s.m (k:Int) (D0 s k))⟩:GW)) (yc [_,_,_,_] _ z) (P.put (by exact⟨M.a,M.b,M.exp⟩))) za⟩
theorem I2(fO fM ob:Nat)(s:GW)(w:World)(F:Own (GW.R fO fM ob s) w)(k:Nat)(hk:k+1<(fM+fO+1)) :
 CR ya 116 (Zm ob k) w (fun r w' => ∃ (s2:GW),r = .tuple #[]/\fZ (GW.R fO fM ob s) w w' (GW.R fO fM ob s2)):=by
 have Q:=F.fact.vn
 have P:=F.fact.v2
 have M:=F.fact.en
 have I:=F.fact.get (k:Int)
 have N:=I.a
 have O:=I.b
 refine en Tryz.func116 Tryz.ntmps116 ?_
 have J:=Own.of F.un
 have L:s.ok fO fM:=F.fact
 refine fS J 7 ?_
 refine pM (a:=(k:Int)) (mm:=s.m) (enc:=Ed.enc) (k:=.i64) 3 rfl rfl rfl r6 yf yL rfl J rfl (iH J (fun h x y z i=>?_))
 refine gJ i 17 fun j f=>?_
 refine ar (e:=(((fM+(gh s.m (k:Int)).a):Nat):Int)) rfl rfl rfl rfl iT (cl Oy (Qp s.fb s.nb (fM+fO+1) j (ye f 2 rfl) o_ k (fM+(gh s.m (k:Int)).a) hk o_) ?_)
 rintro _ A ⟨B,rfl,K⟩
 have l:=ym 2 f K
 refine gJ l 16 fun n g=>?_
 refine ar (e:=(((fM+(gh s.m (k:Int)).b):Nat):Int)) rfl rfl rfl rfl iT (cl Oy (Qp s.fb s.nb (fM+fO+1) n (ye g 2 rfl) o_ k (fM+(gh s.m (k:Int)).b) hk o_) ?_)
 rintro _ C ⟨D,rfl,K⟩
 have o:=ym 2 g K
 refine gJ o 16 fun E t=>?_
 refine qm (a:=(k:Int)) (c:=(DZ s k)) (mm:=s.m) (enc:=Ed.enc) (k:=.i64) (L' := [blk h 235 [(Za ((gh s.m (k:Int)).a:Int)),(Za ((gh s.m (k:Int)).b:Int)),(Za ((gh s.m (k:Int)).exp)),Zp],blk ob 232 (zP fO fM s (some s.mb)),(kB s.fb s.nb (fM+fO+1)),(QS.R s.hb fM s.q),gM s.mb .i64 Ed.enc (gD s.m (k:Int) (DZ s k))]) 4 rfl rfl rfl rfl r6 yf t rfl rfl (fun G d=>fQ d 1 ?_)
 refine CQ tt none d 6 ?_
 refine ar (e:=(Hw s)) rfl rfl rfl rfl rfl (jZ d 4 fun H u=>?_)
 refine iQ Tryz.results116 ?_
 have v:=yg [1,2,3,4,0] u
 exact⟨(⟨s.fb,s.nb,s.hb,s.mb,(Hw s),s.q,(gD s.m (k:Int) (DZ s k))⟩:GW),rfl,yo (yr (p:=GW.ok fO fM (⟨s.fb,s.nb,s.hb,s.mb,(Hw s),s.q,(gD s.m (k:Int) (DZ s k))⟩:GW)) (yc [_,_,_,_] _ v) (L.put (by exact⟨I.a,I.b,I.exp⟩))) za⟩
end
section
open Go Go.Sx
theorem acY(hb n:Nat)(s:QS)(w:World)(d:Own (QS.R hb n s) w) :
 CR ya 115 (Zi hb) w (fun r w' => ∃ (i:Nat) (k:Int) (b:Bool) (s2:QS),r = .tuple #[.agg (Zx i k),.bool b]/\(b=true->i<n)/\fZ (QS.R hb n s) w w' (QS.R hb n s2)):=by
 rcases yY s.fP.length with a|a
 . exact CR.mono (acX hb n s w d a) fun r w' ⟨c,e⟩=>⟨0,0,false,s,c,fun h=>(by cases h),e⟩
 . exact CR.mono (RZ hb n s w d a) fun r w' ⟨s2,c,_,e⟩=>⟨_,_,true,s2,c,fun _=>d.fact.hp.ix 0 a,e⟩
theorem Y3(fO fM ob:Nat)(s:GW)(w:World)(F:Own (GW.R fO fM ob s) w) :
 CR ya 64 (Zi ob) w (fun r w' => ∃ (s2:GW) (i:Nat) (b:Bool),r = .tuple (p8 i b)/\fZ (GW.R fO fM ob s) w w' (GW.R fO fM ob s2)):=by
 have ag:=F.fact.vn
 have af:=F.fact.v2
 have ad:=F.fact.en
 refine en Tryz.func64 Tryz.ntmps64 ?_
 have ab:=Own.of F.un
 have hG:s.ok fO fM:=F.fact
 have j:=yr (p:=GW.ok fO fM s) (yc [_,_,_,_] _ ab) hG
 refine fS ab 10 ?_
 refine cl It (I5 fO fM ob s w (ye j 0 rfl)) ?_
 rintro _ A ⟨rfl,T⟩
 have B:=ym 0 j T
 have g:=(jP B).unpack
 refine fK g 12 ?_
 refine cl Og (acY s.hb fM s.q A (ye g 2 rfl)) ?_
 rintro _ O ⟨d,l,C,e,rfl,D,T⟩
 have n:=ym 2 g T
 have ac:=D
 refine fK n 3 ?_
 refine iH n (fun o P Q S E=>?_)
 refine tL E 11 fun U h=>?_
 cases t:(C:Bool)
 . skip
   subst t
   refine iN h 9 ?_
   refine iC (v:=Zc) (v' := Zp) Tryz.results64 rfl rfl ?_
   have G:=yg [1,2,3,4,0] h
   exact⟨(⟨s.fb,s.nb,s.hb,s.mb,s.trees,e,s.m⟩:GW),0,false,rfl,yo (yr (p:=GW.ok fO fM (⟨s.fb,s.nb,s.hb,s.mb,s.trees,e,s.m⟩:GW)) (yc [_,_,_,_] _ G) hG.same) za⟩
 . skip
   subst t
   have ae:=ac rfl
   refine oD h 12 fun H f=>?_
   refine pM (a:=(d:Int)) (mm:=s.m) (enc:=Ed.enc) (k:=.i64) 4 rfl rfl rfl r6 yf yL rfl f rfl (Py (cs:=#[(Za ((gh s.m (d:Int)).a:Int)),(Za ((gh s.m (d:Int)).b:Int)),(Za ((gh s.m (d:Int)).exp)),(.bool ((gh s.m (d:Int)).tree))]) (v:=(.bool ((gh s.m (d:Int)).tree))) rfl rfl Tryz.underlying235 rfl mY rfl rfl (gF f 2 ?_))
   cases V:((gh s.m (d:Int)).tree:Bool)
   . skip
     refine oD f 11 fun W I=>?_
     refine B7 (a:=(d:Int)) (mm:=s.m) (enc:=Ed.enc) (k:=.i64) (L' := [blk o 224 (Zo d l),blk ob 232 (zP fO fM s (some s.mb)),(kB s.fb s.nb (fM+fO+1)),(QS.R s.hb fM e),gM s.mb .i64 Ed.enc (iZ s.m (d:Int))]) 4 rfl rfl rfl r6 yf I rfl rfl (fun X u=>fQ u 11 ?_)
     refine iC (v:=(Za d)) (v' := Zf) Tryz.results64 rfl rfl ?_
     have J:=yg [1,2,3,4,0] u
     exact⟨(⟨s.fb,s.nb,s.hb,s.mb,s.trees,e,(iZ s.m (d:Int))⟩:GW),d,true,rfl,yo (yr (p:=GW.ok fO fM (⟨s.fb,s.nb,s.hb,s.mb,s.trees,e,(iZ s.m (d:Int))⟩:GW)) (yc [_,_,_,_] _ J) hG.del) za⟩
   . skip
     have K:=yg [1,2,3,4,0] f
     have x:=yr (p:=GW.ok fO fM (⟨s.fb,s.nb,s.hb,s.mb,s.trees,e,s.m⟩:GW)) (yc [_,_,_,_] _ K) hG.same
     refine fS f 5 ?_
     refine cl Iu (I2 fO fM ob (⟨s.fb,s.nb,s.hb,s.mb,s.trees,e,s.m⟩:GW) H (ye x 0 rfl) d o_) ?_
     rintro _ Y ⟨c,rfl,T⟩
     have y:=ym 0 x T
     have L:GW.ok fO fM c:=qw y
     have M:=(jP y).unpack
     refine gJ M 10 fun Z N=>?_
     refine B7 (a:=(d:Int)) (mm:=c.m) (enc:=Ed.enc) (k:=.i64) (L' := [blk ob 232 (zP fO fM c (some c.mb)),(kB c.fb c.nb (fM+fO+1)),(QS.R c.hb fM c.q),gM c.mb .i64 Ed.enc (iZ c.m (d:Int)),blk o 224 (Zo d l)]) 3 rfl rfl rfl r6 yf N rfl rfl (fun aa z=>fQ z 11 ?_)
     refine iC (v:=(Za d)) (v' := Zf) Tryz.results64 rfl rfl ?_
     exact⟨(⟨c.fb,c.nb,c.hb,c.mb,c.trees,c.q,(iZ c.m (d:Int))⟩:GW),d,true,rfl,yo (yr (p:=GW.ok fO fM (⟨c.fb,c.nb,c.hb,c.mb,c.trees,c.q,(iZ c.m (d:Int))⟩:GW)) (yc [_,_,_,_] _ z) L.del) za⟩
theorem YX(fO fM ob:Nat)(s:GW)(w:World)(hO:Own (GW.R fO fM ob s) w)(k a b:Nat)(exp:Int)(hk:k<fM)(ha:a<fO)(hb:b<fO)(hx:gX .i64 exp) :
 CR ya 130 #[(Zb ob),(Za k),(Za a),(Za b),(Za exp)] w (fun r w' => ∃ (s2:GW) (e:Int),r = .int .i64 e/\fZ (GW.R fO fM ob s) w w' (GW.R fO fM ob s2)):=by
 have aY:=hO.fact.vn
 have aX:=hO.fact.v2
 have aW:=hO.fact.en
 refine en Tryz.func130 Tryz.ntmps130 ?_
 have aV:=Own.of hO.un
 have T:s.ok fO fM:=hO.fact
 have z:=yr (p:=GW.ok fO fM s) (yc [_,_,_,_] _ aV) T
 refine fS aV 9 ?_
 refine cl It (I5 fO fM ob s w (ye z 0 rfl)) ?_
 rintro _ Y ⟨rfl,F⟩
 have Z:=ym 0 z F
 have l:=(jP Z).unpack
 refine fK l 10 ?_
 refine cmp rfl rfl rfl (kV o_) (fK l 6 ?_)
 refine cmp rfl rfl rfl (oh o_) ?_
 have A:=yr (p:=GW.ok fO fM s) (yc [_,_,_,_] _ l) T
 refine fK l 4 ?_
 refine cl IE (I1 fO fM ob s Y (ye A 0 rfl) a o_) ?_
 rintro _ aa ⟨rfl,F⟩
 have ab:=ym 0 A F
 have B:=(jP ab).unpack
 have C:=yr (p:=GW.ok fO fM s) (yc [_,_,_,_] _ B) T
 refine fK B 5 ?_
 refine cl IE (I1 fO fM ob s aa (ye C 0 rfl) b o_) ?_
 rintro _ aB ⟨rfl,F⟩
 have ac:=ym 0 C F
 have g:=(jP ac).unpack
 refine fK g 12 ?_
 by_cases aC:((a:Int):Int)=((b:Int):Int)
 . refine fQ g 11 ?_
   refine gq (v:=xx) yV rfl ?_
   exact⟨s,9,rfl,yo (yr (p:=GW.ok fO fM s) (yc [_,_,_,_] _ g) T) za⟩
 . refine fK g 14 ?_
   refine aaU (a:=(k:Int)) (mm:=s.m) (enc:=Ed.enc) (k:=.i64) 3 rfl rfl rfl r6 yf yL rfl g rfl (fK g 3 ?_)
   refine iH g (fun ad aD aE aF ae=>?_)
   refine tL ae 9 fun af j=>?_
   cases aG:((gZ s.m (k:Int)).isSome:Bool)
   . skip
     refine fS j 11 ?_
     refine cl OB (ac0 s.hb fM s.q af (ye j 3 rfl) k o_ exp hx) ?_
     rintro _ aH ⟨aI,d,rfl,F⟩
     have D:=ym 3 j F
     refine fK D 12 ?_
     refine ja (pvs:=[(0,(Za a)),(1,(Za b)),(2,(Za exp))]) (v:=.agg #[(Za a),(Za b),(Za exp),Zp]) rfl rfl (jq [(0,(Ze a)),(1,(Ze b)),(2,(Ze exp))] yL acu rfl ⟨rfl,rfl,rfl,rfl,rfl,rfl,trivial⟩ rfl) (qm (a:=(k:Int)) (c:=(⟨a,b,exp,false⟩:Ed)) (mm:=s.m) (enc:=Ed.enc) (k:=.i64) (L' := [blk ad 235 [(Za ((gh s.m (k:Int)).a:Int)),(Za ((gh s.m (k:Int)).b:Int)),(Za ((gh s.m (k:Int)).exp)),(.bool ((gh s.m (k:Int)).tree))],blk ob 232 (zP fO fM s (some s.mb)),(kB s.fb s.nb (fM+fO+1)),(QS.R s.hb fM d),gM s.mb .i64 Ed.enc (gD s.m (k:Int) (⟨a,b,exp,false⟩:Ed))]) 4 rfl rfl rfl rfl r6 yf D rfl rfl (fun aJ ag=>gJ ag 15 fun ah n=>?_))
     refine ar (e:=((fM+a:Nat):Int)) rfl rfl rfl rfl iT (fK n 5 ?_)
     refine ar (e:=((fM+b:Nat):Int)) rfl rfl rfl rfl iT (cl Xd (aaW s.fb s.nb (fM+fO+1) ah (ye n 2 rfl) o_ (fM+a) (fM+b) o_ o_) ?_)
     rintro _ ai ⟨h,aj,rfl,aK,F⟩
     have i:=ym 2 n F
     refine gF i 12 ?_
     cases E:(aj:Bool)
     . skip
       subst E
       have ak:=yg [1,2,3,4,0] i
       have G:=yr (p:=GW.ok fO fM (⟨s.fb,s.nb,s.hb,s.mb,s.trees,d,(gD s.m (k:Int) (⟨a,b,exp,false⟩:Ed))⟩:GW)) (yc [_,_,_,_] _ ak) (T.put (by exact⟨ha,hb,hx⟩))
       refine fS i 7 ?_
       refine cl IF (IZ fO fM ob (⟨s.fb,s.nb,s.hb,s.mb,s.trees,d,(gD s.m (k:Int) (⟨a,b,exp,false⟩:Ed))⟩:GW) ai (ye G 0 rfl) k o_) ?_
       rintro _ aL ⟨o,rfl,F⟩
       have H:=ym 0 G F
       have al:GW.ok fO fM o:=qw H
       have I:=(jP H).unpack
       refine fQ I 8 ?_
       refine gq (v:=Zc) yV rfl ?_
       exact⟨o,0,rfl,yo (yr (p:=GW.ok fO fM o) (yc [_,_,_,_] _ I) al) za⟩
     . skip
       subst E
       refine fS i 8 ?_
       refine pM (a:=(h:Int)) (mm:=(gD s.m (k:Int) (⟨a,b,exp,false⟩:Ed))) (enc:=Ed.enc) (k:=.i64) 4 rfl rfl rfl r6 yf yL rfl i rfl (iH i (fun aM aN aO aP am=>?_))
       refine gJ am 9 fun J f=>?_
       by_cases aQ:((gh (gD s.m (k:Int) (⟨a,b,exp,false⟩:Ed)) (h:Int)).exp:Int)>(exp:Int)
       . refine fQ f 23 ?_
         refine gq (v:=Zc) yV rfl ?_
         have an:=yg [2,3,4,5,0,1] f
         exact⟨(⟨s.fb,s.nb,s.hb,s.mb,s.trees,d,(gD s.m (k:Int) (⟨a,b,exp,false⟩:Ed))⟩:GW),0,rfl,yo (yr (p:=GW.ok fO fM (⟨s.fb,s.nb,s.hb,s.mb,s.trees,d,(gD s.m (k:Int) (⟨a,b,exp,false⟩:Ed))⟩:GW)) (yc [_,_,_,_] _ an) (T.put (by exact⟨ha,hb,hx⟩))) za⟩
       . refine fK f 5 ?_
         by_cases aR:((gh (gD s.m (k:Int) (⟨a,b,exp,false⟩:Ed)) (h:Int)).exp:Int)=(exp:Int)
         . refine fK f 4 ?_
           by_cases aS:((h:Int):Int)>((k:Int):Int)
           . refine fQ f 14 ?_
             refine gq (v:=Zc) yV rfl ?_
             have ao:=yg [2,3,4,5,0,1] f
             exact⟨(⟨s.fb,s.nb,s.hb,s.mb,s.trees,d,(gD s.m (k:Int) (⟨a,b,exp,false⟩:Ed))⟩:GW),0,rfl,yo (yr (p:=GW.ok fO fM (⟨s.fb,s.nb,s.hb,s.mb,s.trees,d,(gD s.m (k:Int) (⟨a,b,exp,false⟩:Ed))⟩:GW)) (yc [_,_,_,_] _ ao) (T.put (by exact⟨ha,hb,hx⟩))) za⟩
           . skip
             have ap:=yg [2,3,4,5,0,1] f
             have K:=yr (p:=GW.ok fO fM (⟨s.fb,s.nb,s.hb,s.mb,s.trees,d,(gD s.m (k:Int) (⟨a,b,exp,false⟩:Ed))⟩:GW)) (yc [_,_,_,_] _ ap) (T.put (by exact⟨ha,hb,hx⟩))
             refine fK f 11 ?_
             refine cl Iu (I2 fO fM ob (⟨s.fb,s.nb,s.hb,s.mb,s.trees,d,(gD s.m (k:Int) (⟨a,b,exp,false⟩:Ed))⟩:GW) J (ye K 0 rfl) h o_) ?_
             rintro _ aq ⟨t,rfl,F⟩
             have L:=ym 0 K F
             have au:GW.ok fO fM t:=qw L
             have M:=(jP L).unpack
             have N:=yr (p:=GW.ok fO fM t) (yc [_,_,_,_] _ M) au
             refine fK M 6 ?_
             refine cl IF (IZ fO fM ob t aq (ye N 0 rfl) k o_) ?_
             rintro _ aT ⟨u,rfl,F⟩
             have O:=ym 0 N F
             have av:GW.ok fO fM u:=qw O
             have P:=(jP O).unpack
             refine fQ P 8 ?_
             refine gq (v:=Zc) yV rfl ?_
             exact⟨u,0,rfl,yo (yr (p:=GW.ok fO fM u) (yc [_,_,_,_] _ P) av) za⟩
         . skip
           have aw:=yg [2,3,4,5,0,1] f
           have Q:=yr (p:=GW.ok fO fM (⟨s.fb,s.nb,s.hb,s.mb,s.trees,d,(gD s.m (k:Int) (⟨a,b,exp,false⟩:Ed))⟩:GW)) (yc [_,_,_,_] _ aw) (T.put (by exact⟨ha,hb,hx⟩))
           refine fK f 15 ?_
           refine cl Iu (I2 fO fM ob (⟨s.fb,s.nb,s.hb,s.mb,s.trees,d,(gD s.m (k:Int) (⟨a,b,exp,false⟩:Ed))⟩:GW) J (ye Q 0 rfl) h o_) ?_
           rintro _ ax ⟨x,rfl,F⟩
           have S:=ym 0 Q F
           have ay:GW.ok fO fM x:=qw S
           have U:=(jP S).unpack
           have V:=yr (p:=GW.ok fO fM x) (yc [_,_,_,_] _ U) ay
           refine fK U 6 ?_
           refine cl IF (IZ fO fM ob x ax (ye V 0 rfl) k o_) ?_
           rintro _ aU ⟨y,rfl,F⟩
           have W:=ym 0 V F
           have az:GW.ok fO fM y:=qw W
           have X:=(jP W).unpack
           refine fQ X 8 ?_
           refine gq (v:=Zc) yV rfl ?_
           exact⟨y,0,rfl,yo (yr (p:=GW.ok fO fM y) (yc [_,_,_,_] _ X) az) za⟩
   . skip
     refine iN j 8 ?_
     refine gq (v:=zK) yV rfl ?_
     have aA:=yg [1,2,3,4,0] j
     exact⟨s,6,rfl,yo (yr (p:=GW.ok fO fM s) (yc [_,_,_,_] _ aA) T) za⟩
end
end Go.Proofs.YtoceanggliccgaaGreatDoor
