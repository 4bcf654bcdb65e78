/- What the functions that the statements reach do: walks through the code of the program and of the references, one theorem a function; under what is said of its arguments. -/
import Derived.Test.YtdopagghhibopaaGreatFc
import Derived.Test.YtdopagghhibopaaGreatVa
import Derived.Test.YtdopagghhibopaaGreatFa
import Derived.Test.YtdopagghhibopaaGreatVb
import Derived.Test.YtdopagghhibopaaGreatFb
import Derived.Test.YtdopagghhibopaaGreatFd
import Derived.Ground.SlmcProg
import Derived.Shelf.SlMaps.Clone
import Derived.Ground.SlsfProg
import Derived.Shelf.SlSortCmp.NoneTotal
import Derived.Test.YtdopagghhibopaaGreatProg
import Derived.Test.YtdopagghhibopaaGreatRows
set_option linter.unusedVariables false
set_option linter.unusedSimpArgs false
set_option maxRecDepth 100000
set_option maxHeartbeats 4000000
namespace Go.Proofs.YtdopagghhibopaaGreat
section
open Go Go.Sx
theorem VZ(hb n:Nat)(s:QS)(w:World)(hO:Own (QS.R hb n s) w) :
 CR ya 103 (Zl hb) w (fun r w' => ∃ (i:Nat) (k:Int) (b:Bool) (s2:QS),r = .tuple #[.agg (qO i k),.bool b]/\(b=true->i<n)/\gm (QS.R hb n s) w w' (QS.R hb n s2)):=by
 rcases wK s.fP.length with h0|h0
 . exact CR.mono (Wd hb n s w hO h0) fun r w' ⟨h1,ht⟩=>⟨0,0,false,s,h1,fun h=>(by cases h),ht⟩
 . exact CR.mono (Nn hb n s w hO h0) fun r w' ⟨s2,h1,_,ht⟩=>⟨_,_,true,s2,h1,fun _=>hO.fact.hp.ix 0 h0,ht⟩
theorem Tn(fO fN ob:Nat)(s:GW)(w:World)(hO:Own (GW.R fO fN ob s) w) :
 CR ya 51 (Zl ob) w (fun r w' => ∃ (s2:GW) (i:Nat) (b:Bool),r = .tuple (ve i b)/\gm (GW.R fO fN ob s) w w' (GW.R fO fN ob s2)):=by
 have hvn:=hO.fact.vn
 have hv2:=hO.fact.v2
 have hen:=hO.fact.en
 refine en Tryz.func51 Tryz.ntmps51 ?_
 have hst0:=Own.of hO.un
 have hG:s.ok fO fN:=hO.fact
 have l:=yw (p:=GW.ok fO fN s) (yc [_,_,_,_] _ hst0) hG
 refine gf hst0 10 ?_
 refine cl Ji (Hj fO fN ob s w (yd l (i:=0) rfl)) ?_
 rintro _ C ⟨rfl,ht⟩
 have D:=yu 0 l ht
 have j:=(kB D).unpack
 refine fQ j 12 ?_
 refine cl OK (VZ s.hb fN s.q C (yd j (i:=2) rfl)) ?_
 rintro _ N ⟨d,n,E,e,rfl,G,ht⟩
 have o:=yu 2 j ht
 have hpi:=G
 refine fQ o 3 ?_
 refine al (cs:=Z5) rfl iw rfl o (fun t O P Q H=>yU H 11 fun S g=>?_)
 cases u:(E:Bool)
 . skip
   subst u
   refine jm g 9 ?_
   refine jU (v:=Zc) (v' := Zq) Tryz.results51 rfl rfl ?_
   have I:=yi [1,2,3,4,0] g
   exact⟨(⟨s.fb,s.nb,s.hb,s.mb,s.trees,e,s.m⟩:GW),0,false,rfl,yv (yw (p:=GW.ok fO fN (⟨s.fb,s.nb,s.hb,s.mb,s.trees,e,s.m⟩:GW)) (yc [_,_,_,_] _ I) hG.same) zh⟩
 . skip
   subst u
   refine wm g 5 ?_
   have hpl:=hpi rfl
   refine iR g (fun J f=>?_) (hA:=by refine' gI 6 ?k0;case k0=>refine' gq (fun wq hM=>rv (tq (a:=(d:Int)) (mm:=s.m) (enc:=Ed.enc) (k:=.i64) 4 rfl rfl rI ye r9 rfl hM rfl)) ?k1;case k1=>refine' gq (fun wq hM=>rv (V5 (cs:=#[(Za ((fU s.m (d:Int)).a:Int)),(Za ((fU s.m (d:Int)).b:Int)),(Za ((fU s.m (d:Int)).exp)),(.bool ((fU s.m (d:Int)).tree))]) (v:=(.bool ((fU s.m (d:Int)).tree))) rfl Tryz.underlying192 rfl lR rfl rfl)) ?k2;case k2=>exact iA)
   refine kF tt none f 1 ?_
   cases U:((fU s.m (d:Int)).tree:Bool)
   . skip
     refine wm f 4 ?_
     refine jN f 6 ?_
     intro wq hM
     refine Pp (a:=(d:Int)) (mm:=s.m) (enc:=Ed.enc) (k:=.i64) (L' := [blk t 111 (Zi d n),blk ob 174 (AP fO fN s (some s.mb)),(lG s.fb s.nb (fN+fO+1)),(QS.R s.hb fN e),gQ s.mb .i64 Ed.enc (gH s.m (d:Int))]) 4 rfl rfl rfl rI ye hM rfl rfl (fun _ h=>(jM h (fun V x=>?_)))
     refine iN tt none x 10 ?_
     refine jU (v:=(Za d)) (v' := Zf) Tryz.results51 rfl rfl ?_
     have K:=yi [1,2,3,4,0] x
     exact⟨(⟨s.fb,s.nb,s.hb,s.mb,s.trees,e,(gH s.m (d:Int))⟩:GW),d,true,rfl,yv (yw (p:=GW.ok fO fN (⟨s.fb,s.nb,s.hb,s.mb,s.trees,e,(gH s.m (d:Int))⟩:GW)) (yc [_,_,_,_] _ K) hG.del) zh⟩
   . skip
     have L:=yi [1,2,3,4,0] f
     have y:=yw (p:=GW.ok fO fN (⟨s.fb,s.nb,s.hb,s.mb,s.trees,e,s.m⟩:GW)) (yc [_,_,_,_] _ L) hG.same
     refine gf f 5 ?_
     refine cl I2 (G5 fO fN ob (⟨s.fb,s.nb,s.hb,s.mb,s.trees,e,s.m⟩:GW) J (yd y (i:=0) rfl) d o_) ?_
     rintro _ W ⟨c,rfl,ht⟩
     have z:=yu 0 y ht
     have M:GW.ok fO fN c:=nT z
     have A:=(kB z).unpack
     refine gL A 3 ?_
     refine jN A 6 ?_
     intro wq hM
     refine Pp (a:=(d:Int)) (mm:=c.m) (enc:=Ed.enc) (k:=.i64) (L' := [blk ob 174 (AP fO fN c (some c.mb)),(lG c.fb c.nb (fN+fO+1)),(QS.R c.hb fN c.q),gQ c.mb .i64 Ed.enc (gH c.m (d:Int)),blk t 111 (Zi d n)]) 3 rfl rfl rfl rI ye hM rfl rfl (fun _ h=>(jM h (fun X B=>?_)))
     refine iN tt none B 10 ?_
     refine jU (v:=(Za d)) (v' := Zf) Tryz.results51 rfl rfl ?_
     exact⟨(⟨c.fb,c.nb,c.hb,c.mb,c.trees,c.q,(gH c.m (d:Int))⟩:GW),d,true,rfl,yv (yw (p:=GW.ok fO fN (⟨c.fb,c.nb,c.hb,c.mb,c.trees,c.q,(gH c.m (d:Int))⟩:GW)) (yc [_,_,_,_] _ B) M.del) zh⟩
theorem Xo(fO fN ob:Nat)(s:GW)(w:World)(hO:Own (GW.R fO fN ob s) w)(k a b:Nat)(exp:Int)(hk:k<fN)(ha:a<fO)(hb:b<fO)(hx:ij .i64 exp) :
 CR ya 56 #[(Zb ob),(Za k),(Za a),(Za b),(Za exp)] w (fun r w' => ∃ (s2:GW) (e:Int),r = .int .i64 e/\gm (GW.R fO fN ob s) w w' (GW.R fO fN ob s2)):=by
 have hvn:=hO.fact.vn
 have hv2:=hO.fact.v2
 have hen:=hO.fact.en
 refine en Tryz.func56 Tryz.ntmps56 ?_
 have hst0:=Own.of hO.un
 have hG:s.ok fO fN:=hO.fact
 have z:=yw (p:=GW.ok fO fN s) (yc [_,_,_,_] _ hst0) hG
 refine gf hst0 9 ?_
 refine cl Ji (Hj fO fN ob s w (yd z (i:=0) rfl)) ?_
 rintro _ aa ⟨rfl,ht⟩
 have ab:=yu 0 z ht
 have n:=(kB ab).unpack
 refine fQ n 10 ?_
 refine cmp rfl rfl rfl (mL o_) (fQ n 6 ?_)
 refine cmp rfl rfl rfl (xK o_) ?_
 have A:=yw (p:=GW.ok fO fN s) (yc [_,_,_,_] _ n) hG
 refine fQ n 4 ?_
 refine cl OS (NL fO fN ob s aa (yd A (i:=0) rfl) a o_) ?_
 rintro _ ac ⟨rfl,ht⟩
 have ad:=yu 0 A ht
 have B:=(kB ad).unpack
 have C:=yw (p:=GW.ok fO fN s) (yc [_,_,_,_] _ B) hG
 refine fQ B 5 ?_
 refine cl OS (NL fO fN ob s ac (yd C (i:=0) rfl) b o_) ?_
 rintro _ aC ⟨rfl,ht⟩
 have ae:=yu 0 C ht
 have g:=(kB ae).unpack
 refine fQ g 12 ?_
 by_cases aD:((a:Int):Int)=((b:Int):Int)
 . refine fW g 11 ?_
   refine gw (v:=(.int .i64 9)) yN rfl ?_
   exact⟨s,9,rfl,yv (yw (p:=GW.ok fO fN s) (yc [_,_,_,_] _ g) hG) zh⟩
 . refine fQ g 14 ?_
   refine aaI (a:=(k:Int)) (mm:=s.m) (enc:=Ed.enc) (k:=.i64) 3 rfl rfl rfl rI ye r9 rfl g rfl (fQ g 3 ?_)
   refine al (cs:=FC) rfl r9 rfl g (fun af aE aF aG ag=>yU ag 9 fun ah l=>?_)
   cases aH:((ig s.m (k:Int)).isSome:Bool)
   . skip
     refine gf l 11 ?_
     refine cl OW (Ta s.hb fN s.q ah (yd l (i:=3) rfl) k o_ exp hx) ?_
     rintro _ aI ⟨aJ,d,rfl,ht⟩
     have D:=yu 3 l ht
     refine fQ D 12 ?_
     refine kf (pvs:=[(0,(Za a)),(1,(Za b)),(2,(Za exp))]) (v:=.agg #[(Za a),(Za b),(Za exp),Zq]) rfl rfl (jS [(0,(Ze a)),(1,(Ze b)),(2,(Ze exp))] r9 YH rfl ⟨rfl,rfl,rfl,rfl,rfl,rfl,trivial⟩ rfl) (Gv (a:=(k:Int)) (c:=(⟨a,b,exp,false⟩:Ed)) (mm:=s.m) (enc:=Ed.enc) (k:=.i64) (L' := [blk af 192 [(Za ((fU s.m (k:Int)).a:Int)),(Za ((fU s.m (k:Int)).b:Int)),(Za ((fU s.m (k:Int)).exp)),(.bool ((fU s.m (k:Int)).tree))],blk ob 174 (AP fO fN s (some s.mb)),(lG s.fb s.nb (fN+fO+1)),(QS.R s.hb fN d),gQ s.mb .i64 Ed.enc (gi s.m (k:Int) (⟨a,b,exp,false⟩:Ed))]) 4 rfl rfl rfl rfl rI ye D rfl rfl (fun aK E=>gL E 4 ?_))
     refine jN E 17 ?_ (hA:=by refine' gI 10 ?k0;case k0=>refine' gq (fun wq hM=>rv (kV (e:=((fN+a:Nat):Int)) rfl rfl rfl (by rw[iZ o_];omega))) ?k1;case k1=>refine' gI 5 ?k2;case k2=>refine' gq (fun wq hM=>rv (kV (e:=((fN+b:Nat):Int)) rfl rfl rfl (by rw[iZ o_];omega))) ?k3;case k3=>exact iA)
     intro wq hM
     refine kD rfl rfl (i6 rfl Yy) (WX s.fb s.nb (fN+fO+1) wq (yd hM (i:=2) rfl) o_ (fN+a) (fN+b) o_ o_) ?_
     rintro _ _ ⟨h,ai,rfl,hF1,ht1⟩
     refine jM (yu 2 hM (ht1.oC hF1)) (fun aj ak=>?_)
     have G:=yi [2,0,1,3,4] ak
     have aL:=nT G
     have j:=kB G
     refine kF tt none j 6 ?_
     cases H:(ai:Bool)
     . skip
       subst H
       have am:=yi [2,0,3,4,1] j
       have I:=yw (p:=GW.ok fO fN (⟨s.fb,s.nb,s.hb,s.mb,s.trees,d,(gi s.m (k:Int) (⟨a,b,exp,false⟩:Ed))⟩:GW)) (yc [_,_,_,_] _ am) (hG.put (by exact⟨ha,hb,hx⟩))
       refine gf j 7 ?_
       refine cl Jd (G7 fO fN ob (⟨s.fb,s.nb,s.hb,s.mb,s.trees,d,(gi s.m (k:Int) (⟨a,b,exp,false⟩:Ed))⟩:GW) aj (yd I (i:=0) rfl) k o_) ?_
       rintro _ aM ⟨o,rfl,ht⟩
       have J:=yu 0 I ht
       have an:GW.ok fO fN o:=nT J
       have K:=(kB J).unpack
       refine fW K 8 ?_
       refine gw (v:=Zc) yN rfl ?_
       exact⟨o,0,rfl,yv (yw (p:=GW.ok fO fN o) (yc [_,_,_,_] _ K) an) zh⟩
     . skip
       subst H
       refine gf j 8 ?_
       refine AR (a:=(h:Int)) (mm:=(gi s.m (k:Int) (⟨a,b,exp,false⟩:Ed))) (enc:=Ed.enc) (k:=.i64) 4 rfl rfl rfl rI ye r9 rfl j rfl (al (cs:=FC) rfl r9 rfl j (fun aN aO aP aQ ao=>kL ao 9 fun L f=>?_))
       by_cases aR:((fU (gi s.m (k:Int) (⟨a,b,exp,false⟩:Ed)) (h:Int)).exp:Int)>(exp:Int)
       . refine fW f 23 ?_
         refine gw (v:=Zc) yN rfl ?_
         have ap:=yi [3,1,4,5,0,2] f
         exact⟨(⟨s.fb,s.nb,s.hb,s.mb,s.trees,d,(gi s.m (k:Int) (⟨a,b,exp,false⟩:Ed))⟩:GW),0,rfl,yv (yw (p:=GW.ok fO fN (⟨s.fb,s.nb,s.hb,s.mb,s.trees,d,(gi s.m (k:Int) (⟨a,b,exp,false⟩:Ed))⟩:GW)) (yc [_,_,_,_] _ ap) (hG.put (by exact⟨ha,hb,hx⟩))) zh⟩
       . refine fQ f 5 ?_
         by_cases aS:((fU (gi s.m (k:Int) (⟨a,b,exp,false⟩:Ed)) (h:Int)).exp:Int)=(exp:Int)
         . refine fQ f 4 ?_
           by_cases aT:((h:Int):Int)>((k:Int):Int)
           . refine fW f 14 ?_
             refine gw (v:=Zc) yN rfl ?_
             have aq:=yi [3,1,4,5,0,2] f
             exact⟨(⟨s.fb,s.nb,s.hb,s.mb,s.trees,d,(gi s.m (k:Int) (⟨a,b,exp,false⟩:Ed))⟩:GW),0,rfl,yv (yw (p:=GW.ok fO fN (⟨s.fb,s.nb,s.hb,s.mb,s.trees,d,(gi s.m (k:Int) (⟨a,b,exp,false⟩:Ed))⟩:GW)) (yc [_,_,_,_] _ aq) (hG.put (by exact⟨ha,hb,hx⟩))) zh⟩
           . skip
             have ar:=yi [3,1,4,5,0,2] f
             have M:=yw (p:=GW.ok fO fN (⟨s.fb,s.nb,s.hb,s.mb,s.trees,d,(gi s.m (k:Int) (⟨a,b,exp,false⟩:Ed))⟩:GW)) (yc [_,_,_,_] _ ar) (hG.put (by exact⟨ha,hb,hx⟩))
             refine fQ f 11 ?_
             refine cl I2 (G5 fO fN ob (⟨s.fb,s.nb,s.hb,s.mb,s.trees,d,(gi s.m (k:Int) (⟨a,b,exp,false⟩:Ed))⟩:GW) L (yd M (i:=0) rfl) h o_) ?_
             rintro _ au ⟨t,rfl,ht⟩
             have N:=yu 0 M ht
             have av:GW.ok fO fN t:=nT N
             have O:=(kB N).unpack
             have P:=yw (p:=GW.ok fO fN t) (yc [_,_,_,_] _ O) av
             refine fQ O 6 ?_
             refine cl Jd (G7 fO fN ob t au (yd P (i:=0) rfl) k o_) ?_
             rintro _ aU ⟨u,rfl,ht⟩
             have Q:=yu 0 P ht
             have aw:GW.ok fO fN u:=nT Q
             have S:=(kB Q).unpack
             refine fW S 8 ?_
             refine gw (v:=Zc) yN rfl ?_
             exact⟨u,0,rfl,yv (yw (p:=GW.ok fO fN u) (yc [_,_,_,_] _ S) aw) zh⟩
         . skip
           have ax:=yi [3,1,4,5,0,2] f
           have U:=yw (p:=GW.ok fO fN (⟨s.fb,s.nb,s.hb,s.mb,s.trees,d,(gi s.m (k:Int) (⟨a,b,exp,false⟩:Ed))⟩:GW)) (yc [_,_,_,_] _ ax) (hG.put (by exact⟨ha,hb,hx⟩))
           refine fQ f 15 ?_
           refine cl I2 (G5 fO fN ob (⟨s.fb,s.nb,s.hb,s.mb,s.trees,d,(gi s.m (k:Int) (⟨a,b,exp,false⟩:Ed))⟩:GW) L (yd U (i:=0) rfl) h o_) ?_
           rintro _ ay ⟨x,rfl,ht⟩
           have V:=yu 0 U ht
           have az:GW.ok fO fN x:=nT V
           have W:=(kB V).unpack
           have X:=yw (p:=GW.ok fO fN x) (yc [_,_,_,_] _ W) az
           refine fQ W 6 ?_
           refine cl Jd (G7 fO fN ob x ay (yd X (i:=0) rfl) k o_) ?_
           rintro _ aV ⟨y,rfl,ht⟩
           have Y:=yu 0 X ht
           have aA:GW.ok fO fN y:=nT Y
           have Z:=(kB Y).unpack
           refine fW Z 8 ?_
           refine gw (v:=Zc) yN rfl ?_
           exact⟨y,0,rfl,yv (yw (p:=GW.ok fO fN y) (yc [_,_,_,_] _ Z) aA) zh⟩
   . skip
     refine jm l 8 ?_
     refine gw (v:=(.int .i64 6)) yN rfl ?_
     have aB:=yi [1,2,3,4,0] l
     exact⟨s,6,rfl,yv (yw (p:=GW.ok fO fN s) (yc [_,_,_,_] _ aB) hG) zh⟩
end
section
open Go Go.Sx
theorem Ww(n:Nat)(w:World)(hn:n<=65536) :
 CR ya 83 (sM n) w (fun r w' => ∃ fb nb,r = .tuple (qS fb)/\gm (gF []) w w' (lG fb nb (n+1))) :=
 CR.mono (UG n w hn) fun r w' ⟨fb,nb,e,ht⟩=>⟨fb,nb,e,RZ (ed:=0) (xs:=mN n n) (by simpa using ht) (pJ n n) (NO o_) (UM o_)⟩
theorem WE(fO fN:Nat)(w:World)(h2:2<=fO)(hv:fO<=4096)(he:fN<=16384) :
 CR ya 41 (qO fO fN) w (fun r w' => ∃ (ob:Nat) (s:GW),r = .tuple (qS ob)/\gm (gF []) w w' (GW.R fO fN ob s)):=by
 refine en Tryz.func41 Tryz.ntmps41 ?_
 have hst0:=jO w
 refine gf hst0 10 ?_
 refine cmp rfl rfl rfl (mL o_) (fQ hst0 2 ?_)
 refine cmp rfl rfl rfl (uA o_) (fQ hst0 3 ?_)
 refine cmp rfl rfl rfl (mL o_) (fQ hst0 3 ?_)
 refine cmp rfl rfl rfl (uA o_) (fQ hst0 10 ?_)
 refine ar (e:=((fN+fO:Nat):Int)) rfl rfl rfl rfl (by rw[iZ o_];omega) (cl YT (Ww (fN+fO) w o_) ?_)
 rintro _ t ⟨a,d,rfl,ht⟩
 have g:=(pn hst0 ht)
 refine gL g 25 ?_
 refine lp (α:=Nat) (fun k=>[(0,(Za fO)),(1,(Za fN)),(4,Z6),(5,Zc),(6,(Zb a)),(7,Zc),(34,(Za fO)),(35,(Za ((k:Nat):Int)))]) (fun k w1=>St [(w,[])] [(lG a d (fN+fO+1))] w1/\k<=fO) (fun k=>fO-k) 0 ⟨rfl,rfl,rfl,rfl,rfl,rfl,rfl,gD (by first|rfl|omega),trivial⟩ (⟨g,o_⟩) ?_
 rintro k u h ⟨hst3,hk3⟩
 refine gf hst3 2 ?_
 by_cases x:(((k:Nat):Int):Int)<((fO:Int):Int)
 . refine fQ hst3 19 ?_
   refine ar (e:=((fN+k:Nat):Int)) rfl rfl rfl rfl (by rw[iZ o_];omega) (cl Pz (N5 a d (fN+fO+1) h (yd hst3 (i:=0) rfl) o_ (fN+k) o_ 9223372036854775807 (lV d_)) ?_)
   rintro _ y ⟨rfl,ht⟩
   have j:=yu 0 hst3 ht
   refine fW j 7 ?_
   refine tN (?_)
   exact again (k+1) ⟨rfl,rfl,rfl,rfl,rfl,rfl,rfl,gD (by first|rfl|omega),trivial⟩ (⟨j,o_⟩) (by show (fO-(k+1):Nat)<fO-k;omega)
 . refine fQ hst3 13 ?_
   refine cl OZ (NZ fN h o_) ?_
   rintro _ z ⟨b,l,rfl,A,ht⟩
   have f:=(pn hst3 ht)
   refine fQ f 22 ?_
   refine kf (pvs:=[(0,(Zb a))]) (v:=.agg (Zl a)) rfl rfl (jS [(0,(Zj a))] JR ZJ rfl ⟨rfl,rfl,trivial⟩ rfl) (fQ f 1 ?_)
   refine mkV Ed.enc .i64 rfl rfl f (fun c B C D o=>kf (pvs:=[(0,(Za fO)),(1,(Za fN)),(2,(.agg (Zl a))),(3,(Zb b)),(4,(.map (some c)))]) (v:=.agg (Rs fO fN a b (some c))) rfl rfl (jS [(0,(Ze fO)),(1,(Ze fN)),(2,(Zj a)),(3,(Zj b)),(4,[(.map (some c))])] O4 aae rfl ⟨rfl,rfl,rfl,rfl,rfl,rfl,rfl,rfl,rfl,rfl,trivial⟩ rfl) (bx (v:=(.agg (Rs fO fN a b (some c)))) (cs:=[(Za fO),(Za fN),(Zb a),(Zb b),(.map (some c)),Zc]) rfl rfl rfl o (fun m E G H n=>fW n 5 ?_)))
   refine jU (v:=(Zb m)) (v' := Zc) Tryz.results41 rfl rfl ?_
   have q:=yi [0,3,2,1] n
   exact⟨m,(⟨a,d,b,c,0,l,[]⟩:GW),rfl,St.BS (yw (p:=GW.ok fO fN (⟨a,d,b,c,0,l,[]⟩:GW)) (yc [_,_,_,_] _ q) ⟨h2,hv,he,fun p hp=>by cases hp⟩) s_⟩
end
section
open Go Go.Sx
theorem Xw(c:Cf)(w:World)(h1:1<=c.win)(h2:1<=c.fN/\c.fN<=16384)(h3:2<=c.fO/\c.fO<=4096)(h4:0<=c.ic/\c.ic<=16384) :
 CR ya 37 (Qz c.win c.fN c.fO c.ic) w (fun r w' => r = .bool true/\gB [] w w'):=by
 refine en Tryz.func37 Tryz.ntmps37 ?_
 have hst0:=jO w
 refine gf hst0 2 ?_
 refine bx (v:=(wG c.win c.fN c.fO c.ic)) (cs:=(yJ c.win c.fN c.fO c.ic)) rfl rfl rfl hst0 (fun b d e f a=>fQ a 7 ?_)
 refine cmp rfl rfl rfl (qF o_) (fQ a 3 ?_)
 refine cmp rfl rfl rfl (qF o_) (fQ a 4 ?_)
 refine cmp rfl rfl rfl (Cn o_) (fQ a 4 ?_)
 refine cmp rfl rfl rfl (qF o_) (fQ a 4 ?_)
 refine cmp rfl rfl rfl (Cn o_) (fQ a 4 ?_)
 refine cmp rfl rfl rfl (qF o_) (fQ a 4 ?_)
 refine cmp rfl rfl rfl (Cn o_) (fW a 5 ?_)
 refine gw (v:=Zf) Tryz.results37 rfl ?_
 exact⟨rfl,a.gK s_⟩
end
section
open Go Go.Sx
theorem YC(a b:Int)(w:World)(ha:ij .i64 a)(hb:ij .i64 b) :
 CR ya 85 (qO a b) w (fun r w' => r = .tuple (qO ((pZ a b).1) ((pZ a b).2))/\gB [] w w'):=by
 have ha' := ha.i64
 have hb' := hb.i64
 obtain⟨s,hs⟩:∃ s,s=IntKind.i64.wrap (a+b):=⟨_,rfl⟩
 have hw:=hs
 rw[IntKind.wrap_i64]at hw
 refine en Tryz.func85 Tryz.ntmps85 ?_
 have hst0:=jO w
 refine gf hst0 10 ?_
 refine ar (e:=s) rfl rfl rfl rfl hs.symm (fQ hst0 7 ?_)
 by_cases d:(a:Int)<(0:Int)
 . refine fQ hst0 2 ?_
   by_cases f:(b:Int)<(0:Int)
   . refine fQ hst0 1 ?_
     refine Es (c:=true) rfl rfl rfl lR rfl (fQ hst0 2 ?_)
     by_cases g:(s:Int)<(0:Int)
     . refine fQ hst0 3 ?_
       refine EA (c:=false) rfl rfl rfl lR rfl (fW hst0 14 ?_)
       refine jU (v:=(Za s)) (v' := Zc) Bh rfl rfl ?_
       have h9:=zS (a:=a) (b:=b) o_
       have h8:s=a+b:=by omega
       exact⟨by rw[h9,h8],hst0.gK s_⟩
     . refine fQ hst0 3 ?_
       refine EA (c:=true) rfl rfl rfl lR rfl (fW hst0 12 ?_)
       refine jU (v:=Zc) (v' := (.int .i64 7)) Bh rfl rfl ?_
       have h9:=NA (a:=a) (b:=b) o_
       exact⟨by rw[h9],hst0.gK s_⟩
   . refine fQ hst0 1 ?_
     refine Es (c:=false) rfl rfl rfl lR rfl (fW hst0 20 ?_)
     refine jU (v:=(Za s)) (v' := Zc) Bh rfl rfl ?_
     have h9:=zS (a:=a) (b:=b) o_
     have h8:s=a+b:=by omega
     exact⟨by rw[h9,h8],hst0.gK s_⟩
 . refine fQ hst0 2 ?_
   by_cases h:(b:Int)<(0:Int)
   . refine fQ hst0 1 ?_
     refine Es (c:=false) rfl rfl rfl lR rfl (fW hst0 20 ?_)
     refine jU (v:=(Za s)) (v' := Zc) Bh rfl rfl ?_
     have h9:=zS (a:=a) (b:=b) o_
     have h8:s=a+b:=by omega
     exact⟨by rw[h9,h8],hst0.gK s_⟩
   . refine fQ hst0 1 ?_
     refine Es (c:=true) rfl rfl rfl lR rfl (fQ hst0 2 ?_)
     by_cases i:(s:Int)<(0:Int)
     . refine fQ hst0 3 ?_
       refine EA (c:=true) rfl rfl rfl lR rfl (fW hst0 12 ?_)
       refine jU (v:=Zc) (v' := (.int .i64 7)) Bh rfl rfl ?_
       have h9:=NA (a:=a) (b:=b) o_
       exact⟨by rw[h9],hst0.gK s_⟩
     . refine fQ hst0 3 ?_
       refine EA (c:=false) rfl rfl rfl lR rfl (fW hst0 14 ?_)
       refine jU (v:=(Za s)) (v' := Zc) Bh rfl rfl ?_
       have h9:=zS (a:=a) (b:=b) o_
       have h8:s=a+b:=by omega
       exact⟨by rw[h9,h8],hst0.gK s_⟩
theorem MM(win t:Int)(w:World)(hwin:ij .i64 win)(htt:ij .i64 t) :
 CR ya 43 (qO win t) w (fun r w' => r = .tuple (qO ((pZ t win).1) ((pZ t win).2))/\gB [] w w'):=by
 refine en Tryz.func43 Tryz.ntmps43 ?_
 have hst0:=jO w
 refine gf hst0 10 ?_
 refine cl YW (YC t win w htt hwin) ?_
 rintro _ c ⟨rfl,b⟩
 have a:=jf hst0 b
 refine fW a 7 ?_
 refine jU (v:=(Za ((pZ t win).1))) (v' := (Za ((pZ t win).2))) Tryz.results43 rfl rfl ?_
 exact⟨rfl,a.gK s_⟩
theorem Hu(cb:Nat)(win now:Int)(w:World)(hO:Own (Zt cb win now) w)(h1:1<=win)(hwin:ij .i64 win) :
 CR ya 42 (Zl cb) w (fun r w' => r = .bool true/\gm (Zt cb win now) w w' (Zt cb win now)):=by
 refine en Tryz.func42 Tryz.ntmps42 ?_
 have hst0:=y8 hO
 refine gf hst0 8 ?_
 refine qR (a:=some ⟨cb,0,none⟩) (c:=true) rfl rfl rfl Tryz.underlying78 rfl (fQ hst0 5 ?_)
 refine cmp rfl rfl rfl (qF o_) (fW hst0 5 ?_)
 refine gw (v:=Zf) Tryz.results42 rfl ?_
 exact⟨rfl,yq hst0⟩
theorem WZ(cb:Nat)(win now:Int)(w:World)(hO:Own (Zt cb win now) w)(h1:1<=win)(hwin:ij .i64 win) :
 CR ya 25 (Zl cb) w (fun r w' => r = .int .i64 now/\gm (Zt cb win now) w w' (Zt cb win now)):=by
 refine en Tryz.func25 Tryz.ntmps25 ?_
 have hst0:=y8 hO
 refine gf hst0 9 ?_
 refine cl JQ (Hu cb win now w (yd hst0 (i:=0) rfl) h1 hwin) ?_
 rintro _ b ⟨rfl,ht⟩
 have a:=yu 0 hst0 ht
 refine fW a 16 ?_
 refine gw (v:=(Za now)) Tryz.results25 rfl ?_
 exact⟨rfl,yq a⟩
theorem Mc(cb:Nat)(win now:Int)(w:World)(hO:Own (Zt cb win now) w)(h1:1<=win)(hwin:ij .i64 win)(t:Int)(htt:ij .i64 t) :
 CR ya 21 (Zn cb t) w (fun r w' => r = .int .i64 (rE win now t)/\gm (Zt cb win now) w w' (Zt cb win now)):=by
 refine en Tryz.func21 Tryz.ntmps21 ?_
 have hst0:=y8 hO
 refine gf hst0 9 ?_
 refine cl JQ (Hu cb win now w (yd hst0 (i:=0) rfl) h1 hwin) ?_
 rintro _ c ⟨rfl,ht⟩
 have a:=yu 0 hst0 ht
 refine fQ a 14 ?_
 by_cases e:(t:Int)<(now:Int)
 . refine fW a 11 ?_
   refine gw (v:=(.int .i64 10)) Tryz.results21 rfl ?_
   exact⟨gD (by unfold rE;rw[if_pos (by assumption)]),yq a⟩
 . refine fQ a 13 ?_
   refine cl Pe (MM win t c hwin htt) ?_
   rintro _ f ⟨rfl,d⟩
   have b:=jf a d
   refine fW b 14 ?_
   refine gw (v:=(Za ((pZ t win).2))) Tryz.results21 rfl ?_
   exact⟨gD (by unfold rE;rw[if_neg (by assumption)]),yq b⟩
theorem Td(cb:Nat)(win now:Int)(w:World)(hO:Own (Zt cb win now) w)(h1:1<=win)(hwin:ij .i64 win)(t:Int)(htt:ij .i64 t) :
 CR ya 52 (Zn cb t) w (fun r w' => r = .tuple (qO ((pZ t win).1) ((pZ t win).2))/\gm (Zt cb win now) w w' (Zt cb win now)):=by
 refine en Tryz.func52 Tryz.ntmps52 ?_
 have hst0:=y8 hO
 refine gf hst0 10 ?_
 refine cl JQ (Hu cb win now w (yd hst0 (i:=0) rfl) h1 hwin) ?_
 rintro _ c ⟨rfl,ht⟩
 have a:=yu 0 hst0 ht
 refine fQ a 13 ?_
 refine cl Pe (MM win t c hwin htt) ?_
 rintro _ e ⟨rfl,d⟩
 have b:=jf a d
 refine fW b 7 ?_
 refine jU (v:=(Za ((pZ t win).1))) (v' := (Za ((pZ t win).2))) Tryz.results52 rfl rfl ?_
 exact⟨rfl,yq b⟩
theorem Sv(cb:Nat)(win now:Int)(w:World)(hO:Own (Zt cb win now) w)(h1:1<=win)(hwin:ij .i64 win)(t:Int)(htt:ij .i64 t) :
 CR ya 50 (Zn cb t) w (fun r w' => r = .int .i64 (rE win now t)/\gm (Zt cb win now) w w' (Zt cb win (if rE win now t=0 then t else now))):=by
 refine en Tryz.func50 Tryz.ntmps50 ?_
 have hst0:=y8 hO
 refine gf hst0 9 ?_
 refine cl PC (Mc cb win now w (yd hst0 (i:=0) rfl) h1 hwin t htt) ?_
 rintro _ c ⟨rfl,ht⟩
 have a:=yu 0 hst0 ht
 refine fQ a 7 ?_
 by_cases d:(rE win now t:Int)=(0:Int)
 . refine mR a 19 fun e b=>?_
   refine gw (v:=(Za (rE win now t))) Tryz.results50 rfl ?_
   have e9:(if rE win now t=0 then t else now)=t:=if_pos (by assumption)
   refine⟨rfl,?_⟩
   rw[e9]
   exact yq b
 . refine fW a 13 ?_
   refine gw (v:=(Za (rE win now t))) Tryz.results50 rfl ?_
   have e9:(if rE win now t=0 then t else now)=now:=if_neg (by assumption)
   refine⟨rfl,?_⟩
   rw[e9]
   exact yq a
theorem Xp(win:Int)(w:World)(h1:1<=win) :
 CR ya 38 (sM win) w (fun r w' => ∃ cb,r = .tuple (qS cb)/\gm (gF []) w w' (blk cb 107 [(Za win),Zc])):=by
 refine en Tryz.func38 Tryz.ntmps38 ?_
 have hst0:=jO w
 refine gf hst0 10 ?_
 refine cmp rfl rfl rfl (mL o_) (fQ hst0 8 ?_)
 refine kf (pvs:=[(0,(Za win))]) (v:=.agg (Bm win)) rfl rfl (jS [(0,(Ze win))] PD Y7 rfl ⟨rfl,rfl,trivial⟩ rfl) (bx (v:=(.agg (Bm win))) (cs:=[(Za win),Zc]) rfl rfl rfl hst0 (fun a c d e b=>fW b 5 ?_))
 refine jU (v:=(Zb a)) (v' := Zc) Tryz.results38 rfl rfl ?_
 exact⟨a,rfl,St.eM b⟩
end
section
open Go Go.Sx
def WW.R(c:WC)(wb:Nat)(s:WW):gh:=jZ (s.ok c) (gF [blk wb 83 (tT c.win c.fN c.fO c.ic s),(tY s c.win),(fZ.R c.fO c.fN s.ub s.u),(QS.SR s.sb s.hb c.fN s.q),(GW.R c.fO c.fN s.ob s.g)])
abbrev yI a (b:Nat) c (d e:Nat):=([WW.R a b c,blk d 24 Zo,blk e 24 wT]:List gh)
abbrev Qy a b (c:Nat) d e f (g h:Nat):=([jZ a (gF [WW.R b c d,fV Lv.cells e 34 7 f]),blk g 24 Zo,blk h 24 wT]:List gh)
abbrev Gw a b (c:Nat) d e f (g h:Nat):=([jZ a (gF [WW.R b c d,fV Lv.cells e 34 7 f]),blk g 24 Zo,blk h 24 Zo]:List gh)
theorem DH(c:WC)(wb:Nat)(s:WW)(w:World)(hO:Own (WW.R c wb s) w) :
 CR ya 20 (Zl wb) w (fun r w' => r = .bool true/\gm (WW.R c wb s) w w' (WW.R c wb s)):=by
 refine en Tryz.func20 Tryz.ntmps20 ?_
 have hst0:=Own.of hO.un
 have hW:s.ok c:=hO.fact
 have hw1:=hW.w1
 have hw2:=hW.wi
 have hw3:=hW.n0
 have hw4:=hW.n1
 refine gf hst0 8 ?_
 refine qR (a:=some ⟨wb,0,none⟩) (c:=true) rfl rfl rfl Tryz.underlying45 rfl (fQ hst0 5 ?_)
 refine qR (a:=some ⟨s.cb,0,none⟩) (c:=true) rfl rfl rfl Tryz.underlying78 rfl (fW hst0 5 ?_)
 refine gw (v:=Zf) Tryz.results20 rfl ?_
 exact⟨rfl,yv (yw (p:=s.ok c) (yc [_,_,_,_,_] _ hst0) hW) zh⟩
theorem II(c:WC)(wb:Nat)(s:WW)(w:World)(hO:Own (WW.R c wb s) w) :
 CR ya 13 (Zl wb) w (fun r w' => r = .int .i64 s.now/\gm (WW.R c wb s) w w' (WW.R c wb s)):=by
 refine en Tryz.func13 Tryz.ntmps13 ?_
 have hst0:=Own.of hO.un
 have hW:s.ok c:=hO.fact
 have hw1:=hW.w1
 have hw2:=hW.wi
 have hw3:=hW.n0
 have hw4:=hW.n1
 have b:=yw (p:=s.ok c) (yc [_,_,_,_,_] _ hst0) hW
 refine gf hst0 9 ?_
 refine cl EU (DH c wb s w (yd b (i:=0) rfl)) ?_
 rintro _ e ⟨rfl,ht⟩
 have f:=yu 0 b ht
 have a:=(kB f).unpack
 refine fQ a 12 ?_
 refine cl aad (WZ s.cb c.win s.now e (yd a (i:=1) rfl) hw1 (lV o_)) ?_
 rintro _ g ⟨rfl,ht⟩
 have d:=yu 1 a ht
 refine fW d 4 ?_
 refine gw (v:=(Za s.now)) Tryz.results13 rfl ?_
 exact⟨rfl,yv (yw (p:=s.ok c) (yc [_,_,_,_,_] _ d) hW) zh⟩
end
section
open Go Go.Sx
end
end Go.Proofs.YtdopagghhibopaaGreat
namespace Go.Proofs
open Go.Shelf Go.Lib Go.Sort Go.RowKit in
def Tryz.S0:Go.Shelf.Ren:=⟨fun|5=>94|7=>149|n=>n,fun|23=>128|25=>30|3=>115|4=>4|20=>20|n=>n,fun|n=>n⟩
open Go.Shelf Go.Lib Go.Sort Go.RowKit in
theorem Tryz.XG:Go.Proofs.SlLaysW.n5 Proofs.Tryz.prog Tryz.S0 where
 mixed:=by kernel_rfl
 f5:=⟨Proofs.Tryz.f94.name,by(decide),Proofs.Tryz.func94.trans (congrArg some<|by kernel_rfl)⟩
 f7:=Proofs.Tryz.func149.trans (congrArg some<|by kernel_rfl)
 t4:=Proofs.Tryz.underlying4
 a4:=Proofs.Tryz.isAgg4
 z4:=Proofs.Tryz.sizeOf4
 v4:=Proofs.Tryz.zeroValue4
 t20:=Proofs.Tryz.underlying20
 a20:=Proofs.Tryz.isAgg20
 z20:=Proofs.Tryz.sizeOf20
 v20:=Proofs.Tryz.zeroValue20
 t23:=Proofs.Tryz.underlying128
 a23:=Proofs.Tryz.isAgg128
 z23:=Proofs.Tryz.sizeOf128
 v23:=Proofs.Tryz.zeroValue128
end Go.Proofs
namespace Go.Proofs.YtdopagghhibopaaGreat
section
open Go Go.Sx
theorem UC(b:Nat)(im:IM)(w:World)(hO:Own (QH b im) w) :
 CR ya 94 #[.map (some b)] w (fun r w' => ∃ b2,r = .map (some b2)/\gm (QH b im) w w' (gF [gQ b .u64 p_ im,gQ b2 .u64 p_ im])) :=
 TL hO fun es clock h=>AnyW.maps_Clone Tryz.XG b es clock w h
theorem UE(v:Value)(xs:List Lv)(w:World)(hv:jx 7 Lv.cells (fun _=>True) w v xs)(hl0:xs.length<=1000000) :
 CR ya 93 #[v] w (fun r w' => pQ 7 Lv.cells w w' r 34 xs/\gB [] w w'):=by
 refine en Tryz.func93 Tryz.ntmps93 ?_
 have hst0:=jO w
 refine gf hst0 9 ?_
 refine Ek (v:=v) rfl rfl rfl y9 hv (gL hst0 2 ?_)
 cases e:(xW v:Bool)
 . skip
   refine gf hst0 5 ?_
   refine lC (vs:=[]) (cs:=[]) rfl rfl y9 iX rfl (by intro v hv;simp at hv) rfl rfl rfl hst0 ?_
   intro f g h i c
   have d:=c
   refine fQ c 1 ?_
   refine mZ (cf:=Lv.cells) (ys:=[]) (zs:=xs) (LL:=fun a=>[fV Lv.cells a 34 7 xs]) 0 rfl rfl rfl y9 iX rfl d_ d rfl (jx.src (lZ d s_ d_ hv) f_) (zM f_ _) (by simp only[zq];omega) (by simp only[zq];omega) f_ (fun a j b k=>fW b 4 ?_)
   refine gw (v:=a) Tryz.results93 rfl ?_
   exact⟨AQ b s_,b.gK s_⟩
 . skip
   refine jm hst0 8 ?_
   refine gw (v:=Zk) Tryz.results93 rfl ?_
   obtain rfl:=DZ e hv
   exact⟨pQ.Fg, hst0.gK s_⟩
theorem VX(fO fN ub:Nat)(s:fZ)(w:World)(hO:Own (fZ.R fO fN ub s) w) :
 CR ya 46 (Zl ub) w (fun r w' => ∃ (ub2:Nat) (s2:fZ),r = .pointer (some ⟨ub2,0,none⟩)/\((∀ y,s2.has y↔s.has y)/\s2.last=s.last)/\gm (fZ.R fO fN ub s) w w' (gF [(fZ.R fO fN ub s),(fZ.R fO fN ub2 s2)])):=by
 have htu:s.t.A.used<=s.t.A.n:=hO.fact.tok.ul
 have hUn:=hO.fact.n
 have hUt:=hO.fact.tn
 have hUe:=hO.fact.en
 have hUv:=hO.fact.vn
 have hAu:s.A.used<=s.A.begun:=by have h7:=hO.fact.lX.used;omega
 have hAl:=hO.fact.lX.le
 have hll:s.live.length=s.A.begun:=hO.fact.ll
 have hnl2:∀ id,(fU s.im id).2.length<=65536:=fun id=>hO.fact.J2 id
 refine en Tryz.func46 Tryz.ntmps46 ?_
 have hst0:=Own.of hO.un
 have hU:s.ok fO fN:=hO.fact
 have J:=yw (p:=s.ok fO fN) (yc [_,_,_,_,_,_] _ hst0) hU
 refine gf hst0 9 ?_
 refine cl B7 (BE fO fN ub s w (yd J (i:=0) rfl)) ?_
 rintro _ aF ⟨rfl,ht⟩
 have W:=yu 0 J ht
 have K:=(kB W).unpack
 refine fQ K 11 ?_
 refine al (cs:=[Zc,Zc,wM,Z6,Z6,Zk,(.map none)]) rfl EL rfl K (fun l aG aH aI L=>nq (L' := [blk l 130 (Z7 fO fN s (some s.mb)),blk ub 130 (Z7 fO fN s (some s.mb)),fV Lv.cells s.lv 34 7 s.live,gQ s.mb .u64 p_ s.im,iL 3 s.im,(sB s),(Z8 s)]) 0 rfl rfl rfl rfl EL rfl (oW rfl (oW rfl (oW rfl (oW rfl (oW rfl (oW (mS L (i:=2) rfl) (oW rfl uJ))))))) L rfl rfl rfl rfl (fun X G=>fQ G 8 ?_))
 refine cl PJ (M4 s.iO s.aw X (yd G (i:=5) rfl)) ?_
 rintro _ aJ ⟨e,m,rfl,Y,ht⟩
 have Z:=yi [5,0,1,2,3,4,6] G
 have aa:=mG (yu 0 Z ht)
 refine kL aa 10 fun ac M=>?_
 refine cl YQ (U5 s.tb s.ab s.t ac (yd M (i:=7) rfl)) ?_
 rintro _ aK ⟨f,o,u,rfl,N,ht⟩
 have ad:=yi [7,0,1,2,3,4,5,6] M
 have ae:=mG (yu 0 ad ht)
 refine kL ae 10 fun af O=>?_
 refine cl ZV (UE s.lv s.live af (yf O (i:=6) rfl f_).any (by first|omega|(simp;omega))) ?_
 rintro j ag hz
 have D:St _ [fV Lv.cells j 34 7 s.live,(Z8 s),(TW.R f o u),(sB s),(AW.R e m),blk l 130 [(Za fO),(Za fN),(Zd s.last),(Zb e),(Zb f),s.lv,(.map (some s.mb))],blk ub 130 (Z7 fO fN s (some s.mb)),fV Lv.cells s.lv 34 7 s.live,gQ s.mb .u64 p_ s.im,iL 3 s.im] ag:=uT O hz.2 hz.1
 refine fQ D 1 ?_
 refine nq (L' := [fV Lv.cells j 34 7 s.live,(Z8 s),(TW.R f o u),(sB s),(AW.R e m),blk l 130 (yD fO fN s.last e f j (some s.mb)),blk ub 130 (Z7 fO fN s (some s.mb)),fV Lv.cells s.lv 34 7 s.live,gQ s.mb .u64 p_ s.im,iL 3 s.im]) 5 rfl rfl rfl (cells_one (mS D (i:=0) rfl)) Ck rfl (oW (mS D (i:=0) rfl) uJ) D rfl rfl rfl rfl (fun ah E=>fQ E 7 ?_)
 refine ld rfl rfl ym rfl (yo E (i:=6) rfl rfl) (cl YX (UC s.mb s.im ah (yd E (i:=8) rfl)) ?_)
 rintro _ aL ⟨g,rfl,ht⟩
 have ai:=yi [8,0,1,2,3,4,5,6,7,9] E
 have P:=mG (yu 0 ai ht)
 refine fQ P 1 ?_
 refine nq (L' := [gQ s.mb .u64 p_ s.im,gQ g .u64 p_ s.im,fV Lv.cells j 34 7 s.live,(Z8 s),(TW.R f o u),(sB s),(AW.R e m),blk l 130 (yD fO fN s.last e f j (some g)),blk ub 130 (Z7 fO fN s (some s.mb)),fV Lv.cells s.lv 34 7 s.live,iL 3 s.im]) 7 rfl rfl rfl rfl rC rfl rfl P rfl rfl rfl rfl (fun aM H=>fQ H 8 ?_)
 refine ld rfl rfl ym rfl (yo H (i:=8) rfl rfl) (rgM (k:=.u64) (enc:=p_) (mm:=s.im) 0 rfl rfl ym H rfl ?_)
 intro z Q S
 have aj:St _ [iL 3 [],lQ s.mb z .u64 p_ s.im s.im none,gQ g .u64 p_ s.im,fV Lv.cells j 34 7 s.live,(Z8 s),(TW.R f o u),(sB s),(AW.R e m),blk l 130 (yD fO fN s.last e f j (some g)),blk ub 130 (Z7 fO fN s (some s.mb)),fV Lv.cells s.lv 34 7 s.live,iL 3 s.im] Q:=St.I6 S
 have ak:St _ [iL 3 [],iL 3 [],lQ s.mb z .u64 p_ s.im s.im none,gQ g .u64 p_ s.im,fV Lv.cells j 34 7 s.live,(Z8 s),(TW.R f o u),(sB s),(AW.R e m),blk l 130 (yD fO fN s.last e f j (some g)),blk ub 130 (Z7 fO fN s (some s.mb)),fV Lv.cells s.lv 34 7 s.live,iL 3 s.im] Q:=St.I6 aj
 have am:=yi [10,11,2,12,1,7,5,9,4,3,0,8,6] ak
 refine gL S 3 ?_
 refine lp (α:=IM×IM×IM×IM×(Option (Int×(Value×List Nat)))) (fun(dn,td,dn2,im2,cur)=>[(3,(Zb l)),(40,(Zb z))]) (fun(dn,td,dn2,im2,cur) w1=>St [(w,(fZ.R fO fN ub s).gT)] [blk ub 130 (Z7 fO fN s (some s.mb)),fV Lv.cells s.lv 34 7 s.live,lQ s.mb z .u64 p_ s.im td cur,iL 3 td,iL 3 dn,(sB s),(Z8 s),blk l 130 (yD fO fN s.last e f j (some g)),fV Lv.cells j 34 7 s.live,gQ g .u64 p_ im2,iL 3 dn2,(AW.R e m),(TW.R f o u)] w1/\pG s.im dn td dn2 im2) (fun(dn,td,dn2,im2,cur)=>td.length) ([],s.im,[],s.im,none) ⟨rfl,rfl,trivial⟩ (⟨am,pG.start hU.keys⟩) ?_
 rintro⟨dn,td,dn2,im2,cur⟩ aN aO ⟨hst7,hC7⟩
 obtain⟨an,aP⟩:∃ q,UB ya hst7 (i:=2) rfl=q:=⟨_,rfl⟩
 refine gf hst7 2 ?_
 rcases an with ⟨U,ao⟩|⟨b,x,aQ,B⟩
 . skip
   refine Rn rfl rfl (ao _) ?_
   have aR:=U
   refine fW hst7 16 ?_
   refine gw (v:=(Zb l)) Tryz.results46 rfl ?_
   have hfin:=hC7.fin hU.keys U
   have ap:=St.UQ hst7 (i:=2) rfl
   have aq:=yi [4,0,1,2,3,5,6,7,8,9,10,11,12] ap
   have ar:=St.xz aq hfin.1
   have au:=yi [10,0,1,2,3,4,5,6,7,8,9,11,12] ar
   have av:=St.xz au hfin.2.1
   have I:=yi [2,3,4,1,6,7,8,9,10,0,11,12] av
   have hA9:=(kj I (i:=10) rfl:m.A.ok)
   have hT9:=(kj I (i:=11) rfl:u.ok)
   have hcp:=hU.copy Y hA9 hT9 N.1 N.2.1 hfin.2.2.1 hfin.2.2.2 e f o g j
   have hp1:=yw (p:=fZ.ok fO fN s) (yc [_,_,_,_,_,_] _ I) hU
   have hp2:St _ (gF [_,_,_,_,_,_] :: [(fZ.R fO fN ub s)]) _:=yc [_,_,_,_,_,_] [(fZ.R fO fN ub s)] (oH hp1 (sC (l₁:=[_]) (l₂:=[_,_,_,_,_,_])))
   have hp3:=oH (yw (p:=fZ.ok fO fN (⟨e,f,o,g,j,s.last,m,u,s.live,im2⟩:fZ)) hp2 hcp.1) (List.Perm.swap _ _ _)
   exact⟨l,(⟨e,f,o,g,j,s.last,m,u,s.live,im2⟩:fZ),rfl,⟨hcp.2,rfl⟩,yq (yc [_,_] _ hp3)⟩
 . skip
   refine Rn rfl rfl (B.run _) ?_
   have ax:=B.st
   have ay:=yi [3,0,1,2,4,5,6,7,8,9,10,11,12] ax
   have C:=St.aaL f_ (St.NF (St.xz ay B.perm))
   have hpl7:b.2.2.length<=65536:=by have h7:=hnl2 b.1;rw[hC7.at hU.keys B.perm]at h7;exact h7
   refine fQ C 10 ?_
   refine enM (p:=b) 4 rfl rfl C rfl (fQ C 3 ?_)
   refine u6 (v:=b.2.1) rfl rfl (gL C 2 ?_)
   refine oh (Γ:=Value) mixed [[],[0],[],[],[3],[0,1,2,3,4]] [4,5] d_ [fun _=>(Z4 l),fun _=>(.map (some g)),fun _=>(Zd b.1),fun _=>b.2.1,fun d=>d,fun _=>undef] [(fun d=>[fV gP b.2.1 3 1 b.2.2,iL 3 x,blk ub 130 (Z7 fO fN s (some s.mb)),fV Lv.cells s.lv 34 7 s.live,lQ s.mb z .u64 p_ s.im x (some b),iL 3 dn,(sB s),(Z8 s),blk l 130 (yD fO fN s.last e f j (some g)),fV Lv.cells j 34 7 s.live,gQ g .u64 p_ im2,iL 3 dn2,(AW.R e m),(TW.R f o u)],fun _ _=>True),(fun d=>(Ky d b.2.2 b.2.1 x ub fO fN s (some s.mb) (lQ s.mb z .u64 p_ s.im x (some b)) dn l e f j (some g) g im2 dn2 m o u),fun _ _=>True),(fun d=>(Ky d b.2.2 b.2.1 x ub fO fN s (some s.mb) (lQ s.mb z .u64 p_ s.im x (some b)) dn l e f j (some g) g (gi im2 b.1 (d,b.2.2)) dn2 m o u),fun _ _=>True)] Zk _ rfl C (fun _ _=>trivial) ?_ (fun d=>rfl) rfl ?_
   . skip
     refine gp (fun d _=>jy (o' := 6) rfl rM rfl rC rfl) ?_
     refine nL rfl rfl rfl rfl rfl (fun d wq hM hF=>qv rfl rfl (gU rfl ym rfl (yo hM (i:=8) rfl rfl))) (fun d wq hM hF=>qv rfl rfl (gU rfl ym rfl (yo hM (i:=9) rfl rfl))) (gp (fun d _=>iy (v:=(Zd b.1)) rfl) ?_)
     refine gp (fun d _=>iy (v:=b.2.1) rfl) ?_
     refine jK rfl rfl rfl rfl (fun d wq hM hF=>kD rfl rfl (i6 rfl O1) (Mf b.2.1 b.2.2 wq (yf hM (i:=0) rfl f_).any (by first|omega|(simp;omega))) (fun az _ hz=>⟨az,⟨(uT hM hz.2 hz.1),trivial⟩,rfl,fS rfl (fS rfl (fS rfl (fS rfl (fS trivial (fS trivial (kO))))))⟩)) (jK rfl rfl rfl rfl (fun d wq hM hF=>xG (a:=b.1) (c:=(d,b.2.2)) (mm:=im2) (enc:=p_) (k:=.u64) (L' := (Ky d b.2.2 b.2.1 x ub fO fN s (some s.mb) (lQ s.mb z .u64 p_ s.im x (some b)) dn l e f j (some g) g (gi im2 b.1 (d,b.2.2)) dn2 m o u)) 11 rfl rfl rfl rfl ym yg hM rfl rfl (fun _ h=>⟨d,⟨h,trivial⟩,rfl,jD.refl _ _ _⟩)) ?_)
     exact og
   rintro d aS V -
   refine iN tt none V 1 ?_
   refine tN (?_)
   have aA:=yi [1,6,0,2,3,4,5,7,8,9,10,11,12,13,14] V
   have aB:=((St.Pn f_ aA).IL (p:=b)).xz (sC (l₁:=[_]))
   have aC:=yi [1,11,0,2,3,4,5,6,7,8,9,10,12,13] aB
   have aD:=((St.Pn f_ aC).IL (p:=(b.1,(d,b.2.2)))).xz (sC (l₁:=[_]))
   have aE:=yi [3,4,5,2,1,6,7,8,9,10,0,11,12] aD
   exact again ((dn++[b]),x,(dn2++[(b.1,(d,b.2.2))]),(gi im2 b.1 (d,b.2.2)),(some b)) ⟨rfl,rfl,trivial⟩ (⟨aE,hC7.next hU.keys B.perm d⟩) (by have h7:=B.perm.length_eq;rw[zk]at h7;show x.length<td.length;omega)
end
section
open Go Go.Sx
theorem aaF:ya.eqGuardType ya.depth 96=false:=by kernel_rfl
theorem VF(c:WC)(w:World)(w1:1<=c.win)(wi:c.win<=1000000)(e1:1<=c.fN)(en:c.fN<=16384)(v2:2<=c.fO)(vn:c.fO<=4096)(d0:0<=c.ic/\c.ic<=16384) :
 CR ya 19 #[(wG c.win c.fN c.fO c.ic),wM] w (fun r w' => ∃ (wb:Nat) (s:WW),r = .tuple (qS wb)/\(s.now=0/\s.added=0/\∀ y,¬ s.u.has y)/\gm (gF []) w w' (WW.R c wb s)):=by
 refine enter Tryz.func19 rfl Tryz.ntmps19 rfl ?_
 have hst0:=jO w
 refine gf hst0 2 ?_
 refine bx (v:=(wG c.win c.fN c.fO c.ic)) (cs:=(yJ c.win c.fN c.fO c.ic)) rfl rfl rfl hst0 (fun O x P Q j=>fQ j 8 ?_)
 refine cl ZF (Xw ⟨c.win,(c.fN:Int),(c.fO:Int),c.ic⟩ x w1 (by show _/\_;dsimp only;omega) (by show _/\_;dsimp only;omega) d0) ?_
 rintro _ S ⟨rfl,z⟩
 have k:=jf j z
 refine fQ k 8 ?_
 refine al (cs:=wT) rfl J7 rfl k (fun U V W X l=>fQ l 7 ?_)
 refine kf (pvs:=[(0,(wG c.win c.fN c.fO c.ic)),(5,wM),(6,wM)]) (v:=.agg (QJ c.win c.fN c.fO c.ic)) rfl rfl (jS [(0,(yJ c.win c.fN c.fO c.ic)),(5,CX),(6,CX)] Qd aaq rfl ⟨rfl,rfl,rfl,rfl,rfl,rfl,trivial⟩ rfl) (bx (v:=(.agg (QJ c.win c.fN c.fO c.ic))) (cs:=[(Za c.win),(Za c.fN),(Za c.fO),(Za c.ic),Z6,Z6,Z6,Z6,wM,wM]) rfl rfl rfl l (fun m A Y Z n=>fQ n 8 ?_))
 refine cl Y4 (Xp c.win A w1) ?_
 rintro _ aa ⟨a,rfl,ht⟩
 have B:=(pn n ht)
 refine kL B 18 fun C D=>?_
 refine cl ZG (Vl c.fO c.fN C vn en) ?_
 rintro _ ab ⟨b,o,rfl,d,ht⟩
 have E:=(pn D ht)
 refine kL E 15 fun G H=>?_
 refine cl YK (Xz c.fN G o_) ?_
 rintro _ ac ⟨e,f,q,rfl,I,ht⟩
 have J:=(pn H ht)
 refine kL J 17 fun K L=>?_
 refine cl YS (WE c.fO c.fN K v2 vn en) ?_
 rintro _ ad ⟨h,i,rfl,ht⟩
 have M:=(pn L ht)
 refine kL M 14 fun ae t=>?_
 refine kf (pvs:=[]) (v:=.agg #[Zc,Zc,Zc,Zc]) rfl rfl (BX [] J7 Tryz.underlying96 JW rfl trivial rfl s_) (Y6 (c:=false) rfl rfl rfl Tryz.underlying96 Tryz.underlying46 JW aaF rfl (fW t 13 ?_))
 refine jU (v:=(Zb m)) (v' := Zc) Tryz.results19 rfl rfl ?_
 have N:=yi [4,3,2,1,0] t
 have hok9:=WW.vN w1 wi e1 en v2 vn (g:=i) d.1 d.2 I a b e f h
 exact⟨m,(⟨a,b,e,f,h,0,q,o,i,0,0⟩:WW),rfl,⟨rfl,rfl,d.1⟩,St.BS (yw (p:=WW.ok c (⟨a,b,e,f,h,0,q,o,i,0,0⟩:WW)) (yc [_,_,_,_,_] _ N) hok9) s_⟩
theorem U9(c:WC)(w:World)(w1:1<=c.win)(wi:c.win<=1000000)(e1:1<=c.fN)(en:c.fN<=16384)(v2:2<=c.fO)(vn:c.fO<=4096)(d0:0<=c.ic/\c.ic<=16384) :
 CR ya 11 (Qz c.win c.fN c.fO c.ic) w (fun r w' => ∃ (wb:Nat) (s:WW),r = .tuple (qS wb)/\(s.now=0/\s.added=0/\∀ y,¬ s.u.has y)/\gm (gF []) w w' (WW.R c wb s)):=by
 refine enter Tryz.func11 rfl Tryz.ntmps11 rfl ?_
 have hst0:=jO w
 refine gf hst0 2 ?_
 refine bx (v:=(wG c.win c.fN c.fO c.ic)) (cs:=(yJ c.win c.fN c.fO c.ic)) rfl rfl rfl hst0 (fun h e i j a=>fQ a 7 ?_)
 refine cl YL (VF c e w1 wi e1 en v2 vn d0) ?_
 rintro _ k ⟨b,f,rfl,g,ht⟩
 have d:=(pn a ht)
 refine fW d 7 ?_
 refine jU (v:=(Zb b)) (v' := Zc) Tryz.results11 rfl rfl ?_
 exact⟨b,f,rfl,g,St.eM d⟩
end
section
open Go Go.Sx
end
end Go.Proofs.YtdopagghhibopaaGreat
namespace Go.Proofs
open Go.Shelf Go.Lib Go.Sort Go.RowKit in
def Tryz.S6:Go.Shelf.Ren:=⟨fun|6=>59|15=>117|14=>116|28=>174|29=>175|20=>166|21=>167|22=>168|23=>169|24=>170|25=>171|26=>172|27=>173|46=>210|47=>211|48=>212|49=>213|50=>214|57=>236|n=>n,fun|22=>25|24=>34|25=>134|3=>3|39=>209|0=>0|53=>296|55=>30|4=>4|46=>290|45=>289|50=>120|5=>5|9=>9|66=>331|70=>334|76=>348|77=>349|n=>n,fun|n=>n⟩
open Go.Shelf Go.Lib Go.Sort Go.RowKit in
theorem Tryz.On:Go.Proofs.SlLaysF0.n6 Proofs.Tryz.prog Tryz.S6 where
 mixed:=by kernel_rfl
 f6:=⟨Proofs.Tryz.f59.name,by(decide),Proofs.Tryz.func59.trans (congrArg some<|by kernel_rfl)⟩
 f14:=⟨Proofs.Tryz.f116.name,by(decide),Proofs.Tryz.func116.trans (congrArg some<|by kernel_rfl)⟩
 f15:=Proofs.Tryz.func117.trans (congrArg some<|by kernel_rfl)
 f20:=⟨Proofs.Tryz.f166.name,by(decide),Proofs.Tryz.func166.trans (congrArg some<|by kernel_rfl)⟩
 f21:=⟨Proofs.Tryz.f167.name,by(decide),Proofs.Tryz.func167.trans (congrArg some<|by kernel_rfl)⟩
 f22:=⟨Proofs.Tryz.f168.name,by(decide),Proofs.Tryz.func168.trans (congrArg some<|by kernel_rfl)⟩
 f23:=⟨Proofs.Tryz.f169.name,by(decide),Proofs.Tryz.func169.trans (congrArg some<|by kernel_rfl)⟩
 f24:=⟨Proofs.Tryz.f170.name,by(decide),Proofs.Tryz.func170.trans (congrArg some<|by kernel_rfl)⟩
 f25:=⟨Proofs.Tryz.f171.name,by(decide),Proofs.Tryz.func171.trans (congrArg some<|by kernel_rfl)⟩
 f26:=⟨Proofs.Tryz.f172.name,by(decide),Proofs.Tryz.func172.trans (congrArg some<|by kernel_rfl)⟩
 f27:=⟨Proofs.Tryz.f173.name,by(decide),Proofs.Tryz.func173.trans (congrArg some<|by kernel_rfl)⟩
 f28:=Proofs.Tryz.func174.trans (congrArg some<|by kernel_rfl)
 f29:=Proofs.Tryz.func175.trans (congrArg some<|by kernel_rfl)
 f46:=⟨Proofs.Tryz.f210.name,by(decide),Proofs.Tryz.func210.trans (congrArg some<|by kernel_rfl)⟩
 f47:=Proofs.Tryz.func211.trans (congrArg some<|by kernel_rfl)
 f48:=Proofs.Tryz.func212.trans (congrArg some<|by kernel_rfl)
 f49:=⟨Proofs.Tryz.f213.name,by(decide),Proofs.Tryz.func213.trans (congrArg some<|by kernel_rfl)⟩
 f50:=⟨Proofs.Tryz.f214.name,by(decide),Proofs.Tryz.func214.trans (congrArg some<|by kernel_rfl)⟩
 f57:=⟨Proofs.Tryz.f236.name,by(decide),Proofs.Tryz.func236.trans (congrArg some<|by kernel_rfl)⟩
 t0:=Proofs.Tryz.underlying0
 a0:=Proofs.Tryz.isAgg0
 z0:=Proofs.Tryz.sizeOf0
 v0:=Proofs.Tryz.zeroValue0
 t3:=Proofs.Tryz.underlying3
 a3:=Proofs.Tryz.isAgg3
 z3:=Proofs.Tryz.sizeOf3
 v3:=Proofs.Tryz.zeroValue3
 t4:=Proofs.Tryz.underlying4
 a4:=Proofs.Tryz.isAgg4
 z4:=Proofs.Tryz.sizeOf4
 v4:=Proofs.Tryz.zeroValue4
 t5:=Proofs.Tryz.underlying5
 a5:=Proofs.Tryz.isAgg5
 z5:=Proofs.Tryz.sizeOf5
 v5:=Proofs.Tryz.zeroValue5
 t9:=Proofs.Tryz.underlying9
 a9:=Proofs.Tryz.isAgg9
 z9:=Proofs.Tryz.sizeOf9
 v9:=Proofs.Tryz.zeroValue9
 t22:=Proofs.Tryz.underlying25
 a22:=Proofs.Tryz.isAgg25
 z22:=Proofs.Tryz.sizeOf25
 v22:=Proofs.Tryz.zeroValue25
 t25:=Proofs.Tryz.underlying134
 a25:=Proofs.Tryz.isAgg134
 z25:=Proofs.Tryz.sizeOf134
 v25:=Proofs.Tryz.zeroValue134
 t39:=Proofs.Tryz.underlying209
 a39:=Proofs.Tryz.isAgg209
 z39:=Proofs.Tryz.sizeOf209
 v39:=Proofs.Tryz.zeroValue209
 t45:=Proofs.Tryz.underlying289
 a45:=Proofs.Tryz.isAgg289
 z45:=Proofs.Tryz.sizeOf289
 v45:=Proofs.Tryz.zeroValue289
 t46:=Proofs.Tryz.underlying290
 a46:=Proofs.Tryz.isAgg290
 z46:=Proofs.Tryz.sizeOf290
 v46:=Proofs.Tryz.zeroValue290
 t50:=Proofs.Tryz.underlying120
 a50:=Proofs.Tryz.isAgg120
 z50:=Proofs.Tryz.sizeOf120
 v50:=Proofs.Tryz.zeroValue120
 t53:=Proofs.Tryz.underlying296
 a53:=Proofs.Tryz.isAgg296
 z53:=Proofs.Tryz.sizeOf296
 v53:=Proofs.Tryz.zeroValue296
 t55:=Proofs.Tryz.underlying30
 a55:=Proofs.Tryz.isAgg30
 z55:=Proofs.Tryz.sizeOf30
 v55:=Proofs.Tryz.zeroValue30
 t66:=Proofs.Tryz.underlying331
 a66:=Proofs.Tryz.isAgg331
 z66:=Proofs.Tryz.sizeOf331
 v66:=Proofs.Tryz.zeroValue331
 t70:=Proofs.Tryz.underlying334
 a70:=Proofs.Tryz.isAgg334
 z70:=Proofs.Tryz.sizeOf334
 v70:=Proofs.Tryz.zeroValue334
 t76:=Proofs.Tryz.underlying348
 a76:=Proofs.Tryz.isAgg348
 z76:=Proofs.Tryz.sizeOf348
 v76:=Proofs.Tryz.zeroValue348
 t77:=Proofs.Tryz.underlying349
 a77:=Proofs.Tryz.isAgg349
 z77:=Proofs.Tryz.sizeOf349
 v77:=Proofs.Tryz.zeroValue349
end Go.Proofs
namespace Go.Proofs.YtdopagghhibopaaGreat
section
open Go Go.Sx Go.Lib Go.Sort Go.RowKit
theorem aaR(x:Int)(w:World):Calls ya 118 #[.int .u64 x] w fun e w' => e = .returned Zq/\w' = w:=by
 go_enter Tryz.func118,Tryz.ntmps118
 go_wp2
 go_ret
 exact⟨s_,rfl⟩
theorem aaK(x y:Int)(w:World):Calls ya 61 (CT x y) w fun e w' => e = .returned (Za (compareInt x y))/\w' = w:=by
 go_enter Tryz.func61,Tryz.ntmps61
 go_wp2_with (go_at_call 118;refine(aaR _ _).mono ?_;rintro e w' ⟨rfl,hw⟩;rw[hw])
 all_goals (go_ret;refine⟨?_,rfl⟩;unfold compareInt;(repeat' split)<;>first|rfl|(exfalso;omega))
def xU(x y:Lv):Int:=compareInt x.seq y.seq
theorem aag(x y:Lv)(W:World):Calls ya 60 #[.agg x.cells.toArray,.agg y.cells.toArray] W fun e w' => e = .returned (Za (xU x y))/\∃ q os', w' = grow (W.drewN q) os' := by
 have hcon:=fun W' => aaK x.seq y.seq W'
 unfold xU
 generalize compareInt x.seq y.seq=r at hcon ⊢
 obtain⟨x1,x2,x3,x4,x5,x6,x7⟩:=x
 obtain⟨y1,y2,y3,y4,y5,y6,y7⟩:=y
 simp only[Lv.cells]at hcon ⊢
 go_enter Tryz.func60,Tryz.ntmps60
 go_wp2_with (go_at_call 61;refine(hcon _).mono ?_;rintro e w' ⟨rfl,rfl⟩)
 go_ret
 exact⟨rfl,0,_,by rw[alloc_eq_grow,alloc_eq_grow,grow_grow];rfl⟩
theorem EM(x y:Lv):ltOf xU x y=decide (x.seq<y.seq):=by
 unfold ltOf xU compareInt
 by_cases h1:x.seq<y.seq
 . simp[h1]
 . by_cases h2:y.seq<x.seq<;>simp[h1,h2]
theorem YB:SWO (ltOf xU) where
 irrefl x:=by rw[EM];simp
 trans x y z h1 h2:=by rw[EM]at *;simp at *;omega
 ntrans x y z h1 h2:=by rw[EM]at *;simp at *;omega
theorem VJ(v:Value)(xs:List Lv)(w:World)(hO:Own (Gs v xs) w)(hl:xs.length<=1000000) :
 CR ya 59 #[v,.func (.func 60) #[] #[]] w (fun r w' => ∃ ys:List Lv,r = .tuple #[]/\(ys.Perm xs/\ys.Pairwise fun a b=>a.seq<=b.seq)/\gm (Gs v xs) w w' (Gs v ys)):=by
 refine CR.mono (Vm (cf:=Lv.cells) (k:=7) (xs:=xs) (lt:=ltOf xU) f_ d_ hO o_ (AnyF.slices_SortFunc_none (P:=ya) Tryz.On none 0 _ w) fun blk cap d hH hb hsz=>?_) ?_
 . exact AnyQ.slices_SortFunc (P:=ya) Tryz.On 7 Tryz.isAgg34 Tryz.sizeOf34 Lv.cells f_ (fun x v hv=>by simp[Lv.cells]at hv;rcases hv with rfl|rfl|rfl|rfl|rfl|rfl|rfl<;>rfl) xU YB 60 #[] blk 0 cap d w (enters_of Tryz.func60 k_ rfl) (fun _ _ _ _ x y=>aag x y _) hH hb hsz
 . rintro r w' ⟨rfl,ys,h1,h2,ht⟩
   exact⟨ys,rfl,⟨h1,h2.imp fun {a b} h=>by rw[EM]at h;simpa using h⟩,ht⟩
end
section
open Go Go.Sx
theorem V0(ab:Nat)(v:AW)(w:World)(hO:Own (AW.R ab v) w) :
 CR ya 58 (Zl ab) w (fun r w' => ∃ lv,r=lv/\gm (AW.R ab v) w w' (gF [AW.R ab v,fV gP lv 3 1 (v.A.list v.A.begun)])):=by
 refine CR.mono (U0 ab v.bv v.A w hO.un hO.fact) fun r w' ⟨lv,h1,ht⟩=>⟨lv,h1,?_⟩
 refine((gm.EH (A:=(A5 ab v.bv v.A)) (B:=[iB .i64 lv 3 (gx (v.A.list v.A.begun))]) ht).F4.E6 (by have e:∀ l:List Nat,l++[]=l:=mD;simp only[AW.R,jZ,gF,iT,lu,List.flatMap_nil,e];rfl) fun h=>?_)
 intro Q hQ
 simp only[zg,sw,or_false]at hQ
 rcases hQ with rfl|rfl
 . exact⟨hO.fact,h _ s_⟩
 . rw[DY f_]
   exact h _ (mQ _ zh) _ s_
theorem US(fO fN ub:Nat)(s:fZ)(w:World)(hO:Own (fZ.R fO fN ub s) w) :
 CR ya 26 (Zl ub) w (fun r w' => ∃ (v:Value) (ys:List Lv),r=v/\s.nD ys/\gm (fZ.R fO fN ub s) w w' (gF [(fZ.R fO fN ub s),fV Lv.cells v 34 7 ys])):=by
 have htu:s.t.A.used<=s.t.A.n:=hO.fact.tok.ul
 have hUn:=hO.fact.n
 have hUt:=hO.fact.tn
 have hUe:=hO.fact.en
 have hUv:=hO.fact.vn
 have hAu:s.A.used<=s.A.begun:=by have h7:=hO.fact.lX.used;omega
 have hAl:=hO.fact.lX.le
 have hll:s.live.length=s.A.begun:=hO.fact.ll
 have hLl:(s.A.list s.A.begun).length=s.A.used:=hO.fact.lX.DK
 have hAn:s.A.n=fN:=hUn
 refine en Tryz.func26 Tryz.ntmps26 ?_
 have hst0:=Own.of hO.un
 have hU:s.ok fO fN:=hO.fact
 have e:=yw (p:=s.ok fO fN) (yc [_,_,_,_,_,_] _ hst0) hU
 refine gf hst0 9 ?_
 refine cl B7 (BE fO fN ub s w (yd e (i:=0) rfl)) ?_
 rintro _ l ⟨rfl,ht⟩
 have o:=yu 0 e ht
 have b:=(kB o).unpack
 refine fQ b 18 ?_
 refine cl aan (V0 s.iO s.aw l (yd b (i:=4) rfl)) ?_
 rintro a q ⟨_,rfl,ht⟩
 have u:=yi [4,0,1,2,3,5] b
 have c:=mG (yu 0 u ht)
 refine mY (m:=(s.A.list s.A.begun).length) 1 rfl rfl yh c rfl ?_
 have y:St _ [fV Lv.cells Zk 34 7 (((s.A.list s.A.begun).take 0).map (fM s.live)),(sB s),fV gP a 3 1 (s.A.list s.A.begun),blk ub 130 (Z7 fO fN s (some s.mb)),fV Lv.cells s.lv 34 7 s.live,gQ s.mb .u64 p_ s.im,iL 3 s.im,(Z8 s)] q:=sI c 34 7
 have z:=yi [3,4,5,6,1,7,2,0] y
 refine gL c 4 ?_
 refine lp (α:=Nat×Value) (fun(k,xv)=>[(0,(Zb ub)),(3,xv),(13,a),(14,(Za ((s.A.list s.A.begun).length:Int))),(15,(Za k))]) (fun(k,xv) w1=>St [(w,(fZ.R fO fN ub s).gT)] [blk ub 130 (Z7 fO fN s (some s.mb)),fV Lv.cells s.lv 34 7 s.live,gQ s.mb .u64 p_ s.im,iL 3 s.im,(sB s),(Z8 s),fV gP a 3 1 (s.A.list s.A.begun),fV Lv.cells xv 34 7 (((s.A.list s.A.begun).take k).map (fM s.live))] w1/\k<=(s.A.list s.A.begun).length) (fun(k,xv)=>(s.A.list s.A.begun).length-k) (0,Zk) ⟨rfl,rfl,rfl,rfl,gD (by first|rfl|omega),trivial⟩ (⟨z,o_⟩) ?_
 rintro⟨k,xv⟩ H B ⟨hst2,hk2⟩
 refine gf hst2 2 ?_
 by_cases I:((k:Int):Int)<(((s.A.list s.A.begun).length:Int):Int)
 . have hkl:k<(s.A.list s.A.begun).length:=by omega
   have hil:fM (s.A.list s.A.begun) k<s.live.length:=by rw[hll];exact((hU.lX.pK _).1 (q6.2 ⟨k,hkl,rfl⟩)).1
   refine fQ hst2 11 ?_
   refine jj (cf:=gP) (k:=k) (i:=(k:Int)) rfl rfl rfl yh gn (yf hst2 (i:=6) rfl f_) o_ o_ (gA om) (l6 (cf:=gP) rfl rfl ye rfl (yf hst2 (i:=6) rfl f_) (gA om) rfl (fQ hst2 10 ?_))
   refine jj (cf:=Lv.cells) (k:=(fM (s.A.list s.A.begun) k)) (i:=(((fM (s.A.list s.A.begun) k):Nat):Int)) rfl rfl rfl y9 iX (yf hst2 (i:=1) rfl f_) o_ o_ (gA om) (sj (cf:=Lv.cells) (cs:=(Zs (fM s.live (fM (s.A.list s.A.begun) k)))) rfl rfl yx rfl iX (yf hst2 (i:=1) rfl f_) (gA om) rfl rfl (lC (vs:=[(vk (fM s.live (fM (s.A.list s.A.begun) k)))]) (cs:=(Zs (fM s.live (fM (s.A.list s.A.begun) k)))) rfl rfl y9 iX rfl (by simp[Value.cells]) rfl rfl rfl hst2 (fun C J K L f=>mZ (cf:=Lv.cells) (ys:=(((s.A.list s.A.begun).take k).map (fM s.live))) (zs:=[(fM s.live (fM (s.A.list s.A.begun) k))]) (LL:=fun d=>[row (Zy C) 34 7 1 ((Zs (fM s.live (fM (s.A.list s.A.begun) k)))),blk ub 130 (Z7 fO fN s (some s.mb)),fV Lv.cells s.lv 34 7 s.live,gQ s.mb .u64 p_ s.im,iL 3 s.im,(sB s),(Z8 s),fV gP a 3 1 (s.A.list s.A.begun),fV Lv.cells d 34 7 ((((s.A.list s.A.begun).take k).map (fM s.live))++[(fM s.live (fM (s.A.list s.A.begun) k))])]) 8 rfl rfl rfl y9 iX rfl d_ f rfl (mh f (i:=0) rfl) (fun x hx=>zz.1 (show List.all _ _=true from rfl) x hx) (by simp only[zn,zk,zq,zu,l5,maxLen];omega) (by simp only[zn,zk,zq,zu,l5,maxLen];omega) f_ ?_)))
   intro d M D N
   have g:=yi [1,2,3,4,5,6,7,8] D
   refine fW g 8 ?_
   refine tN (?_)
   exact again ((k+1),d) ⟨rfl,rfl,rfl,rfl,gD (by first|rfl|omega),trivial⟩ (⟨by rw[SG _ hkl];exact g,o_⟩) (by show ((s.A.list s.A.begun).length-(k+1):Nat)<(s.A.list s.A.begun).length-k;omega)
 . refine fQ hst2 13 ?_
   refine cl YU (VJ xv (((s.A.list s.A.begun).take k).map (fM s.live)) B (yd hst2 (i:=7) rfl) (by rw[zu,l5];omega)) ?_
   rintro _ O ⟨E,rfl,h,ht⟩
   have j:=yu 7 hst2 ht
   refine fW j 9 ?_
   refine gw (v:=xv) Tryz.results26 rfl ?_
   have G:=yi [0,1,2,3,4,5,7,6] j
   have hke:k=(s.A.list s.A.begun).length:=by omega
   subst hke
   have hl9:=fZ.X0 hU (by have h7:=h.1;rwa [FA]at h7) h.2
   have hp1:=yw (p:=fZ.ok fO fN s) (yc [_,_,_,_,_,_] _ G) hU
   exact⟨xv,E,rfl,hl9,yq (yc [_,_] _ hp1)⟩
end
section
open Go Go.Sx
theorem Ja{fO fN ub:Nat}{s:fZ}{w:World}(h:Own (fZ.R fO fN ub s) w):s.t.A.ok :=
 (kj (Own.of (yd (Own.of h.un) (i:=5) rfl).un) (i:=3) rfl:s.t.w.A.ok)
theorem MK(sb hb n:Nat)(s:QS)(w:World)(hO:Own (QS.SR sb hb n s) w)(now:Int)(hn:n<=65536) :
 CR ya 48 (Zn sb now) w (fun r w' => ∃ v ds t,v=r/\qG n s t ds now/\gm (QS.SR sb hb n s) w w' (gF [QS.SR sb hb n t,fV gP v 3 1 ds])):=by
 refine CR.mono (WU sb hb n s w hO now hn) fun r w' ⟨v,ds,t,h1,h2,ht⟩=>⟨v,ds,t,h1.symm,h2,?_⟩
 rw[DY f_]
 exact ht
theorem Va(cb:Nat)(win now:Int)(w:World)(hO:Own (Zt cb win now) w)(h1:1<=win)(hwin:ij .i64 win)(t:Int)(htt:ij .i64 t)(h2:now<=t)(h3 : -9223372036854775808<=t+win/\t+win<=9223372036854775807) :
 CR ya 50 (Zn cb t) w (fun r w' => r = .int .i64 0/\gm (Zt cb win now) w w' (Zt cb win t)):=by
 have h:=Sv cb win now w hO h1 hwin t htt
 rw[NT h2 h3,if_pos rfl]at h
 exact h
theorem VY(c:WC)(wb:Nat)(s:WW)(w:World)(hO:Own (WW.R c wb s) w)(T:Int)(hT:s.now<=T)(hT2:T<=1000000) :
 CR ya 23 (Zn wb T) w (fun r w' => ∃ (s2:WW),r = .int .i64 0/\(s2.now=T/\s2.added=s.added/\(∀ y,s2.u.has y↔s.u.has y/\T<y.exp)/\s2.u.last=s.u.last)/\gm (WW.R c wb s) w w' (WW.R c wb s2)):=by
 refine en Tryz.func23 Tryz.ntmps23 ?_
 have hst0:=Own.of hO.un
 have hW:s.ok c:=hO.fact
 have hw1:=hW.w1
 have hw2:=hW.wi
 have hw3:=hW.n0
 have hw4:=hW.n1
 have huok:fZ.ok c.fO c.fN s.u:=(kj hst0 (i:=2) rfl)
 have hwen:=hW.en
 have hwe1:=hW.e1
 have hwv2:=hW.v2
 have hwvn:=hW.vn
 have hwa0:=hW.a0
 have hwa1:=hW.a1
 have hwla:=hW.la
 have hwl0:=huok.uz
 have n:=yw (p:=s.ok c) (yc [_,_,_,_,_] _ hst0) hW
 refine gf hst0 9 ?_
 refine cl EU (DH c wb s w (yd n (i:=0) rfl)) ?_
 rintro _ z ⟨rfl,ht⟩
 have A:=yu 0 n ht
 have f:=(kB A).unpack
 refine fQ f 14 ?_
 refine cl ZS (Va s.cb c.win s.now z (yd f (i:=1) rfl) hw1 (lV o_) T (lV o_) hT o_) ?_
 rintro _ B ⟨rfl,ht⟩
 have h:=yu 1 f ht
 refine fQ h 20 ?_
 refine cl O3 (MK s.sb s.hb c.fN s.q B (yd h (i:=3) rfl) T o_) ?_
 rintro _ K ⟨o,a,j,rfl,b,ht⟩
 have C:=yi [3,0,1,2,4] h
 have l:=mG (yu 0 C ht)
 have hdl:a.length<=c.fN:=b.len
 refine mY (m:=a.length) 1 rfl rfl yh l rfl ?_
 have D:=yi [2,3,4,0,5,1] l
 refine gL l 4 ?_
 refine lp (α:=Nat×fZ×GW×Int) (fun(k,u2,g2,ex)=>[(0,(Zb wb)),(25,o),(26,(Za a.length)),(27,(Za k))]) (fun(k,u2,g2,ex) w1=>St [(w,(WW.R c wb s).gT)] [blk wb 83 [(Za c.win),(Za c.fN),(Za c.fO),(Za c.ic),(Zb s.cb),(Zb s.ub),(Zb s.sb),(Zb s.ob),(Zd s.added),(Zd ex)],(Zt s.cb c.win T),(fZ.R c.fO c.fN s.ub u2),(QS.SR s.sb s.hb c.fN j),(GW.R c.fO c.fN s.ob g2),fV gP o 3 1 a] w1/\o6 s.u u2 (a.take k)/\ij .u64 ex/\k<=a.length) (fun(k,u2,g2,ex)=>a.length-k) (0,s.u,s.g,s.xA) ⟨rfl,rfl,rfl,gD (by first|rfl|omega),trivial⟩ (⟨D,o6.start _,hW.ex,o_⟩) ?_
 rintro⟨k,u2,g2,ex⟩ L E ⟨hst3,hR,hex,hk3⟩
 refine gf hst3 2 ?_
 by_cases M:((k:Int):Int)<((a.length:Int):Int)
 . have hkl:k<a.length:=by omega
   refine fQ hst3 11 ?_
   refine jj (cf:=gP) (k:=k) (i:=(k:Int)) rfl rfl rfl yh gn (yf hst3 (i:=5) rfl f_) o_ o_ (gA om) (l6 (cf:=gP) rfl rfl ye rfl (yf hst3 (i:=5) rfl f_) (gA om) rfl (fQ hst3 9 ?_))
   refine cl Y8 (Tn c.fO c.fN s.ob g2 E (yd hst3 (i:=4) rfl)) ?_
   rintro _ G ⟨H,N,O,rfl,ht⟩
   have d:=yu 4 hst3 ht
   have hu29:=(kj d (i:=2) rfl:fZ.ok c.fO c.fN u2)
   have hcan:=o6.can hR hW.AY hu29 b (gA hkl)
   refine fQ d 9 ?_
   refine cl Pv (LP c.fO c.fN s.ub u2 G (yd d (i:=2) rfl) (fM a k) hcan) ?_
   rintro _ P ⟨I,rfl,t,ht⟩
   have x:=yu 2 d ht
   refine fQ x 7 ?_
   refine ar (e:=IntKind.u64.wrap (ex+1)) rfl rfl rfl rfl rfl (mR x 10 fun Q J=>?_)
   refine tN (?_)
   exact again ((k+1),I,H,IntKind.u64.wrap (ex+1)) ⟨rfl,rfl,rfl,gD (by first|rfl|omega),trivial⟩ (⟨J,by rw[yO,gA hkl];exact hR.next t.1 t.2,U1 _,o_⟩) (by show (a.length-(k+1):Nat)<a.length-k;omega)
 . refine fW hst3 16 ?_
   refine gw (v:=Zc) Tryz.results23 rfl ?_
   have hke:k=a.length:=by omega
   rw[hke,FA]at hR
   have hfin:=hR.fin hW.AY huok b
   have hok9:=hW.tick hT hT2 hex b hfin hR.last (g2:=g2)
   exact⟨(⟨s.cb,s.ub,s.sb,s.hb,s.ob,T,j,u2,g2,s.added,ex⟩:WW),rfl,⟨rfl,rfl,hfin,hR.last⟩,yv (yw (p:=WW.ok c (⟨s.cb,s.ub,s.sb,s.hb,s.ob,T,j,u2,g2,s.added,ex⟩:WW)) (yc [_,_,_,_,_] _ hst3) hok9) zh⟩
end
section
open Go Go.Sx
theorem U2(cb:Nat)(win now:Int)(w:World)(hO:Own (Zt cb win now) w)(h1:1<=win)(hwin:ij .i64 win)(t:Int)(htt:ij .i64 t)(h3 : -9223372036854775808<=t+win/\t+win<=9223372036854775807) :
 CR ya 52 (Zn cb t) w (fun r w' => r = .tuple (Bm (t+win))/\gm (Zt cb win now) w w' (Zt cb win now)):=by
 have h:=Td cb win now w hO h1 hwin t htt
 rw[zS h3]at h
 exact h
abbrev WB:List (List Nat):=[[],[0],[0,1],[0,1,2],[],[],[0,1,2,3,4,5],[0,1,2,3,4,5,6],[0,1,2,3,4,5,6,7],[0,1,2,3,4,5,6,7],[],[0,1,2,3,4,5,6,7,8,10],[0,1,2,3,4,5,6,7,8,9,10,11]]
theorem SK(c:WC)(wb:Nat)(s:WW)(w:World)(hO:Own (WW.R c wb s) w)(x:Lv)(hxo:x.ok)(hxt:x.t=s.now)(hc:s.u.gG c.fO c.fN x.u x.v=0)(ha:s.added<1000000) :
 CR ya 24 (CA wb x) w (fun r w' => ∃ (s2:WW),r = .tuple #[]/\(s2.now=s.now/\s2.added=s.added+1/\∀ y,s2.u.has y->s.u.has y\/(y.u=x.u/\y.v=x.v))/\gm (WW.R c wb s) w w' (WW.R c wb s2)):=by
 refine en Tryz.func24 Tryz.ntmps24 ?_
 have hst0:=Own.of hO.un
 have hW:s.ok c:=hO.fact
 have hw1:=hW.w1
 have hw2:=hW.wi
 have hw3:=hW.n0
 have hw4:=hW.n1
 have huok:fZ.ok c.fO c.fN s.u:=(kj hst0 (i:=2) rfl)
 have hwen:=hW.en
 have hwe1:=hW.e1
 have hwv2:=hW.v2
 have hwvn:=hW.vn
 have hwa0:=hW.a0
 have hwa1:=hW.a1
 have hwla:=hW.la
 have hwl0:=huok.uz
 have hl9:s.u.last<=9000000000000000000:=by omega
 have hxt9:=hxt
 have hxe:Lv.ok (Lv.mk x.slot x.seq x.u x.v x.wt x.t (x.t+c.win)):=⟨hxo.slot,hxo.seq,hxo.u,hxo.v,hxo.wt,hxo.t,lV (by show _/\_;dsimp only;omega)⟩
 refine gf hst0 2 ?_
 refine bx (v:=(tZ x)) (cs:=(Zp x)) rfl rfl rfl hst0 (fun f aa ab ac D=>gL D 3 ?_)
 refine jN D 6 ?_
 intro wq hM
 refine kD rfl rfl (i6 rfl aai) (U2 s.cb c.win s.now wq (yd hM (i:=2) rfl) hw1 (lV o_) x.t hxo.t o_) ?_
 rintro _ _ ⟨rfl,ht1⟩
 refine jM (yu 2 hM ht1) (fun ad Q=>?_)
 have E:=yi [2,0,1,3,4,5] Q
 refine kF tt none E 2 ?_
 refine PY (Γ:=Nat×fZ×Nat) mixed WB [6,10,11] k_ [fun(a,b,d)=>(Zb wb),fun(a,b,d)=>(Zb wb),fun(a,b,d)=>(.pointer (some ⟨wb,5,none⟩)),fun(a,b,d)=>(Zb s.ub),fun(a,b,d)=>(tZ x),fun(a,b,d)=>(Za (x.t+c.win)),fun(a,b,d)=>(Cv ((a:Nat):Int) (s.u.last+1) x (x.t+c.win)),fun(a,b,d)=>(Cv ((a:Nat):Int) (s.u.last+1) x (x.t+c.win)),fun(a,b,d)=>(Q8 ((a:Nat):Int) (s.u.last+1) x (x.t+c.win)),fun(a,b,d)=>Zc,fun(a,b,d)=>(Zb d),fun(a,b,d)=>undef,fun(a,b,d)=>Zc] [([],(fun(a,b,d)=>[(tY s c.win),blk f 32 (Zp x),blk wb 83 (tT c.win c.fN c.fO c.ic s),(fZ.R c.fO c.fN s.ub s.u),(wR s c.fN),(wP c.fO c.fN s)],fun _ _=>True)),([6],(fun(a,b,d)=>[(tY s c.win),blk f 32 (Zp x),blk wb 83 (tT c.win c.fN c.fO c.ic s),jZ ((∀ y,fZ.has b y↔s.u.has y\/y=(⟨((a:Nat):Int),s.u.last+1,x.u,x.v,x.wt,x.t,x.t+c.win⟩:Lv))/\fZ.last b=s.u.last+1) (fZ.R c.fO c.fN s.ub b),(wR s c.fN),(wP c.fO c.fN s)],fun _ _=>True)),([10],(fun(a,b,d)=>[blk d 34 Zx,(tY s c.win),blk f 32 (Zp x),blk wb 83 (tT c.win c.fN c.fO c.ic s),(fZ.R c.fO c.fN s.ub s.u),(wR s c.fN),(wP c.fO c.fN s)],fun _ _=>True)),([6,10],(fun(a,b,d)=>[blk d 34 Zx,(tY s c.win),blk f 32 (Zp x),blk wb 83 (tT c.win c.fN c.fO c.ic s),jZ ((∀ y,fZ.has b y↔s.u.has y\/y=(⟨((a:Nat):Int),s.u.last+1,x.u,x.v,x.wt,x.t,x.t+c.win⟩:Lv))/\fZ.last b=s.u.last+1) (fZ.R c.fO c.fN s.ub b),(wR s c.fN),(wP c.fO c.fN s)],fun _ _=>True)),([6,10,11],(fun(a,b,d)=>(Ro d ((a:Nat):Int) (s.u.last+1) x (x.t+c.win) s c.win f wb c.fN c.fO c.ic ((∀ y,fZ.has b y↔s.u.has y\/y=(⟨((a:Nat):Int),s.u.last+1,x.u,x.v,x.wt,x.t,x.t+c.win⟩:Lv))/\fZ.last b=s.u.last+1) b),fun _ _=>True))] (0,s.u,0) (fun(a,b,d)=>(7,Zc) :: (6,(Zb d)) :: (31,Zc) :: (30,(Q8 ((a:Nat):Int) (s.u.last+1) x (x.t+c.win))) :: (22,(Cv ((a:Nat):Int) (s.u.last+1) x (x.t+c.win))) :: (29,(Cv ((a:Nat):Int) (s.u.last+1) x (x.t+c.win))) :: (28,(Za (x.t+c.win))) :: (27,(tZ x)) :: (26,(Zb s.ub)) :: (25,(.pointer (some ⟨wb,5,none⟩))) :: (24,(Zb wb)) :: (23,(Zb wb)) :: _) rfl E (fun _ _=>trivial) ?_ (fun(a,b,d)=>rfl) rfl ?_
 . skip
   refine nv rfl (fun(a,b,d) _ _=>qv rfl rfl (iy (v:=(Zb wb)) rfl)) (nv rfl (fun(a,b,d) _ _=>qv rfl rfl (j6 rfl)) (nv rfl (fun(a,b,d) _ _=>qv rfl rfl (jy (o' := 5) rfl F8 rfl JV rfl)) (Ag rfl ⟨(fun(a,b,d) wq hM hF=>qv rfl rfl (gU rfl Gl rfl (yo hM (i:=2) rfl rfl))),trivial,(fun(a,b,d) wq hM hF=>qv rfl rfl (gU rfl Gl rfl (yo hM (i:=3) rfl rfl))),trivial,trivial,trivial⟩ (Ag rfl ⟨(fun(a,b,d) wq hM hF=>qv rfl rfl (pU (cs:=(Zp x)) rfl qi rfl p6 rfl (kT hM (i:=1) (o:=0) (vs:=(Zp x)) rfl rfl))),trivial,(fun(a,b,d) wq hM hF=>qv rfl rfl (pU (cs:=(Zp x)) rfl qi rfl p6 rfl (kT hM (i:=2) (o:=0) (vs:=(Zp x)) rfl rfl))),trivial,trivial,trivial⟩ (nv rfl (fun(a,b,d) _ _=>qv rfl rfl (iy (v:=(Za (x.t+c.win))) rfl)) (Al rfl ⟨⟨_,_,rfl,fun(a,b,d) wq hM hF=>kD rfl rfl (i6 rfl Pr) (LJ c.fO c.fN s.ub s.u wq (yd hM (i:=3) rfl) (Lv.mk x.slot x.seq x.u x.v x.wt x.t (x.t+c.win)) hxe hc hl9) (fun _ _ hz=>by obtain⟨n,z,rfl,hF1,ht1⟩:=hz;exact⟨(n,z,d),⟨(yu 3 hM (ht1.oC hF1)),trivial⟩,rfl,fS rfl (fS rfl (fS rfl (fS rfl (fS rfl (fS rfl (fS trivial (fS trivial (fS trivial (fS trivial (fS rfl (fS trivial (fS trivial (kO)))))))))))))⟩)⟩,trivial,⟨_,_,rfl,fun(a,b,d) wq hM hF=>kD rfl rfl (i6 rfl Pr) (LJ c.fO c.fN s.ub s.u wq (yd hM (i:=4) rfl) (Lv.mk x.slot x.seq x.u x.v x.wt x.t (x.t+c.win)) hxe hc hl9) (fun _ _ hz=>by obtain⟨n,z,rfl,hF1,ht1⟩:=hz;exact⟨(n,z,d),⟨(yu 4 hM (ht1.oC hF1)),trivial⟩,rfl,fS rfl (fS rfl (fS rfl (fS rfl (fS rfl (fS rfl (fS trivial (fS trivial (fS trivial (fS trivial (fS rfl (fS trivial (fS trivial (kO)))))))))))))⟩)⟩,trivial,trivial,trivial⟩ (nv rfl (fun(a,b,d) _ _=>qv rfl rfl (iy (v:=(Cv ((a:Nat):Int) (s.u.last+1) x (x.t+c.win))) rfl)) ?_)))))))
   refine nv rfl (fun(a,b,d) _ _=>qv rfl rfl (xS rfl rfl)) (nv rfl (fun(a,b,d) _ _=>qv rfl rfl (xS rfl rfl)) (Al rfl ⟨⟨_,_,rfl,fun(a,b,d) wq hM hF=>JX (cs:=Zx) rfl iX rfl hM (fun A _ h=>⟨(a,b,A),⟨h,trivial⟩,rfl,fS rfl (fS rfl (fS rfl (fS rfl (fS rfl (fS rfl (fS rfl (fS rfl (fS rfl (fS rfl (fS trivial (fS trivial (fS trivial (kO)))))))))))))⟩)⟩,⟨_,_,rfl,fun(a,b,d) wq hM hF=>JX (cs:=Zx) rfl iX rfl hM (fun A _ h=>⟨(a,b,A),⟨h,trivial⟩,rfl,fS rfl (fS rfl (fS rfl (fS rfl (fS rfl (fS rfl (fS rfl (fS rfl (fS rfl (fS rfl (fS trivial (fS trivial (fS trivial (kO)))))))))))))⟩)⟩,trivial,trivial,trivial,trivial⟩ (Al rfl ⟨trivial,trivial,trivial,⟨_,_,rfl,fun(a,b,d) wq hM hF=>nu (L' := (Ro d ((a:Nat):Int) (s.u.last+1) x (x.t+c.win) s c.win f wb c.fN c.fO c.ic ((∀ y,fZ.has b y↔s.u.has y\/y=(⟨((a:Nat):Int),s.u.last+1,x.u,x.v,x.wt,x.t,x.t+c.win⟩:Lv))/\fZ.last b=s.u.last+1) b)) 0 rfl rfl rfl rfl iX rfl rfl hM rfl rfl rfl rfl (fun _ h=>⟨(a,b,d),⟨h,trivial⟩,rfl,jD.refl _ _ _⟩)⟩,trivial,trivial⟩ (nv rfl (fun(a,b,d) _ _=>qv rfl rfl (pV (v:=Zc) rfl)) ?_))))
   exact PG
 rintro⟨a,b,d⟩ ae S -
 have G:=yi [4,0,1,2,3,5,6] S
 have k:=nT G
 have B:=kB G
 refine kF tt none B 2 ?_
 have hu29:=(kj B (i:=0) rfl:fZ.ok c.fO c.fN b)
 have hfree:=hW.free huok hu29 (i:=a) (e:=(⟨((a:Nat):Int),s.u.last+1,x.u,x.v,x.wt,x.t,x.t+c.win⟩:Lv)) rfl rfl k.1
 have hieb:a<c.fN:=by obtain⟨j,h7,_,_,h8⟩:=hu29.xl ((k.1 _).2 (.inr rfl));have h9:((a:Nat):Int)=(j:Int):=h7;omega
 refine jN B 6 ?_
 intro wq hM
 refine kD rfl rfl (i6 rfl PL) (Mk c.fO c.fN s.ub b wq (yd hM (i:=0) rfl) x.u) ?_
 rintro _ _ ⟨H,af,rfl,hF1,ht1⟩
 refine jM (yu 0 hM (ht1.oC hF1)) (fun ag I=>?_)
 have U:=nT I
 have J:=kB I
 refine kF tt none J 2 ?_
 have hza:H<c.fO:=by have h7:=TW.wC.lt U hu29.tok (by rw[hu29.tn];omega);rw[hu29.tn]at h7;exact h7
 refine jN J 6 ?_
 intro wq hM
 refine kD rfl rfl (i6 rfl PL) (Mk c.fO c.fN s.ub b wq (yd hM (i:=0) rfl) x.v) ?_
 rintro _ _ ⟨K,ah,rfl,hF1,ht1⟩
 refine jM (yu 0 hM (ht1.oC hF1)) (fun ai L=>?_)
 have V:=nT L
 have M:=kB L
 refine kF tt none M 2 ?_
 have hzb:K<c.fO:=by have h7:=TW.wC.lt V hu29.tok (by rw[hu29.tn];omega);rw[hu29.tn]at h7;exact h7
 refine jN M 7 ?_
 intro wq hM
 refine kD rfl rfl (i6 rfl aaa) (Xs s.sb s.hb c.fN s.q wq (yd hM (i:=5) rfl) a hieb hfree (x.t+c.win) (lV o_)) ?_
 rintro _ _ ⟨C,rfl,hF1,ht1⟩
 refine jM (yu 5 hM (ht1.oC hF1)) (fun aj W=>?_)
 have N:=yi [5,0,1,2,3,4,6] W
 have X:=nT N
 have O:=kB N
 refine kF tt none O 2 ?_
 refine jN O 9 ?_
 intro wq hM
 refine kD rfl rfl (i6 rfl ZH) (Xo c.fO c.fN s.ob s.g wq (yd hM (i:=6) rfl) a H K (x.t+c.win) hieb hza hzb (lV o_)) ?_
 rintro _ _ ⟨l,ak,rfl,ht1⟩
 refine jM (yu 6 hM ht1) (fun al Y=>?_)
 have m:=yi [6,0,1,2,3,4,5] Y
 refine ng tt none m 5 ?_
 refine ld rfl rfl yg rfl (yo m (i:=6) rfl rfl) (fQ m 3 ?_)
 refine nq (L' := [(GW.R c.fO c.fN s.ob l),(QS.SR s.sb s.hb c.fN C),(fZ.R c.fO c.fN s.ub b),blk d 34 [(Za ((a:Nat):Int)),(Zd (s.u.last+1)),(Zd x.u),(Zd x.v),(Za x.wt),(Za x.t),(Za (x.t+c.win))],(tY s c.win),blk f 32 (Zp x),blk wb 83 [(Za c.win),(Za c.fN),(Za c.fO),(Za c.ic),(Zb s.cb),(Zb s.ub),(Zb s.sb),(Zb s.ob),(Zd (s.added+1)),(Zd s.xA)]]) 6 rfl rfl rfl rfl iU rfl rfl m rfl rfl rfl rfl (fun am P=>fW P 1 ?_)
 refine jA Tryz.results24 ?_
 have Z:=yi [6,4,2,1,0,3,5] P
 have hok9:=hW.ins huok (i:=a) (e:=(⟨((a:Nat):Int),s.u.last+1,x.u,x.v,x.wt,x.t,x.t+c.win⟩:Lv)) rfl rfl hxt (by show x.t+c.win=_;rw[hxt]) k.1 k.2 X ha (g2:=l)
 exact⟨(⟨s.cb,s.ub,s.sb,s.hb,s.ob,s.now,C,b,l,s.added+1,s.xA⟩:WW),rfl,⟨rfl,rfl,fun y hy=>((k.1 y).1 hy).imp_right fun e=>by subst e;exact⟨rfl,rfl⟩⟩,yv (yw (p:=WW.ok c (⟨s.cb,s.ub,s.sb,s.hb,s.ob,s.now,C,b,l,s.added+1,s.xA⟩:WW)) (yc [_,_,_,_,_] _ Z) hok9) zh⟩
end
section
open Go Go.Sx
theorem Vq(sb hb n:Nat)(q:QS)(sb2 hb2:Nat)(q2:QS)(w:World)(hO:Own (jZ (q2.fP=q.fP) (gF [(QS.SR sb hb n q),(QS.SR sb2 hb2 n q2)])) w)(now:Int)(hn:n<=65536) :
 CR ya 48 (Zn sb2 now) w (fun r w' => ∃ (p:Option Addr) (cp:Nat) (ds:List Nat) (t:QS),(.slice p ds.length cp)=r/\qG n q t ds now/\gm (jZ (q2.fP=q.fP) (gF [(QS.SR sb hb n q),(QS.SR sb2 hb2 n q2)])) w w' (gF [(QS.SR sb hb n q),(QS.SR sb2 hb2 n t),fV gP (.slice p ds.length cp) 3 1 ds])):=by
 have hst:=Own.of hO.un
 refine CR.mono (MK sb2 hb2 n q2 w (yd hst (i:=1) rfl) now hn) fun r w' ⟨v,ds,t,h1,h2,ht⟩=>?_
 have h3:=yu 1 hst ht
 have h4:=mG (oH h3 (List.Perm.swap _ _ _))
 have h5:=oH h4 (sC (l₁:=[_,_]) (l₂:=[_]))
 have h6:=(St.OL h5 zh).F4 (p:=(q2.fP=q.fP))
 have h7:w'.ownsRow 0 3 1 v ds.length (ds.flatMap gP):=ht.holds _ (mQ _ zh)
 subst h1
 rcases h7.2 with ⟨rfl,h8⟩|⟨b,cap,cur,rfl,_⟩
 . refine⟨none,0,ds,t,by rw[h8],h2.OJ hO.fact,?_⟩
   rw[h8]
   exact h6
 . exact⟨_,cap,ds,t,rfl,h2.OJ hO.fact,h6⟩
theorem VO(c:WC)(wb:Nat)(s:WW)(w:World)(hO:Own (WW.R c wb s) w)(x:Lv)(hxo:x.ok) :
 CR ya 22 (CA wb x) w (fun r w' => ∃ (e:Int),r = .int .i64 e/\(e=0->Room c s x)/\gm (WW.R c wb s) w w' (WW.R c wb s)):=by
 refine en Tryz.func22 Tryz.ntmps22 ?_
 have hst0:=Own.of hO.un
 have hW:s.ok c:=hO.fact
 have hw1:=hW.w1
 have hw2:=hW.wi
 have hw3:=hW.n0
 have hw4:=hW.n1
 have huok:fZ.ok c.fO c.fN s.u:=(kj hst0 (i:=2) rfl)
 have hwen:=hW.en
 have hwe1:=hW.e1
 have hwv2:=hW.v2
 have hwvn:=hW.vn
 have hwa0:=hW.a0
 have hwa1:=hW.a1
 have hwla:=hW.la
 have hwl0:=huok.uz
 have htA:=Ja (yd hst0 (i:=2) rfl)
 have hxt9:=hxo.t.i64
 refine gf hst0 2 ?_
 refine bx (v:=(tZ x)) (cs:=(Zp x)) rfl rfl rfl hst0 (fun n ar au av J=>gL J 4 ?_)
 refine jN J 5 ?_
 intro wq hM
 refine kD rfl rfl (i6 rfl Jt) (Hx c.fO c.fN s.ub s.u wq (yd hM (i:=3) rfl) x) ?_
 rintro _ _ ⟨rfl,ht1⟩
 refine jM (yu 3 hM ht1) (fun K L=>?_)
 have z:=yi [3,0,1,2,4,5] L
 refine ng tt none z 5 ?_
 by_cases M:(fZ.gG s.u c.fO c.fN x.u x.v:Int)=(0:Int)
 . have hc0:=M
   refine fW z 11 ?_
   refine gw (v:=Zc) FV rfl ?_
   have W:=yi [1,2,3,4,5,0] L
   exact⟨0,rfl,(fun _=>Room.of huok htA hc0 fun y hy=>hy.1),yv (yw (p:=s.ok c) (yc [_,_,_,_,_] _ W) hW) zh⟩
 . have hc0:=M
   obtain⟨X,aw⟩:∃ q,wK s.q.fP.length=q:=⟨_,rfl⟩
   refine fQ z 13 ?_
   rcases X with h0|h0
   . skip
     refine cl PS (UD s.sb s.hb c.fN s.q K (yd z (i:=4) rfl) h0) ?_
     rintro _ ax ⟨rfl,ht⟩
     have N:=yu 4 z ht
     refine fQ N 3 ?_
     refine al (cs:=Z5) rfl iw rfl N (fun ay az aA aB Y=>mR Y 26 fun aC Z=>?_)
     refine gw (v:=(Za (fZ.gG s.u c.fO c.fN x.u x.v))) FV rfl ?_
     have aa:=yi [3,4,1,5,6,0,2] Z
     exact⟨fZ.gG s.u c.fO c.fN x.u x.v,rfl,(fun h7=>absurd h7 hc0),yv (yw (p:=s.ok c) (yc [_,_,_,_,_] _ aa) hW) zh⟩
   . skip
     refine cl PS (Uj s.sb s.hb c.fN s.q K (yd z (i:=4) rfl) h0) ?_
     rintro _ aD ⟨rfl,ht⟩
     have O:=yu 4 z ht
     refine fQ O 3 ?_
     refine al (cs:=Z5) rfl iw rfl O (fun E aE aF aG ab=>kL ab 13 fun ac C=>?_)
     by_cases aH:((fM s.q.fP 0).key:Int)>(x.t:Int)
     . refine fW C 13 ?_
       refine gw (v:=(Za (fZ.gG s.u c.fO c.fN x.u x.v))) FV rfl ?_
       have ad:=yi [3,4,1,5,6,0,2] C
       exact⟨fZ.gG s.u c.fO c.fN x.u x.v,rfl,(fun h7=>absurd h7 hc0),yv (yw (p:=s.ok c) (yc [_,_,_,_,_] _ ad) hW) zh⟩
     . refine fQ C 13 ?_
       refine cl ZE (VX c.fO c.fN s.ub s.u ac (yd C (i:=1) rfl)) ?_
       rintro _ aI ⟨A,B,rfl,G,ht⟩
       have ae:=yi [1,0,2,3,4,5,6] C
       have P:=mG (yu 0 ae ht)
       refine gL P 5 ?_
       refine oh (Γ:=Nat×Nat×QS×Option Addr×Nat×List Nat×QS) mixed [[],[0],[0,1],[0,1,2],[0,1,2,3],[],[5],[0,1,2,3,4,5,6],[0,1,2,3,4,5,6,7],[]] [4,7] d_ [fun _=>(Zb wb),fun _=>(Zb wb),fun _=>(Z4 wb),fun _=>(Zb s.sb),fun(g,h,j,d,f,b,l)=>(Zb g),fun _=>(yT n),fun _=>(Za x.t),fun(g,h,j,d,f,b,l)=>(.slice d b.length f),fun(g,h,j,d,f,b,l)=>(Za b.length),fun _=>Zc] [(fun(g,h,j,d,f,b,l)=>[(fZ.R c.fO c.fN s.ub s.u),(fZ.R c.fO c.fN A B),blk E 111 (Zi ((fM s.q.fP 0).ix:Int) ((fM s.q.fP 0).key)),blk n 32 (Zp x),blk wb 83 (tT c.win c.fN c.fO c.ic s),(tY s c.win),(wR s c.fN),(wP c.fO c.fN s)],fun _ _=>True),(fun(g,h,j,d,f,b,l)=>[(fZ.R c.fO c.fN s.ub s.u),(fZ.R c.fO c.fN A B),blk E 111 (Zi ((fM s.q.fP 0).ix:Int) ((fM s.q.fP 0).key)),blk n 32 (Zp x),blk wb 83 (tT c.win c.fN c.fO c.ic s),(tY s c.win),jZ (QS.fP j=QS.fP s.q) (gF [(wR s c.fN),(QS.SR g h c.fN j)]),(wP c.fO c.fN s)],fun _ _=>True),(fun(g,h,j,d,f,b,l)=>[(fZ.R c.fO c.fN s.ub s.u),(fZ.R c.fO c.fN A B),blk E 111 (Zi ((fM s.q.fP 0).ix:Int) ((fM s.q.fP 0).key)),blk n 32 (Zp x),blk wb 83 (tT c.win c.fN c.fO c.ic s),(tY s c.win),jZ (qG c.fN s.q l b x.t) (gF [(wR s c.fN),(QS.SR g h c.fN l),fV gP (.slice d b.length f) 3 1 b]),(wP c.fO c.fN s)],fun _ _=>True)] (0,0,s.q,none,0,[],s.q) (fun(g,h,j,d,f,b,l)=>(51,Zc) :: (50,(Za b.length)) :: (49,(.slice d b.length f)) :: (48,(Za x.t)) :: (47,(yT n)) :: (46,(Zb g)) :: (45,(Zb s.sb)) :: (44,(Z4 wb)) :: (43,(Zb wb)) :: (42,(Zb wb)) :: _) rfl P (fun _ _=>trivial) ?_ (fun(g,h,j,d,f,b,l)=>rfl) rfl ?_
       . skip
         refine gp (fun(g,h,j,d,f,b,l) _=>iy (v:=(Zb wb)) rfl) ?_
         refine gp (fun(g,h,j,d,f,b,l) _=>j6 rfl) ?_
         refine gp (fun(g,h,j,d,f,b,l) _=>jy (o' := 6) rfl F8 rfl Kb rfl) ?_
         refine l9 rfl rfl rfl rfl (fun(g,h,j,d,f,b,l) wq hM hF=>qv rfl rfl (gU rfl Tryz.underlying80 rfl (yo hM (i:=4) rfl rfl))) (jK rfl rfl rfl rfl (fun(g,h,j,d,f,b,l) wq hM hF=>kD rfl rfl (i6 rfl ZK) (VA s.sb s.hb c.fN s.q wq (yd hM (i:=6) rfl)) (fun _ _ hz=>by obtain⟨af,ag,ah,rfl,hF1,ht1⟩:=hz;exact⟨(af,ag,ah,d,f,b,l),⟨(yu 6 hM (ht1.oC hF1)),trivial⟩,rfl,fS rfl (fS rfl (fS rfl (fS rfl (fS trivial (fS rfl (fS rfl (fS trivial (fS trivial (fS rfl (kO))))))))))⟩)) (gp (fun(g,h,j,d,f,b,l) _=>jy (o' := 3) rfl qi rfl ti2 rfl) ?_))
         refine nL rfl rfl rfl rfl rfl (fun(g,h,j,d,f,b,l) wq hM hF=>qv rfl rfl (gU rfl uY rfl (yo hM (i:=3) rfl rfl))) (fun(g,h,j,d,f,b,l) wq hM hF=>qv rfl rfl (gU rfl uY rfl (yo hM (i:=3) rfl rfl))) (jK rfl rfl rfl rfl (fun(g,h,j,d,f,b,l) wq hM hF=>kD rfl rfl (i6 rfl O3) (Vq s.sb s.hb c.fN s.q g h j wq (yd hM (i:=6) rfl) x.t o_) (fun _ _ hz=>by obtain⟨ai,aj,ak,am,rfl,hF1,ht1⟩:=hz;exact⟨(g,h,j,ai,aj,ak,am),⟨(yu 6 hM (ht1.oC hF1)),trivial⟩,rfl,fS rfl (fS rfl (fS rfl (fS rfl (fS rfl (fS rfl (fS rfl (fS trivial (fS trivial (fS rfl (kO))))))))))⟩)) (gp (fun(g,h,j,d,f,b,l) _=>Et (a:=d) (m:=b.length) (c:=f) rfl yh) ?_))
         refine gp (fun(g,h,j,d,f,b,l) _=>iy (v:=Zc) rfl) ?_
         exact og
       rintro⟨g,h,j,d,f,b,l⟩ aJ an -
       have Q:=yi [6,0,1,2,3,4,5,7] an
       have H:=nT Q
       have ao:=kB Q
       have I:=mG ao
       have hdl:b.length<=c.fN:=H.len
       have hsch2:ES B s.q:=fun e=>(hW.AY e).trans ⟨fun⟨y,h1,h2⟩=>⟨y,(G.1 y).2 h1,h2⟩,fun⟨y,h1,h2⟩=>⟨y,(G.1 y).1 h1,h2⟩⟩
       have hu39:=(kj I (i:=4) rfl:fZ.ok c.fO c.fN B)
       have ap:=yi [7,8,3,0,9,4,2,6] I
       refine kF tt none I 2 ?_
       refine lp (α:=Nat×fZ) (fun(k,u2)=>[(3,(Zb n)),(8,(Zb A)),(49,(.slice d b.length f)),(50,(Za b.length)),(51,(Za k))]) (fun(k,u2) w1=>St [(w,(WW.R c wb s).gT)] [blk wb 83 (tT c.win c.fN c.fO c.ic s),(tY s c.win),(fZ.R c.fO c.fN s.ub s.u),(wR s c.fN),(wP c.fO c.fN s),(fZ.R c.fO c.fN A u2),fV gP (.slice d b.length f) 3 1 b,blk n 32 (Zp x)] w1/\o6 B u2 (b.take k)/\k<=b.length) (fun(k,u2)=>b.length-k) (0,B) ⟨rfl,rfl,rfl,rfl,gD (by first|rfl|omega),trivial⟩ (⟨ap,o6.start _,o_⟩) ?_
       rintro⟨k,u2⟩ aK S ⟨hst3,hR,hk3⟩
       refine gf hst3 2 ?_
       by_cases aL:((k:Int):Int)<((b.length:Int):Int)
       . have hkl:k<b.length:=by omega
         refine fQ hst3 11 ?_
         refine jj (cf:=gP) (k:=k) (i:=(k:Int)) rfl rfl rfl yh gn (yf hst3 (i:=6) rfl f_) o_ o_ (gA om) (l6 (cf:=gP) rfl rfl ye rfl (yf hst3 (i:=6) rfl f_) (gA om) rfl ?_)
         have hu29:=(kj hst3 (i:=5) rfl:fZ.ok c.fO c.fN u2)
         have hcan:=o6.can hR hsch2 hu29 H (gA hkl)
         refine fQ hst3 6 ?_
         refine cl Pv (LP c.fO c.fN A u2 S (yd hst3 (i:=5) rfl) (fM b k) hcan) ?_
         rintro _ aM ⟨aq,rfl,U,ht⟩
         have V:=yu 5 hst3 ht
         refine fW V 7 ?_
         refine tN (?_)
         exact again ((k+1),aq) ⟨rfl,rfl,rfl,rfl,gD (by first|rfl|omega),trivial⟩ (⟨V,by rw[yO,gA hkl];exact hR.next U.1 U.2,o_⟩) (by show (b.length-(k+1):Nat)<b.length-k;omega)
       . refine fQ hst3 13 ?_
         refine pH (cs:=(Zp x)) rfl rfl qi rfl p6 rfl (kT hst3 (i:=7) (o:=0) (vs:=(Zp x)) rfl rfl) (cl Jt (Hx c.fO c.fN A u2 S (yd hst3 (i:=5) rfl) x) ?_)
         rintro _ aN ⟨rfl,ht⟩
         have D:=yu 5 hst3 ht
         refine fW D 4 ?_
         refine gw (v:=(Za (fZ.gG u2 c.fO c.fN x.u x.v))) FV rfl ?_
         have hu49:=(kj D (i:=5) rfl:fZ.ok c.fO c.fN u2)
         have htA4:=Ja (yd D (i:=5) rfl)
         have hke:k=b.length:=by omega
         rw[hke,FA]at hR
         have hfin:=hR.fin hsch2 hu39 H
         exact⟨fZ.gG u2 c.fO c.fN x.u x.v,rfl,(fun h7=>Room.of hu49 htA4 h7 fun y hy=>(hfin y).2 ⟨(G.1 y).2 hy.1,hy.2⟩),yv (yw (p:=s.ok c) (yc [_,_,_,_,_] _ D) hW) zh⟩
end
section
open Go Go.Sx
theorem Ep{c:WC}{wb:Nat}{s:WW}{w:World}(h:Own (WW.R c wb s) w):s.ok c/\s.u.ok c.fO c.fN/\s.u.t.A.ok :=
 ⟨h.fact,(kj (Own.of h.un) (i:=2) rfl:fZ.ok c.fO c.fN s.u),Ja (yd (Own.of h.un) (i:=2) rfl)⟩
theorem Wg(cb:Nat)(win now:Int)(w:World)(hO:Own (Zt cb win now) w)(h1:1<=win)(hwin:ij .i64 win)(t:Int)(htt:ij .i64 t)(h2:now<=t)(h3 : -9223372036854775808<=t+win/\t+win<=9223372036854775807) :
 CR ya 21 (Zn cb t) w (fun r w' => r = .int .i64 0/\gm (Zt cb win now) w w' (Zt cb win now)):=by
 have h:=Mc cb win now w hO h1 hwin t htt
 rw[NT h2 h3]at h
 exact h
theorem XD(c:WC)(wb:Nat)(s:WW)(w:World)(hO:Own (WW.R c wb s) w)(x:Lv)(hxo:x.ok)(hxt:s.now<=x.t)(hxt2:x.t<=1000000)(ha:s.added<1000000) :
 CR ya 12 (CA wb x) w (fun r w' => ∃ (e:Int) (s2:WW),r = .int .i64 e/\WW.Step s s2 x/\gm (WW.R c wb s) w w' (WW.R c wb s2)):=by
 refine en Tryz.func12 Tryz.ntmps12 ?_
 have hst0:=Own.of hO.un
 have hW:s.ok c:=hO.fact
 have hw1:=hW.w1
 have hw2:=hW.wi
 have hw3:=hW.n0
 have hw4:=hW.n1
 have huok:fZ.ok c.fO c.fN s.u:=(kj hst0 (i:=2) rfl)
 have hwen:=hW.en
 have hwe1:=hW.e1
 have hwv2:=hW.v2
 have hwvn:=hW.vn
 have hwa0:=hW.a0
 have hwa1:=hW.a1
 have hwla:=hW.la
 have hwl0:=huok.uz
 refine gf hst0 2 ?_
 refine bx (v:=(tZ x)) (cs:=(Zp x)) rfl rfl rfl hst0 ?_
 intro L z M N k
 have A:=yi [1,2,3,4,5,0] k
 have l:=yw (p:=s.ok c) (yc [_,_,_,_,_] _ A) hW
 refine fQ k 7 ?_
 refine cl EU (DH c wb s z (yd l (i:=0) rfl)) ?_
 rintro _ O ⟨rfl,ht⟩
 have B:=yu 0 l ht
 have d:=(kB B).unpack
 refine fQ d 13 ?_
 by_cases P:(x.u:Int)=(x.v:Int)
 . refine fW d 11 ?_
   refine gw (v:=(.int .i64 9)) Tryz.results12 rfl ?_
   have C:=yw (p:=s.ok c) (yc [_,_,_,_,_] _ d) hW
   exact⟨9,s,rfl,WW.Step.same s x,yq C⟩
 . refine gL d 8 ?_
   refine jN d 6 ?_
   intro wq hM
   refine kD rfl rfl (i6 rfl PC) (Wg s.cb c.win s.now wq (yd hM (i:=1) rfl) hw1 (lV o_) x.t hxo.t hxt o_) ?_
   rintro _ _ ⟨rfl,ht1⟩
   refine jM (yu 1 hM ht1) (fun D m=>?_)
   have n:=yi [1,0,2,3,4,5] m
   refine ng tt none n 17 ?_
   refine cmp rfl rfl rfl (xK o_) ?_
   have E:=m
   have o:=yw (p:=s.ok c) (yc [_,_,_,_,_] _ E) hW
   refine fQ n 10 ?_
   refine cl ZR (VO c wb s D (yd o (i:=0) rfl) x hxo) ?_
   rintro _ G ⟨f,rfl,H,ht⟩
   have a:=yu 0 o ht
   refine fQ a 6 ?_
   by_cases I:(f:Int)=(0:Int)
   . have hre:f=0:=by have h7:=@I;omega
     refine fQ a 11 ?_
     refine cl aao (VY c wb s G (yd a (i:=0) rfl) x.t hxt hxt2) ?_
     rintro _ J ⟨g,rfl,b,ht⟩
     have h:=yu 0 a ht
     have hww2:=Ep (yd h (i:=0) rfl)
     have hc2:=H hre g.u hww2.2.1 hww2.2.2 b.2.2.1
     have hxs2:x.t=g.now:=b.1.symm
     have has2:g.added<1000000:=by rw[b.2.1];exact ha
     refine fQ h 6 ?_
     refine cl ZC (SK c wb g J (yd h (i:=0) rfl) x hxo hxs2 hc2 has2) ?_
     rintro _ Q ⟨K,rfl,j,ht⟩
     have q:=yu 0 h ht
     refine fW q 8 ?_
     refine gw (v:=Zc) Tryz.results12 rfl ?_
     exact⟨0,K,rfl,⟨.inr (j.1.trans b.1),by rw[j.2.1,b.2.1];exact yX _,fun y hy=>(j.2.2 y hy).imp_left fun h7=>((b.2.2.1 y).1 h7).1⟩,yq q⟩
   . refine fW a 12 ?_
     refine gw (v:=(Za f)) Tryz.results12 rfl ?_
     exact⟨f,s,rfl,WW.Step.same s x,yq a⟩
theorem T5(fO fN ub:Nat)(s:fZ)(w:World)(hO:Own (fZ.R fO fN ub s) w) :
 CR ya 26 (Zl ub) w (fun r w' => ∃ (v:Value) (ys:List Lv),v=r/\s.nD ys/\gm (fZ.R fO fN ub s) w w' (gF [(fZ.R fO fN ub s),fV Lv.cells v 34 7 ys])) :=
 CR.mono (US fO fN ub s w hO) fun r w' ⟨v,ys,h1,h2,ht⟩=>⟨v,ys,h1.symm,h2,ht⟩
theorem Ni(c:WC)(wb:Nat)(s:WW)(w:World)(hO:Own (WW.R c wb s) w) :
 CR ya 14 (Zl wb) w (fun r w' => ∃ (v:Value) (ys:List Lv),v=r/\s.u.nD ys/\gm (WW.R c wb s) w w' (gF [(WW.R c wb s),fV Lv.cells v 34 7 ys])):=by
 refine en Tryz.func14 Tryz.ntmps14 ?_
 have hst0:=Own.of hO.un
 have hW:s.ok c:=hO.fact
 have hw1:=hW.w1
 have hw2:=hW.wi
 have hw3:=hW.n0
 have hw4:=hW.n1
 have huok:fZ.ok c.fO c.fN s.u:=(kj hst0 (i:=2) rfl)
 have hwen:=hW.en
 have hwe1:=hW.e1
 have hwv2:=hW.v2
 have hwvn:=hW.vn
 have hwa0:=hW.a0
 have hwa1:=hW.a1
 have hwla:=hW.la
 have hwl0:=huok.uz
 have b:=yw (p:=s.ok c) (yc [_,_,_,_,_] _ hst0) hW
 refine gf hst0 9 ?_
 refine cl EU (DH c wb s w (yd b (i:=0) rfl)) ?_
 rintro _ f ⟨rfl,ht⟩
 have g:=yu 0 b ht
 have a:=(kB g).unpack
 refine fQ a 12 ?_
 refine cl aam (T5 c.fO c.fN s.ub s.u f (yd a (i:=2) rfl)) ?_
 rintro _ n ⟨d,h,rfl,j,ht⟩
 have k:=yi [2,0,1,3,4] a
 have e:=mG (yu 0 k ht)
 refine fW e 4 ?_
 refine gw (v:=d) Tryz.results14 rfl ?_
 have l:=yi [2,3,0,4,5,1] e
 have m:=yw (p:=s.ok c) (yc [_,_,_,_,_] _ l) hW
 exact⟨d,h,rfl,j,yq (yc [_,_] _ m)⟩
end
section
open Go Go.Sx
abbrev XE:List (List Nat):=[[],[],[],[1,2],[1,2,3],[1,2,3,4],[1,2,3,4,5],[1,2,3,4,5,6],[],[],[8,9],[8,9,10],[8,9,10,11],[8,9,10,11,12],[8,9,10,11,12,13],[],[],[15,16],[15,16,17],[15,16,17,18],[15,16,17,18,19],[],[21],[],[],[23,24],[23,24,25],[23,24,25,26],[23,24,25,26,27],[23,24,25,26,27,28],[21,22,23,24,25,26,27,28,29],[1,2,3,4,5,6,7,8,9,10,11,12,13,14,15,16,17,18,19,20,21,22,23,24,25,26,27,28,29,30],[0,1,2,3,4,5,6,7,8,9,10,11,12,13,14,15,16,17,18,19,20,21,22,23,24,25,26,27,28,29,30,31]]
theorem UJ(lv:Value)(xs:List Mv)(w:World)(hl:jx 4 Mv.cells (fun _=>True) w lv xs)(hxs:∀ x∈xs,x.ok) :
 CR ya 6 #[lv] w (fun r w' => ∃ (v:Value) (ys:List Lv) (now:Int),r = .tuple #[yC,.int .i64 now,v,.bool true]/\(nM rQ now ys/\now<=150)/\gm (gF []) w w' (Gs v ys)):=by
 have hlen:=hl.len
 refine en Tryz.func6 Tryz.ntmps6 ?_
 have hst0:=jO w
 refine gf hst0 2 ?_
 refine al (cs:=wT) rfl nO rfl hst0 (fun n Z aa ab z=>fQ z 7 ?_)
 refine kf (pvs:=[(0,(.int .i64 20)),(1,(.int .i64 30)),(2,(.int .i64 10))]) (v:=.agg #[(.int .i64 20),(.int .i64 30),(.int .i64 10),Zc]) rfl rfl (jS [(0,[(.int .i64 20)]),(1,[(.int .i64 30)]),(2,[(.int .i64 10)])] nO aaE rfl ⟨rfl,rfl,rfl,rfl,rfl,rfl,trivial⟩ rfl) (al (cs:=wT) rfl nO rfl z (fun p ac ad ae G=>kL G 6 fun H I=>?_))
 refine cl ZY (U9 cM H d_ d_ d_ d_ d_ d_ d_) ?_
 rintro _ ag ⟨f,J,rfl,y,ht⟩
 have A:=(pn I ht)
 refine gL A 24 ?_
 refine lp (α:=Nat×WW) (fun(k,s)=>[(0,lv),(2,(Zb n)),(6,(Zb p)),(7,(Zb f)),(9,(Za k))]) (fun(k,s) w1=>St [(w,[])] (yI cM f s p n) w1/\uL cM s k/\k<=xs.length/\k<=50) (fun(k,s)=>50-k) (0,J) ⟨rfl,rfl,rfl,rfl,gD (by first|rfl|omega),trivial⟩ (⟨A,uL.start y.1 y.2.1 y.2.2,o_,o_⟩) ?_
 rintro⟨k,s⟩ ah ai ⟨hst3,hS,hk1,hk2⟩
 have hok7:=(Ep (yd hst3 (i:=0) rfl)).1
 have hn0:=hok7.n0
 have hs1:=hS.now
 have hs2:=hS.added
 refine gf hst3 5 ?_
 refine tE (v:=lv) rfl rfl AS hl ?_
 by_cases aj:((k:Int):Int)<((xs.length:Int):Int)
 . refine fQ hst3 3 ?_
   by_cases ak:((k:Int):Int)<(50:Int)
   . refine gL hst3 9 ?_
     obtain⟨el,hel⟩:=ov (show k<xs.length by omega)
     have hmo:=hxs _ (ze hel)
     have hmu:=hmo.u
     have hmv:=hmo.v
     have hmwt:=hmo.wt
     have hmaf:=hmo.af
     have hrok:=hmo.Av hn0 o_
     refine oh (Γ:=Int×WW) mixed XE [22,32] k_ [fun _=>(Zb f),fun _=>lv,fun _=>(Za k),fun _=>(jC 4 lv k 0),fun _=>(jC 4 lv k 0),fun _=>(Zu el.u),fun _=>(Zu (el.u%12)),fun _=>(Zd (el.u%12)),fun _=>lv,fun _=>(Za k),fun _=>(jC 4 lv k 0),fun _=>(jC 4 lv k 1),fun _=>(Zu el.v),fun _=>(Zu (el.v%12)),fun _=>(Zd (el.v%12)),fun _=>lv,fun _=>(Za k),fun _=>(jC 4 lv k 0),fun _=>(jC 4 lv k 2),fun _=>(.int .i8 el.wt),fun _=>(Za el.wt),fun _=>(Zb f),fun _=>(Za s.now),fun _=>lv,fun _=>(Za k),fun _=>(jC 4 lv k 0),fun _=>(jC 4 lv k 3),fun _=>(Zu el.af),fun _=>(Zu (el.af%4)),fun _=>(Za (el.af%4)),fun _=>(Za (s.now+(el.af%4))),fun _=>(Qf (el.u%12) (el.v%12) el.wt (s.now+(el.af%4))),fun(d,c)=>(Za d)] [(fun(d,c)=>(yI cM f s p n),fun _ _=>True),(fun(d,c)=>(yI cM f s p n),fun _ _=>True),(fun(d,c)=>[jZ (WW.Step s c (el.Av s.now)) (WW.R cM f c),blk p 24 Zo,blk n 24 wT],fun _ _=>True)] (0,s) (fun(d,c)=>(61,(Za d)) :: (60,(Qf (el.u%12) (el.v%12) el.wt (s.now+(el.af%4)))) :: (59,(Za (s.now+(el.af%4)))) :: (58,(Za (el.af%4))) :: (57,(Zu (el.af%4))) :: (56,(Zu el.af)) :: (55,(jC 4 lv k 3)) :: (54,(jC 4 lv k 0)) :: (53,(Za k)) :: (52,lv) :: (51,(Za s.now)) :: (50,(Zb f)) :: (49,(Za el.wt)) :: (48,(.int .i8 el.wt)) :: (47,(jC 4 lv k 2)) :: (46,(jC 4 lv k 0)) :: (45,(Za k)) :: (44,lv) :: (43,(Zd (el.v%12))) :: (42,(Zu (el.v%12))) :: (41,(Zu el.v)) :: (40,(jC 4 lv k 1)) :: (39,(jC 4 lv k 0)) :: (38,(Za k)) :: (37,lv) :: (36,(Zd (el.u%12))) :: (35,(Zu (el.u%12))) :: (34,(Zu el.u)) :: (33,(jC 4 lv k 0)) :: (32,(jC 4 lv k 0)) :: (31,(Za k)) :: (30,lv) :: (29,(Zb f)) :: _) rfl hst3 (fun _ _=>trivial) ?_ (fun(d,c)=>rfl) rfl ?_
     . skip
       refine gp (fun(d,c) _=>iy (v:=(Zb f)) rfl) ?_
       refine gp (fun(d,c) _=>iy (v:=lv) rfl) ?_
       refine gp (fun(d,c) _=>iy (v:=(Za k)) rfl) ?_
       refine gp (fun(d,c) _=>kz (k:=k) (i:=(k:Int)) rfl rfl AS Cq hl o_ o_ hel) ?_
       refine gp (fun(d,c) _=>mJ (off:=0) (off' := 0) rfl C3 rfl Fm rfl hl hel) ?_
       refine nL rfl rfl rfl rfl rfl (fun(d,c) wq hM hF=>qv rfl rfl (mc (u:=(Zu el.u)) rfl qf rfl (lZ hM s_ d_ hl) hel rfl)) (fun(d,c) wq hM hF=>qv rfl rfl (mc (u:=(Zu el.u)) rfl qf rfl (lZ hM s_ d_ hl) hel rfl)) (gp (fun(d,c) _=>Ch (a:=el.u) (b:=12) (e:=el.u%12) rfl rfl d_ (Br hmu.1)) ?_)
       refine gp (fun(d,c) _=>AG (a:=el.u%12) (e:=el.u%12) rfl qf yg (Ax o_)) ?_
       refine gp (fun(d,c) _=>iy (v:=lv) rfl) ?_
       refine gp (fun(d,c) _=>iy (v:=(Za k)) rfl) ?_
       refine gp (fun(d,c) _=>kz (k:=k) (i:=(k:Int)) rfl rfl AS Cq hl o_ o_ hel) ?_
       refine gp (fun(d,c) _=>mJ (off:=0) (off' := 1) rfl C3 rfl Fm rfl hl hel) ?_
       refine nL rfl rfl rfl rfl rfl (fun(d,c) wq hM hF=>qv rfl rfl (mc (u:=(Zu el.v)) rfl qf rfl (lZ hM s_ d_ hl) hel rfl)) (fun(d,c) wq hM hF=>qv rfl rfl (mc (u:=(Zu el.v)) rfl qf rfl (lZ hM s_ d_ hl) hel rfl)) (gp (fun(d,c) _=>Ch (a:=el.v) (b:=12) (e:=el.v%12) rfl rfl d_ (Br hmv.1)) ?_)
       refine gp (fun(d,c) _=>AG (a:=el.v%12) (e:=el.v%12) rfl qf yg (Ax o_)) ?_
       refine gp (fun(d,c) _=>iy (v:=lv) rfl) ?_
       refine gp (fun(d,c) _=>iy (v:=(Za k)) rfl) ?_
       refine gp (fun(d,c) _=>kz (k:=k) (i:=(k:Int)) rfl rfl AS Cq hl o_ o_ hel) ?_
       refine gp (fun(d,c) _=>mJ (off:=0) (off' := 2) rfl C3 rfl PZ rfl hl hel) ?_
       refine nL rfl rfl rfl rfl rfl (fun(d,c) wq hM hF=>qv rfl rfl (mc (u:=(.int .i8 el.wt)) rfl Gy rfl (lZ hM s_ d_ hl) hel rfl)) (fun(d,c) wq hM hF=>qv rfl rfl (mc (u:=(.int .i8 el.wt)) rfl Gy rfl (lZ hM s_ d_ hl) hel rfl)) (gp (fun(d,c) _=>AG (a:=el.wt) (e:=el.wt) rfl Gy uY (iZ o_)) ?_)
       refine gp (fun(d,c) _=>iy (v:=(Zb f)) rfl) ?_
       refine jK rfl rfl rfl rfl (fun(d,c) wq hM hF=>kD rfl rfl (i6 rfl JH) (II cM f s wq (yd hM (i:=0) rfl)) (fun _ _ hz=>by obtain⟨rfl,ht1⟩:=hz;exact⟨(d,c),⟨(yu 0 hM ht1),trivial⟩,rfl,jD.refl _ _ _⟩)) (gp (fun(d,c) _=>iy (v:=lv) rfl) ?_)
       refine gp (fun(d,c) _=>iy (v:=(Za k)) rfl) ?_
       refine gp (fun(d,c) _=>kz (k:=k) (i:=(k:Int)) rfl rfl AS Cq hl o_ o_ hel) ?_
       refine gp (fun(d,c) _=>mJ (off:=0) (off' := 3) rfl C3 rfl Fm rfl hl hel) ?_
       refine nL rfl rfl rfl rfl rfl (fun(d,c) wq hM hF=>qv rfl rfl (mc (u:=(Zu el.af)) rfl qf rfl (lZ hM s_ d_ hl) hel rfl)) (fun(d,c) wq hM hF=>qv rfl rfl (mc (u:=(Zu el.af)) rfl qf rfl (lZ hM s_ d_ hl) hel rfl)) (gp (fun(d,c) _=>Ch (a:=el.af) (b:=4) (e:=el.af%4) rfl rfl d_ (Br hmaf.1)) ?_)
       refine gp (fun(d,c) _=>AG (a:=el.af%4) (e:=el.af%4) rfl qf uY (iZ o_)) ?_
       refine gp (fun(d,c) _=>kV rfl rfl rfl (iZ o_)) ?_
       refine gp (fun(d,c) _=>xH (pvs:=[(0,(Zd (el.u%12))),(1,(Zd (el.v%12))),(2,(Za el.wt)),(3,(Za (s.now+(el.af%4))))]) (v:=.agg #[(Zd (el.u%12)),(Zd (el.v%12)),(Za el.wt),(Za (s.now+(el.af%4)))]) rfl (jS [(0,(Zz (el.u%12))),(1,(Zz (el.v%12))),(2,(Ze el.wt)),(3,(Ze (s.now+(el.af%4))))] p6 aaW rfl ⟨rfl,rfl,rfl,rfl,rfl,rfl,rfl,rfl,trivial⟩ rfl)) ?_
       refine jK rfl rfl rfl rfl (fun(d,c) wq hM hF=>kD rfl rfl (i6 rfl Y1) (XD cM f s wq (yd hM (i:=0) rfl) (el.Av s.now) hrok (by show s.now<=s.now+el.af%4;omega) (by show s.now+el.af%4<=1000000;omega) o_) (fun _ _ hz=>by obtain⟨K,L,rfl,hF1,ht1⟩:=hz;exact⟨(K,L),⟨(yu 0 hM (ht1.oC hF1)),trivial⟩,rfl,fS rfl (fS rfl (fS rfl (fS rfl (fS rfl (fS rfl (fS rfl (fS rfl (fS rfl (fS rfl (fS rfl (fS rfl (fS rfl (fS rfl (fS rfl (fS rfl (fS rfl (fS rfl (fS rfl (fS rfl (fS rfl (fS rfl (fS rfl (fS rfl (fS rfl (fS rfl (fS rfl (fS rfl (fS rfl (fS rfl (fS rfl (fS rfl (fS trivial (kO)))))))))))))))))))))))))))))))))⟩)) ?_
       exact og
     rintro⟨d,c⟩ am B -
     have M:=nT B
     have C:=kB B
     refine iN tt none C 7 ?_
     refine tN (?_)
     exact again ((k+1),c) ⟨rfl,rfl,rfl,rfl,gD (by first|rfl|omega),trivial⟩ (⟨C,hS.next M (by show s.now+el.af%4<=s.now+3;omega) (by show 0<=el.u%12/\el.u%12<12;omega) (by show 0<=el.v%12/\el.v%12<12;omega),o_,o_⟩) (by show (50-(k+1):Nat)<50-k;omega)
   . refine gL hst3 11 ?_
     refine oh (Γ:=Value×List Lv) mixed [[],[],[1],[],[1,2,3],[0,1,2,3,4],[0,1,2,3,4,5],[0,1,2,3,4,5,6],[0,1,2,3,4,5,6,7]] [2,4,5] d_ [fun _=>yC,fun _=>(Zb f),fun _=>(Za s.now),fun _=>(Zb f),fun(g,l)=>g,fun _=>undef,fun _=>(Za s.now),fun(g,l)=>g,fun _=>Zf] [(fun(g,l)=>(yI cM f s p n),fun _ _=>True),(fun(g,l)=>(yI cM f s p n),fun _ _=>True),(fun(g,l)=>(Qy (fZ.nD s.u l) cM f s g l p n),fun _ _=>True),(fun(g,l)=>(Gw (fZ.nD s.u l) cM f s g l p n),fun _ _=>True)] (Zk,[]) (fun(g,l)=>(5,Zf) :: (4,g) :: (3,(Za s.now)) :: (66,g) :: (65,(Zb f)) :: (64,(Za s.now)) :: (63,(Zb f)) :: (62,yC) :: _) rfl hst3 (fun _ _=>trivial) ?_ (fun(g,l)=>rfl) rfl ?_
     . skip
       refine vR rfl rfl rfl rfl rfl rfl (fun(g,l) wq hM hF=>qv rfl rfl (pU (cs:=Zo) rfl tV rfl nO rfl (kT hM (i:=1) (o:=0) (vs:=Zo) rfl rfl))) (fun(g,l) wq hM hF=>qv rfl rfl (pU (cs:=Zo) rfl tV rfl nO rfl (kT hM (i:=1) (o:=0) (vs:=Zo) rfl rfl))) (fun(g,l) wq hM hF=>qv rfl rfl (pU (cs:=Zo) rfl tV rfl nO rfl (kT hM (i:=1) (o:=0) (vs:=Zo) rfl rfl))) (gp (fun(g,l) _=>iy (v:=(Zb f)) rfl) ?_)
       refine jK rfl rfl rfl rfl (fun(g,l) wq hM hF=>kD rfl rfl (i6 rfl JH) (II cM f s wq (yd hM (i:=0) rfl)) (fun _ _ hz=>by obtain⟨rfl,ht1⟩:=hz;exact⟨(g,l),⟨(yu 0 hM ht1),trivial⟩,rfl,jD.refl _ _ _⟩)) (gp (fun(g,l) _=>iy (v:=(Zb f)) rfl) ?_)
       refine jK rfl rfl rfl rfl (fun(g,l) wq hM hF=>kD rfl rfl (i6 rfl PM) (Ni cM f s wq (yd hM (i:=0) rfl)) (fun _ _ hz=>by obtain⟨N,O,rfl,hF1,ht1⟩:=hz;exact⟨(N,O),⟨(yu 0 hM (ht1.oC hF1)),trivial⟩,rfl,fS rfl (fS rfl (fS rfl (fS rfl (fS trivial (fS trivial (fS trivial (fS trivial (fS trivial (kO)))))))))⟩)) (jK rfl rfl rfl rfl (fun(g,l) wq hM hF=>nu (L' := (Gw (fZ.nD s.u l) cM f s g l p n)) 2 rfl rfl rfl rfl nO rfl rfl hM rfl rfl rfl rfl (fun _ h=>⟨(g,l),⟨h,trivial⟩,rfl,jD.refl _ _ _⟩)) (gp (fun(g,l) _=>pV (v:=(Za s.now)) rfl) ?_))
       refine gp (fun(g,l) _=>pV (v:=g) rfl) ?_
       refine gp (fun(g,l) _=>pV (v:=Zf) rfl) ?_
       exact og
     rintro⟨g,l⟩ an D -
     have P:=nT D
     have Q:=kB D
     have q:=mG Q
     refine iN tt none q 2 ?_
     refine Pk (v:=yC) (v' := (Za s.now)) (v'' := g) (v''' := Zf) Tryz.results6 (qj (cs:=Zo) rfl tV rfl nO rfl (kT q (i:=3) (o:=0) (vs:=Zo) rfl rfl)) (nU rfl) (nU rfl) (nU rfl) ?_
     have hww:=Ep (yd q (i:=0) rfl)
     have hwl:=hS.list hww.1 hww.2.1 hww.2.2 P
     have S:=yi [1,0,2,3] q
     exact⟨g,l,s.now,rfl,⟨hwl,o_⟩,St.eM S⟩
 . refine gL hst3 14 ?_
   refine oh (Γ:=Value×List Lv) mixed [[],[],[1],[],[1,2,3],[0,1,2,3,4],[0,1,2,3,4,5],[0,1,2,3,4,5,6],[0,1,2,3,4,5,6,7]] [2,4,5] d_ [fun _=>yC,fun _=>(Zb f),fun _=>(Za s.now),fun _=>(Zb f),fun(j,m)=>j,fun _=>undef,fun _=>(Za s.now),fun(j,m)=>j,fun _=>Zf] [(fun(j,m)=>(yI cM f s p n),fun _ _=>True),(fun(j,m)=>(yI cM f s p n),fun _ _=>True),(fun(j,m)=>(Qy (fZ.nD s.u m) cM f s j m p n),fun _ _=>True),(fun(j,m)=>(Gw (fZ.nD s.u m) cM f s j m p n),fun _ _=>True)] (Zk,[]) (fun(j,m)=>(5,Zf) :: (4,j) :: (3,(Za s.now)) :: (66,j) :: (65,(Zb f)) :: (64,(Za s.now)) :: (63,(Zb f)) :: (62,yC) :: _) rfl hst3 (fun _ _=>trivial) ?_ (fun(j,m)=>rfl) rfl ?_
   . skip
     refine vR rfl rfl rfl rfl rfl rfl (fun(j,m) wq hM hF=>qv rfl rfl (pU (cs:=Zo) rfl tV rfl nO rfl (kT hM (i:=1) (o:=0) (vs:=Zo) rfl rfl))) (fun(j,m) wq hM hF=>qv rfl rfl (pU (cs:=Zo) rfl tV rfl nO rfl (kT hM (i:=1) (o:=0) (vs:=Zo) rfl rfl))) (fun(j,m) wq hM hF=>qv rfl rfl (pU (cs:=Zo) rfl tV rfl nO rfl (kT hM (i:=1) (o:=0) (vs:=Zo) rfl rfl))) (gp (fun(j,m) _=>iy (v:=(Zb f)) rfl) ?_)
     refine jK rfl rfl rfl rfl (fun(j,m) wq hM hF=>kD rfl rfl (i6 rfl JH) (II cM f s wq (yd hM (i:=0) rfl)) (fun _ _ hz=>by obtain⟨rfl,ht1⟩:=hz;exact⟨(j,m),⟨(yu 0 hM ht1),trivial⟩,rfl,jD.refl _ _ _⟩)) (gp (fun(j,m) _=>iy (v:=(Zb f)) rfl) ?_)
     refine jK rfl rfl rfl rfl (fun(j,m) wq hM hF=>kD rfl rfl (i6 rfl PM) (Ni cM f s wq (yd hM (i:=0) rfl)) (fun _ _ hz=>by obtain⟨U,V,rfl,hF1,ht1⟩:=hz;exact⟨(U,V),⟨(yu 0 hM (ht1.oC hF1)),trivial⟩,rfl,fS rfl (fS rfl (fS rfl (fS rfl (fS trivial (fS trivial (fS trivial (fS trivial (fS trivial (kO)))))))))⟩)) (jK rfl rfl rfl rfl (fun(j,m) wq hM hF=>nu (L' := (Gw (fZ.nD s.u m) cM f s j m p n)) 2 rfl rfl rfl rfl nO rfl rfl hM rfl rfl rfl rfl (fun _ h=>⟨(j,m),⟨h,trivial⟩,rfl,jD.refl _ _ _⟩)) (gp (fun(j,m) _=>pV (v:=(Za s.now)) rfl) ?_))
     refine gp (fun(j,m) _=>pV (v:=j) rfl) ?_
     refine gp (fun(j,m) _=>pV (v:=Zf) rfl) ?_
     exact og
   rintro⟨j,m⟩ ao E -
   have W:=nT E
   have X:=kB E
   have t:=mG X
   refine iN tt none t 2 ?_
   refine Pk (v:=yC) (v' := (Za s.now)) (v'' := j) (v''' := Zf) Tryz.results6 (qj (cs:=Zo) rfl tV rfl nO rfl (kT t (i:=3) (o:=0) (vs:=Zo) rfl rfl)) (nU rfl) (nU rfl) (nU rfl) ?_
   have hww:=Ep (yd t (i:=0) rfl)
   have hwl:=hS.list hww.1 hww.2.1 hww.2.2 W
   have Y:=yi [1,0,2,3] t
   exact⟨j,m,s.now,rfl,⟨hwl,o_⟩,St.eM Y⟩
end
section
open Go Go.Sx

end
section
open Go Go.Sx
theorem TD(lv:Value)(xs:List Mv)(w:World)(hl:jx 4 Mv.cells (fun _=>True) w lv xs)(hxs:∀ x∈xs,x.ok)(e9 v9:Int)(he9:0<=e9/\e9<=255)(hv9:0<=v9/\v9<=255) :
 CR ya 5 #[lv,(Zu e9),(Zu v9)] w (fun r w' => r = .bool true/\gB [] w w'):=by
 refine en Tryz.func5 Tryz.ntmps5 ?_
 have hst0:=jO w
 refine gf hst0 8 ?_
 refine cl aaQ (UJ lv xs w hl hxs) ?_
 rintro _ aN ⟨g,d,o,rfl,ad,ht⟩
 have G:=(pn hst0 ht)
 have hWL:=ad.1
 have hn0:=hWL.n0
 have hyl:(d.length:Int)<=30:=hWL.len
 refine fQ G 5 ?_
 refine al (cs:=wT) rfl nO rfl G (fun l aO aP aQ ae=>kL ae 19 fun aR af=>?_)
 refine al (cs:=wT) rfl nO rfl af (fun n aS aT aU ag=>kL ag 6 fun aV ah=>?_)
 refine cv (a:=e9) (e:=e9) rfl rfl qf ye (iZ o_) (rem (a:=e9) (b:=31) (e:=e9%31) rfl rfl rfl d_ (Br he9.1) (yU ah 16 fun ai aj=>?_))
 have ak:St _ [fV j5 Zk 36 2 (jG 1 (lE d (e9%31)) 0),blk n 24 (FG (e9%31)),blk l 24 Zo,fV Lv.cells g 34 7 d] ai:=sI aj 36 2
 have am:=yi [0,3,2,1] ak
 refine lp (α:=Nat×Value) (fun(i,wv)=>[(2,(Zu v9)),(7,(Zb l)),(8,(Za o)),(9,g),(11,(Zb n)),(12,wv),(13,(Za i))]) (fun(i,wv) w1=>St [(w,[])] [fV j5 wv 36 2 (jG 1 (lE d (e9%31)) i),fV Lv.cells g 34 7 d,blk l 24 Zo,blk n 24 (FG (e9%31))] w1/\i<=d.length) (fun(i,wv)=>d.length-i) (0,Zk) ⟨rfl,rfl,rfl,rfl,rfl,rfl,gD (by first|rfl|omega),trivial⟩ (⟨am,o_⟩) ?_
 rintro⟨i,wv⟩ aW an ⟨hst3,hi⟩
 refine gf hst3 5 ?_
 refine mY (m:=d.length) 1 rfl rfl y9 hst3 rfl ?_
 by_cases aX:((i:Int):Int)<((d.length:Int):Int)
 . refine gL hst3 9 ?_
   by_cases aY:((i:Int):Int)≥(e9%31:Int)
   . skip
     refine iR hst3 (fun aZ H=>?_)
     refine ng tt none H 5 ?_
     refine kf (pvs:=[(0,rF),(1,(Za i))]) (v:=.agg (CW i)) rfl rfl (jS [(0,yW),(1,(Ze i))] j8 tF rfl ⟨rfl,rfl,rfl,rfl,trivial⟩ rfl) (lC (vs:=(Fq i)) (cs:=(AX i)) rfl rfl yy j8 rfl (by simp[Value.cells]) rfl rfl rfl H (fun ao a0 a1 a2 I=>mZ (cf:=j5) (ys:=jG 1 (lE d (e9%31)) i) (zs:=[(1,(i:Int))]) (LL:=fun z=>(QY (row (.slice (some ⟨ao,0,none⟩) 1 1) 36 2 1 ([(.int .i64 1),(.int .i64 i)])) z ((jG 1 (lE d (e9%31)) i)++([(1,(i:Int))])) g d l n (e9%31))) 1 rfl rfl rfl yy j8 rfl d_ I rfl (mh I (i:=0) rfl) (tj _) (by have h7:=um 1 (lE d (e9%31)) i;simp only[zn,zk,zq];omega) (by have h7:=um 1 (lE d (e9%31)) i;simp only[zn,zk,zq];omega) f_ ?_))
     intro z a3 ap a4
     have J:=yi [1,2,3,4] ap
     refine fW J 9 ?_
     refine tN (?_)
     have hpe:lE d (e9%31) i=true:=decide_eq_true (by show _<=_\/_<=(fM d i).slot;omega)
     have hwn:jG 1 (lE d (e9%31)) (i+1)=(jG 1 (lE d (e9%31)) i)++([(1,(i:Int))]):=by rw[jG,hpe];simp
     exact again ((i+1),z) ⟨rfl,rfl,rfl,rfl,rfl,rfl,gD (by first|rfl|omega),trivial⟩ (⟨by rw[hwn];exact J,o_⟩) (by show (d.length-(i+1):Nat)<d.length-i;omega)
   . skip
     by_cases a5:((fM d i).slot:Int)≥(e9%31:Int)
     . skip
       refine iR hst3 (fun a6 K=>?_) (hA:=by refine' gI 8 ?k0;case k0=>refine' gq (fun wq hM=>rv (mJ (cf:=Lv.cells) (off:=0) (off' := 0) rfl yx rfl gn rfl (yf hst3 (i:=1) rfl f_) (gA om))) ?k1;case k1=>refine' gq (fun wq hM=>rv (mc (cf:=Lv.cells) (u:=(Za ((fM d i).slot))) rfl ye rfl (yf hM (i:=1) rfl f_) (gA om) rfl)) ?k2;case k2=>exact iA)
       refine ng tt none K 5 ?_
       refine kf (pvs:=[(0,rF),(1,(Za i))]) (v:=.agg (CW i)) rfl rfl (jS [(0,yW),(1,(Ze i))] j8 tF rfl ⟨rfl,rfl,rfl,rfl,trivial⟩ rfl) (lC (vs:=(Fq i)) (cs:=(AX i)) rfl rfl yy j8 rfl (by simp[Value.cells]) rfl rfl rfl K (fun aq a7 a8 a9 L=>mZ (cf:=j5) (ys:=jG 1 (lE d (e9%31)) i) (zs:=[(1,(i:Int))]) (LL:=fun A=>(QY (row (.slice (some ⟨aq,0,none⟩) 1 1) 36 2 1 ([(.int .i64 1),(.int .i64 i)])) A ((jG 1 (lE d (e9%31)) i)++([(1,(i:Int))])) g d l n (e9%31))) 1 rfl rfl rfl yy j8 rfl d_ L rfl (mh L (i:=0) rfl) (tj _) (by have h7:=um 1 (lE d (e9%31)) i;simp only[zn,zk,zq];omega) (by have h7:=um 1 (lE d (e9%31)) i;simp only[zn,zk,zq];omega) f_ ?_))
       intro A ba ar bb
       have M:=yi [1,2,3,4] ar
       refine fW M 9 ?_
       refine tN (?_)
       have hpe:lE d (e9%31) i=true:=decide_eq_true (by show _<=_\/_<=(fM d i).slot;omega)
       have hwn:jG 1 (lE d (e9%31)) (i+1)=(jG 1 (lE d (e9%31)) i)++([(1,(i:Int))]):=by rw[jG,hpe];simp
       exact again ((i+1),A) ⟨rfl,rfl,rfl,rfl,rfl,rfl,gD (by first|rfl|omega),trivial⟩ (⟨by rw[hwn];exact M,o_⟩) (by show (d.length-(i+1):Nat)<d.length-i;omega)
     . skip
       refine iR hst3 (fun bc N=>?_) (hA:=by refine' gI 8 ?k0;case k0=>refine' gq (fun wq hM=>rv (mJ (cf:=Lv.cells) (off:=0) (off' := 0) rfl yx rfl gn rfl (yf hst3 (i:=1) rfl f_) (gA om))) ?k1;case k1=>refine' gq (fun wq hM=>rv (mc (cf:=Lv.cells) (u:=(Za ((fM d i).slot))) rfl ye rfl (yf hM (i:=1) rfl f_) (gA om) rfl)) ?k2;case k2=>exact iA)
       refine iN tt none N 10 ?_
       refine tN (?_)
       have hpe:lE d (e9%31) i=false:=decide_eq_false (by show ¬ (_<=_\/_<=(fM d i).slot);omega)
       have hwn:jG 1 (lE d (e9%31)) (i+1)=jG 1 (lE d (e9%31)) i:=by rw[jG,hpe];simp
       exact again ((i+1),wv) ⟨rfl,rfl,rfl,rfl,rfl,rfl,gD (by first|rfl|omega),trivial⟩ (⟨by rw[hwn];exact N,o_⟩) (by show (d.length-(i+1):Nat)<d.length-i;omega)
 . refine fQ hst3 15 ?_
   refine cl P4 (N2 ({ rQ with fN:=e9%31 }) (XI o_) o g d an (yf hst3 (i:=1) rfl f_).any hWL.ok o_) ?_
   rintro s B O
   have P:St _ [fV j5 s 36 2 (vO ({ rQ with fN:=e9%31 }) o d),fV j5 wv 36 2 (jG 1 (lE d (e9%31)) i),fV Lv.cells g 34 7 d,blk l 24 Zo,blk n 24 (FG (e9%31))] B:=uT hst3 O.2 O.1
   have hie:i=d.length:=by omega
   have t:=P
   refine fQ P 1 ?_
   rw[hie]at t
   have Q:jx 2 j5 (fun _=>True) B s (vO ({ rQ with fN:=e9%31 }) o d):=Sl.any (yf t (i:=0) rfl f_)
   rw[hWL.few (e9%31)]at Q
   refine cl P3 (ND s wv (jG 1 (lE d (e9%31)) d.length) B Q (Sl.any (yf t (i:=1) rfl f_)) (by have:=um 1 (lE d (e9%31)) d.length;omega)) ?_
   rintro _ bd ⟨rfl,au⟩
   have av:=jf t au
   refine kL av 15 fun be aw=>?_
   refine cv (a:=v9) (e:=v9) rfl rfl qf ye (iZ o_) (rem (a:=v9) (b:=11) (e:=v9%11) rfl rfl rfl d_ (Br hv9.1) (kL aw 11 fun bf ax=>?_))
   refine E4 (cf:=tU) (z0:=false) (m:=12) (c:=12) rfl rfl rfl Tryz.underlying43 nV rfl f_ d_ (zp _) o_ o_ ax ?_
   intro p ay bg bh az
   have R:=St.Ei (cf:=tU) az (i:=0) rfl f_ (zp _) (by simp only[maxLen];omega)
   have aA:St _ [fV j5 Zk 36 2 (jG 1 (mC d (v9%11)) 0),fV tU (yS p) 4 1 (List.replicate 12 false),fV j5 s 36 2 (vO ({ rQ with fN:=e9%31 }) o d),fV j5 wv 36 2 (jG 1 (lE d (e9%31)) d.length),fV Lv.cells g 34 7 d,blk l 24 Zo,blk n 24 (CK (v9%11))] ay:=sI R 36 2
   have aB:=yi [0,4,5,6,1] aA
   refine gL R 15 ?_
   refine lp (α:=Nat×Value×List Bool) (fun(i,wv,sn)=>[(7,(Zb l)),(8,(Za o)),(9,g),(11,(Zb n)),(12,wv),(14,(yS p)),(15,(Za ((jb (d.take i)).length:Int))),(16,(Za i))]) (fun(i,wv,sn) w1=>St [(w,[])] [fV j5 wv 36 2 (jG 1 (mC d (v9%11)) i),fV Lv.cells g 34 7 d,blk l 24 Zo,blk n 24 (CK (v9%11)),fV tU (yS p) 4 1 sn] w1/\Seen sn (jb (d.take i))/\i<=d.length) (fun(i,wv,sn)=>d.length-i) (0,Zk,(List.replicate 12 false)) ⟨rfl,rfl,rfl,rfl,rfl,rfl,gD (by first|rfl|omega),gD (by first|rfl|omega),trivial⟩ (⟨aB,Seen.nil,o_⟩) ?_
   rintro⟨i,wv,sn⟩ bi aC ⟨hst4,hSn,hi⟩
   refine gf hst4 5 ?_
   refine mY (m:=d.length) 1 rfl rfl y9 hst4 rfl ?_
   by_cases bj:((i:Int):Int)<((d.length:Int):Int)
   . refine gL hst4 16 ?_
     refine jN hst4 12 ?_ (hA:=by refine' gI 3 ?k0;case k0=>refine' gq (fun wq hM=>rv (mJ (cf:=Lv.cells) (off:=0) (off' := 2) rfl yx rfl p6 rfl (yf hst4 (i:=1) rfl f_) (gA om))) ?k1;case k1=>refine' gq (fun wq hM=>rv (mJ (cf:=Lv.cells) (off:=2) (off' := 2) rfl qi rfl iU rfl (yf hst4 (i:=1) rfl f_) (gA om))) ?k2;case k2=>refine' gq (fun wq hM=>rv (mc (cf:=Lv.cells) (u:=(Zd ((fM d i).u))) rfl yg rfl (yf hM (i:=1) rfl f_) (gA om) rfl)) ?k3;case k3=>refine' gI 3 ?k4;case k4=>refine' gq (fun wq hM=>rv (mJ (cf:=Lv.cells) (off:=0) (off' := 2) rfl yx rfl p6 rfl (yf hst4 (i:=1) rfl f_) (gA om))) ?k5;case k5=>refine' gq (fun wq hM=>rv (mJ (cf:=Lv.cells) (off:=2) (off' := 3) rfl qi rfl iU rfl (yf hst4 (i:=1) rfl f_) (gA om))) ?k6;case k6=>refine' gq (fun wq hM=>rv (mc (cf:=Lv.cells) (u:=(Zd ((fM d i).v))) rfl yg rfl (yf hM (i:=1) rfl f_) (gA om) rfl)) ?k7;case k7=>exact iA)
     intro wq hM
     refine Ap (vs:=[(Zd ((fM d i).u)),(Zd ((fM d i).v))]) (cs:=[(Zd ((fM d i).u)),(Zd ((fM d i).v))]) rfl rfl nj iU rfl (by simp[Value.cells]) rfl rfl rfl hM (fun q _ h=>(jM h (fun bl S=>?_) (hB:=by refine' gq (fun wq hM=>rv (Et (a:=(some ⟨q,0,none⟩)) (m:=2) (c:=2) rfl nj)) ?k0;case k0=>exact iA)))
     have aD:=S
     have aE:=yi [1,2,3,4,5,0] aD
     refine kF tt none S 2 ?_
     refine lp (α:=Nat×List Bool) (fun(j,sn)=>[(7,(Zb l)),(8,(Za o)),(9,g),(11,(Zb n)),(12,wv),(14,(yS p)),(15,(Za ((nQ d i j).length:Int))),(16,(Za i)),(17,(Za ((jb (d.take i)).length:Int))),(91,(tQ q)),(92,wH),(93,(Za j))]) (fun(j,sn) w1=>St [(w,[])] (Rk wv (jG 1 (mC d (v9%11)) i) g d l n (v9%11) p sn q ([(fM d i).u,(fM d i).v])) w1/\Seen sn (nQ d i j)/\j<=2) (fun(j,sn)=>2-j) (0,sn) ⟨rfl,rfl,rfl,rfl,rfl,rfl,gD (by first|rfl|omega),rfl,rfl,rfl,rfl,gD (by first|rfl|omega),trivial⟩ (⟨aE,hSn,o_⟩) ?_
     rintro⟨j,sn⟩ bm bn ⟨hst5,hSn2,hj⟩
     have hsl:=hSn2.len
     have hl2:[(fM d i).u,(fM d i).v].length=2:=rfl
     refine gf hst5 2 ?_
     by_cases bo:((j:Int):Int)<(2:Int)
     . refine fQ hst5 11 ?_
       refine jj (cf:=jH) (k:=j) (i:=(j:Int)) rfl rfl rfl nj iU (yf hst5 (i:=5) rfl f_) o_ o_ (gA om) (l6 (cf:=jH) rfl rfl yg rfl (yf hst5 (i:=5) rfl f_) (gA om) rfl ?_)
       have hj2:j<2:=by omega
       have hyr:0<=fM [(fM d i).u,(fM d i).v] j/\fM [(fM d i).u,(fM d i).v] j<12:=Xx hWL (show i<d.length by omega) hj2
       have hil:=Xk (i:=i) hWL hj
       refine fQ hst5 7 ?_
       refine cmp rfl rfl rfl (xK o_) (fQ hst5 9 ?_)
       refine jj (cf:=tU) (k:=(fM ([(fM d i).u,(fM d i).v]) j).toNat) (i:=(fM ([(fM d i).u,(fM d i).v]) j)) rfl rfl rfl Tryz.underlying43 nV (yf hst5 (i:=4) rfl f_) o_ o_ (gA om) (l6 (cf:=tU) rfl rfl lR rfl (yf hst5 (i:=4) rfl f_) (gA om) rfl (gL hst5 3 ?_))
       cases U:(fM sn ((fM ([(fM d i).u,(fM d i).v]) j).toNat):Bool)
       . skip
         refine gf hst5 5 ?_
         refine jj (cf:=tU) (k:=(fM ([(fM d i).u,(fM d i).v]) j).toNat) (i:=(fM ([(fM d i).u,(fM d i).v]) j)) rfl rfl rfl Tryz.underlying43 nV (yf hst5 (i:=4) rfl f_) o_ o_ (gA om) (se (f:=(fun _=>true)) (L' := (Rk wv (jG 1 (mC d (v9%11)) i) g d l n (v9%11) p (fR sn ((fM ([(fM d i).u,(fM d i).v]) j).toNat) (fun _=>true)) q ([(fM d i).u,(fM d i).v]))) 4 rfl rfl rfl rfl nV rfl rfl hst5 rfl f_ om rfl rfl rfl (fun bp V=>fW V 13 ?_))
         refine tN (?_)
         have h9:=hSn2.no hj2 hyr U
         have h8:=h9.2
         exact again ((j+1),fR sn ((fM ([(fM d i).u,(fM d i).v]) j).toNat) (fun _=>true)) ⟨rfl,rfl,rfl,rfl,rfl,rfl,gD o_,rfl,rfl,rfl,rfl,gD (by first|rfl|omega),trivial⟩ (⟨V,h9.1,o_⟩) (by show (2-(j+1):Nat)<2-j;omega)
       . skip
         refine jm hst5 8 ?_
         refine tN (?_)
         have h9:=hSn2.yes hj2 hyr U
         have h8:=congrArg List.length h9
         exact again ((j+1),sn) ⟨rfl,rfl,rfl,rfl,rfl,rfl,gD o_,rfl,rfl,rfl,rfl,gD (by first|rfl|omega),trivial⟩ (⟨hst5,by rw[h9];exact hSn2,o_⟩) (by show (2-(j+1):Nat)<2-j;omega)
     . have hj9:j=2:=by omega
       have hi2:nQ d i j=jb (d.take (i+1)):=by rw[hj9];exact WO o_
       refine fQ hst5 15 ?_
       by_cases bq:(((jb (d.take i)).length:Int):Int)<=(v9%11:Int)
       . refine fQ hst5 5 ?_
         by_cases br:(((nQ d i j).length:Int):Int)>(v9%11:Int)
         . refine fQ hst5 8 ?_
           refine kf (pvs:=[(0,rF),(1,(Za i))]) (v:=.agg (CW i)) rfl rfl (jS [(0,yW),(1,(Ze i))] j8 tF rfl ⟨rfl,rfl,rfl,rfl,trivial⟩ rfl) (lC (vs:=(Fq i)) (cs:=(AX i)) rfl rfl yy j8 rfl (by simp[Value.cells]) rfl rfl rfl hst5 (fun aF bs bt bu W=>mZ (cf:=j5) (ys:=jG 1 (mC d (v9%11)) i) (zs:=[(1,(i:Int))]) (LL:=fun C=>[row (Zy aF) 36 2 1 ((AX i)),fV j5 C 36 2 ((jG 1 (mC d (v9%11)) i)++([(1,(i:Int))])),fV Lv.cells g 34 7 d,blk l 24 Zo,blk n 24 (CK (v9%11)),fV tU (yS p) 4 1 sn,fV jH (tQ q) 30 1 ([(fM d i).u,(fM d i).v])]) 1 rfl rfl rfl yy j8 rfl d_ W rfl (mh W (i:=0) rfl) (tj _) (by have h7:=um 1 (mC d (v9%11)) i;simp only[zn,zk,zq];omega) (by have h7:=um 1 (mC d (v9%11)) i;simp only[zn,zk,zq];omega) f_ ?_))
           intro C bv X bw
           have aG:=yi [1,2,3,4,5,6] X
           refine fW aG 9 ?_
           refine tN (?_)
           have aH:=yi [1,2,3,4,5] X
           have hpe:mC d (v9%11) i=true:=decide_eq_true (by rw[<-hi2];omega)
           have hwn:jG 1 (mC d (v9%11)) (i+1)=(jG 1 (mC d (v9%11)) i)++([(1,(i:Int))]):=by rw[jG,hpe];simp
           exact again ((i+1),C,sn) ⟨rfl,rfl,rfl,rfl,rfl,rfl,gD (by rw[<-hi2]),gD (by first|rfl|omega),trivial⟩ (⟨by rw[hwn];exact aH,by rw[<-hi2];exact hSn2,o_⟩) (by show (d.length-(i+1):Nat)<d.length-i;omega)
         . refine fW hst5 13 ?_
           refine tN (?_)
           have aI:=yi [0,1,2,3,4] hst5
           have hpe:mC d (v9%11) i=false:=decide_eq_false (by rw[<-hi2];omega)
           have hwn:jG 1 (mC d (v9%11)) (i+1)=jG 1 (mC d (v9%11)) i:=by rw[jG,hpe];simp
           exact again ((i+1),wv,sn) ⟨rfl,rfl,rfl,rfl,rfl,rfl,gD (by rw[<-hi2]),gD (by first|rfl|omega),trivial⟩ (⟨by rw[hwn];exact aI,by rw[<-hi2];exact hSn2,o_⟩) (by show (d.length-(i+1):Nat)<d.length-i;omega)
       . refine fW hst5 18 ?_
         refine tN (?_)
         have aJ:=yi [0,1,2,3,4] hst5
         have hpe:mC d (v9%11) i=false:=decide_eq_false (by rw[<-hi2];omega)
         have hwn:jG 1 (mC d (v9%11)) (i+1)=jG 1 (mC d (v9%11)) i:=by rw[jG,hpe];simp
         exact again ((i+1),wv,sn) ⟨rfl,rfl,rfl,rfl,rfl,rfl,gD (by rw[<-hi2]),gD (by first|rfl|omega),trivial⟩ (⟨by rw[hwn];exact aJ,by rw[<-hi2];exact hSn2,o_⟩) (by show (d.length-(i+1):Nat)<d.length-i;omega)
   . refine fQ hst4 14 ?_
     refine cl P4 (N2 ({ rQ with fO:=v9%11 }) (XW o_) o g d aC (yf hst4 (i:=1) rfl f_).any hWL.ok o_) ?_
     rintro D E Y
     have Z:St _ [fV j5 D 36 2 (vO ({ rQ with fO:=v9%11 }) o d),fV j5 wv 36 2 (jG 1 (mC d (v9%11)) i),fV Lv.cells g 34 7 d,blk l 24 Zo,blk n 24 (CK (v9%11)),fV tU (yS p) 4 1 sn] E:=uT hst4 Y.2 Y.1
     have hie:i=d.length:=by omega
     have y:=Z
     refine fQ Z 1 ?_
     rw[hie]at y
     have aa:jx 2 j5 (fun _=>True) E D (vO ({ rQ with fO:=v9%11 }) o d):=Sl.any (yf y (i:=0) rfl f_)
     rw[hWL.aaC (v9%11)]at aa
     refine cl P3 (ND D wv (jG 1 (mC d (v9%11)) d.length) E aa (Sl.any (yf y (i:=1) rfl f_)) (by have:=um 1 (mC d (v9%11)) d.length;omega)) ?_
     rintro _ aK ⟨rfl,aL⟩
     have ab:=jf y aL
     refine fQ ab 1 ?_
     refine cl aaT (Vt aK) ?_
     rintro _ bx ⟨rfl,aM⟩
     have ac:=jf ab aM
     refine fW ac 5 ?_
     refine gw (v:=Zf) Tryz.results5 rfl ?_
     exact⟨rfl,ac.gK s_⟩
end
section
open Go Go.Sx Go.ChangeShapes Go.WideShapes Go.ChangeAt Go.RowKit
theorem aaD:ownKnob ya.godebug=none:=by kernel_rfl
theorem Jv:laidOutB ya=true:=by kernel_rfl
theorem XQ:ya.cellsOf 5=1:=by kernel_rfl
theorem WD:ya.cellsOf 50=1:=by kernel_rfl
theorem Nw:ya.cellsOf 52=4:=by kernel_rfl
theorem W0{H:Type}{enc:TypeId×Value->H}{w:World}{sp:Nat->Bool}{hd:Bool}{fuel:Nat}{cs:List Value}{x:DataW H×List MemPlace}(h:DataW.trod enc ya w 0 sp hd fuel 52 cs=some x):∃ c:Mv,cs=c.cells/\c.ok:=by
 obtain⟨hl,hf⟩:=Rz C3 h
 rw[Nw]at hl
 match cs,hl with
 | [a0,a1,a2,a3],_ =>
  obtain⟨n0,y0,h0⟩:=hf _ (ze (i:=0) rfl)
  obtain⟨n1,y1,h1⟩:=hf _ (ze (i:=1) rfl)
  obtain⟨n2,y2,h2⟩:=hf _ (ze (i:=2) rfl)
  obtain⟨n3,y3,h3⟩:=hf _ (ze (i:=3) rfl)
  simp only[XQ,WD]at h0 h1 h2 h3
  obtain⟨x0,e0,q0⟩:=Dk qf h0
  obtain⟨x1,e1,q1⟩:=Dk qf h1
  obtain⟨x2,e2,q2⟩:=Dk Gy h2
  obtain⟨x3,e3,q3⟩:=Dk qf h3
  simp at e0 e1 e2 e3
  subst e0 e1 e2 e3
  exact⟨⟨x0,x1,x2,x3⟩,rfl,⟨q0,q1,q2,q3⟩⟩
theorem V2{H:Type}{enc:TypeId×Value->H}{w:World}{sp:Nat->Bool}{hd:Bool}{fuel:Nat}{cs:List Value}{x:DataW H×List MemPlace}(h:DataW.trod enc ya w 0 sp hd fuel 22 cs=some x):∃ v l,cs=[v]/\jx 4 Mv.cells (fun _=>True) w v l/\∀ x∈l,x.ok:=by
 obtain⟨v,l,e,hI⟩:=Sl.Wl (α:=Mv) (E:=fun _ c vs=>vs=c.cells/\c.ok) AS Nw d_ (fun n cs y hy=>W0 hy) h
 obtain⟨a,cp,rfl,h1,h2,h3⟩:=hI
 refine⟨_,l,e,⟨a,cp,rfl,h1,h2,fun i y hy=>?_⟩,fun y hy=>?_⟩
 . obtain⟨b,o,vs,r1,r2,r3,r4,r5⟩:=h3 i y hy
   exact⟨b,o,vs,r1,r2,r3,r4.1,r5⟩
 . obtain⟨i,hi⟩:=Kh hy
   obtain⟨b,o,vs,r1,r2,r3,r4,r5⟩:=h3 i y hi
   exact r4.2
end
end Go.Proofs.YtdopagghhibopaaGreat
