/- What the functions that the statements reach do: walks through the code of the program and of the references, one theorem a function; under what is said of its arguments. -/
import Derived.Test.YtdopagghhibopaaGreatFc
import Derived.Test.YtdopagghhibopaaGreatVa
import Derived.Test.YtdopagghhibopaaGreatFa
import Derived.Test.YtdopagghhibopaaGreatVb
import Derived.Test.YtdopagghhibopaaGreatFb
import Derived.Test.YtdopagghhibopaaGreatFd
import Derived.Ground.SlmcProg
import Derived.Shelf.SlMaps.Clone
import Derived.Ground.SlsfProg
import Derived.Shelf.SlSortCmp.NoneTotal
import Derived.Test.YtdopagghhibopaaGreatProg
import Derived.Test.YtdopagghhibopaaGreatRows
set_option linter.unusedVariables false
set_option linter.unusedSimpArgs false
set_option maxRecDepth 100000
set_option maxHeartbeats 4000000
namespace Go.Proofs.YtdopagghhibopaaGreat
section
open Go Go.Sx
theorem Ur(hb n:Nat)(s:QS)(w:World)(hO:Own (QS.R hb n s) w) :
 CR ya 103 (Zl hb) w (fun r w' => ∃ (i:Nat) (k:Int) (b:Bool) (s2:QS),r = .tuple #[.agg (qI i k),.bool b]/\(b=true->i<n)/\gm (QS.R hb n s) w w' (QS.R hb n s2)):=by
 rcases wB s.fQ.length with h0|h0
 . exact CR.mono (Vd hb n s w hO h0) fun r w' ⟨h1,ht⟩=>⟨0,0,false,s,h1,fun h=>(by cases h),ht⟩
 . exact CR.mono (M4 hb n s w hO h0) fun r w' ⟨s2,h1,_,ht⟩=>⟨_,_,true,s2,h1,fun _=>hO.fact.hp.ix 0 h0,ht⟩
theorem SO(fO fN ob:Nat)(s:GW)(w:World)(hO:Own (GW.R fO fN ob s) w) :
 CR ya 51 (Zl ob) w (fun r w' => ∃ (s2:GW) (i:Nat) (b:Bool),r = .tuple (uM i b)/\gm (GW.R fO fN ob s) w w' (GW.R fO fN ob s2)):=by
 have hvn:=hO.fact.vn
 have hv2:=hO.fact.v2
 have hen:=hO.fact.en
 refine en Tryz.func51 Tryz.ntmps51 ?_
 have hst0:=Own.of hO.un
 have hG:s.ok fO fN:=hO.fact
 have l:=yx (p:=GW.ok fO fN s) (yc [_,_,_,_] _ hst0) hG
 refine gf hst0 10 ?_
 refine cl IB (G2 fO fN ob s w (yd l (i:=0) rfl)) ?_
 rintro _ C ⟨rfl,ht⟩
 have D:=yv 0 l ht
 have j:=(kf D).unpack
 refine fP j 12 ?_
 refine cl Ox (Ur s.hb fN s.q C (yd j (i:=2) rfl)) ?_
 rintro _ N ⟨d,n,E,e,rfl,G,ht⟩
 have o:=yv 2 j ht
 have hpi:=G
 refine fP o 3 ?_
 refine al (cs:=Z5) rfl iw rfl o (fun t O P Q H=>Az H 11 fun S g=>?_)
 cases u:(E:Bool)
 . skip
   subst u
   refine jo g 9 ?_
   refine jP (v:=Zc) (v' := Zq) Tryz.results51 rfl rfl ?_
   have I:=yi [1,2,3,4,0] g
   exact⟨(⟨s.fb,s.nb,s.hb,s.mb,s.trees,e,s.m⟩:GW),0,false,rfl,yw (yx (p:=GW.ok fO fN (⟨s.fb,s.nb,s.hb,s.mb,s.trees,e,s.m⟩:GW)) (yc [_,_,_,_] _ I) hG.same) zh⟩
 . skip
   subst u
   refine uJ g 5 ?_
   have hpl:=hpi rfl
   refine iX g (fun J f=>?_) (hA:=by refine' gK 6 ?k0;case k0=>refine' gy (fun wq hM=>rv (sX (a:=(d:Int)) (mm:=s.m) (enc:=Ed.enc) (k:=.i64) 4 rfl rfl rC yf rV rfl hM rfl)) ?k1;case k1=>refine' gy (fun wq hM=>rv (Vs (cs:=#[(Za ((fU s.m (d:Int)).a:Int)),(Za ((fU s.m (d:Int)).b:Int)),(Za ((fU s.m (d:Int)).exp)),(.bool ((fU s.m (d:Int)).tree))]) (v:=(.bool ((fU s.m (d:Int)).tree))) rfl Tryz.underlying192 rfl y9 rfl rfl)) ?k2;case k2=>exact iE)
   refine kB tt none f 1 ?_
   cases U:((fU s.m (d:Int)).tree:Bool)
   . skip
     refine uJ f 4 ?_
     refine jM f 6 ?_
     intro wq hM
     refine OI (a:=(d:Int)) (mm:=s.m) (enc:=Ed.enc) (k:=.i64) (L' := [blk t 111 (Zi d n),blk ob 174 (AD fO fN s (some s.mb)),(lu s.fb s.nb (fN+fO+1)),(QS.R s.hb fN e),gP s.mb .i64 Ed.enc (gH s.m (d:Int))]) 4 rfl rfl rfl rC yf hM rfl rfl (fun _ h=>(jN h (fun V x=>?_)))
     refine iP tt none x 10 ?_
     refine jP (v:=(Za d)) (v' := Zf) Tryz.results51 rfl rfl ?_
     have K:=yi [1,2,3,4,0] x
     exact⟨(⟨s.fb,s.nb,s.hb,s.mb,s.trees,e,(gH s.m (d:Int))⟩:GW),d,true,rfl,yw (yx (p:=GW.ok fO fN (⟨s.fb,s.nb,s.hb,s.mb,s.trees,e,(gH s.m (d:Int))⟩:GW)) (yc [_,_,_,_] _ K) hG.del) zh⟩
   . skip
     have L:=yi [1,2,3,4,0] f
     have y:=yx (p:=GW.ok fO fN (⟨s.fb,s.nb,s.hb,s.mb,s.trees,e,s.m⟩:GW)) (yc [_,_,_,_] _ L) hG.same
     refine gf f 5 ?_
     refine cl Iz (GJ fO fN ob (⟨s.fb,s.nb,s.hb,s.mb,s.trees,e,s.m⟩:GW) J (yd y (i:=0) rfl) d o_) ?_
     rintro _ W ⟨c,rfl,ht⟩
     have z:=yv 0 y ht
     have M:GW.ok fO fN c:=nG z
     have A:=(kf z).unpack
     refine gQ A 3 ?_
     refine jM A 6 ?_
     intro wq hM
     refine OI (a:=(d:Int)) (mm:=c.m) (enc:=Ed.enc) (k:=.i64) (L' := [blk ob 174 (AD fO fN c (some c.mb)),(lu c.fb c.nb (fN+fO+1)),(QS.R c.hb fN c.q),gP c.mb .i64 Ed.enc (gH c.m (d:Int)),blk t 111 (Zi d n)]) 3 rfl rfl rfl rC yf hM rfl rfl (fun _ h=>(jN h (fun X B=>?_)))
     refine iP tt none B 10 ?_
     refine jP (v:=(Za d)) (v' := Zf) Tryz.results51 rfl rfl ?_
     exact⟨(⟨c.fb,c.nb,c.hb,c.mb,c.trees,c.q,(gH c.m (d:Int))⟩:GW),d,true,rfl,yw (yx (p:=GW.ok fO fN (⟨c.fb,c.nb,c.hb,c.mb,c.trees,c.q,(gH c.m (d:Int))⟩:GW)) (yc [_,_,_,_] _ B) M.del) zh⟩
theorem Wg(fO fN ob:Nat)(s:GW)(w:World)(hO:Own (GW.R fO fN ob s) w)(k a b:Nat)(exp:Int)(hk:k<fN)(ha:a<fO)(hb:b<fO)(hx:ir .i64 exp) :
 CR ya 56 #[(Zb ob),(Za k),(Za a),(Za b),(Za exp)] w (fun r w' => ∃ (s2:GW) (e:Int),r = .int .i64 e/\gm (GW.R fO fN ob s) w w' (GW.R fO fN ob s2)):=by
 have hvn:=hO.fact.vn
 have hv2:=hO.fact.v2
 have hen:=hO.fact.en
 refine en Tryz.func56 Tryz.ntmps56 ?_
 have hst0:=Own.of hO.un
 have hG:s.ok fO fN:=hO.fact
 have z:=yx (p:=GW.ok fO fN s) (yc [_,_,_,_] _ hst0) hG
 refine gf hst0 9 ?_
 refine cl IB (G2 fO fN ob s w (yd z (i:=0) rfl)) ?_
 rintro _ aa ⟨rfl,ht⟩
 have ab:=yv 0 z ht
 have n:=(kf ab).unpack
 refine fP n 10 ?_
 refine cmp rfl rfl rfl (mz o_) (fP n 6 ?_)
 refine cmp rfl rfl rfl (zO o_) ?_
 have A:=yx (p:=GW.ok fO fN s) (yc [_,_,_,_] _ n) hG
 refine fP n 4 ?_
 refine cl Oo (Nn fO fN ob s aa (yd A (i:=0) rfl) a o_) ?_
 rintro _ ac ⟨rfl,ht⟩
 have ad:=yv 0 A ht
 have B:=(kf ad).unpack
 have C:=yx (p:=GW.ok fO fN s) (yc [_,_,_,_] _ B) hG
 refine fP B 5 ?_
 refine cl Oo (Nn fO fN ob s ac (yd C (i:=0) rfl) b o_) ?_
 rintro _ aC ⟨rfl,ht⟩
 have ae:=yv 0 C ht
 have g:=(kf ae).unpack
 refine fP g 12 ?_
 by_cases aD:((a:Int):Int)=((b:Int):Int)
 . refine fW g 11 ?_
   refine gq (v:=(.int .i64 9)) yI rfl ?_
   exact⟨s,9,rfl,yw (yx (p:=GW.ok fO fN s) (yc [_,_,_,_] _ g) hG) zh⟩
 . refine fP g 14 ?_
   refine aag (a:=(k:Int)) (mm:=s.m) (enc:=Ed.enc) (k:=.i64) 3 rfl rfl rfl rC yf rV rfl g rfl (fP g 3 ?_)
   refine al (cs:=Ge) rfl rV rfl g (fun af aE aF aG ag=>Az ag 9 fun ah l=>?_)
   cases aH:((ig s.m (k:Int)).isSome:Bool)
   . skip
     refine gf l 11 ?_
     refine cl OC (Sj s.hb fN s.q ah (yd l (i:=3) rfl) k o_ exp hx) ?_
     rintro _ aI ⟨aJ,d,rfl,ht⟩
     have D:=yv 3 l ht
     refine fP D 12 ?_
     refine kj (pvs:=[(0,(Za a)),(1,(Za b)),(2,(Za exp))]) (v:=.agg #[(Za a),(Za b),(Za exp),Zq]) rfl rfl (jY [(0,(Ze a)),(1,(Ze b)),(2,(Ze exp))] rV YE rfl ⟨rfl,rfl,rfl,rfl,rfl,rfl,trivial⟩ rfl) (F4 (a:=(k:Int)) (c:=(⟨a,b,exp,false⟩:Ed)) (mm:=s.m) (enc:=Ed.enc) (k:=.i64) (L' := [blk af 192 [(Za ((fU s.m (k:Int)).a:Int)),(Za ((fU s.m (k:Int)).b:Int)),(Za ((fU s.m (k:Int)).exp)),(.bool ((fU s.m (k:Int)).tree))],blk ob 174 (AD fO fN s (some s.mb)),(lu s.fb s.nb (fN+fO+1)),(QS.R s.hb fN d),gP s.mb .i64 Ed.enc (gi s.m (k:Int) (⟨a,b,exp,false⟩:Ed))]) 4 rfl rfl rfl rfl rC yf D rfl rfl (fun aK E=>gQ E 4 ?_))
     refine jM E 17 ?_ (hA:=by refine' gK 10 ?k0;case k0=>refine' gy (fun wq hM=>rv (kR (e:=((fN+a:Nat):Int)) rfl rfl rfl (by rw[jb o_];omega))) ?k1;case k1=>refine' gK 5 ?k2;case k2=>refine' gy (fun wq hM=>rv (kR (e:=((fN+b:Nat):Int)) rfl rfl rfl (by rw[jb o_];omega))) ?k3;case k3=>exact iE)
     intro wq hM
     refine kn rfl rfl (i6 rfl XW) (WM s.fb s.nb (fN+fO+1) wq (yd hM (i:=2) rfl) o_ (fN+a) (fN+b) o_ o_) ?_
     rintro _ _ ⟨h,ai,rfl,hF1,ht1⟩
     refine jN (yv 2 hM (ht1.ot hF1)) (fun aj ak=>?_)
     have G:=yi [2,0,1,3,4] ak
     have aL:=nG G
     have j:=kf G
     refine kB tt none j 6 ?_
     cases H:(ai:Bool)
     . skip
       subst H
       have am:=yi [2,0,3,4,1] j
       have I:=yx (p:=GW.ok fO fN (⟨s.fb,s.nb,s.hb,s.mb,s.trees,d,(gi s.m (k:Int) (⟨a,b,exp,false⟩:Ed))⟩:GW)) (yc [_,_,_,_] _ am) (hG.put (by exact⟨ha,hb,hx⟩))
       refine gf j 7 ?_
       refine cl IW (GL fO fN ob (⟨s.fb,s.nb,s.hb,s.mb,s.trees,d,(gi s.m (k:Int) (⟨a,b,exp,false⟩:Ed))⟩:GW) aj (yd I (i:=0) rfl) k o_) ?_
       rintro _ aM ⟨o,rfl,ht⟩
       have J:=yv 0 I ht
       have an:GW.ok fO fN o:=nG J
       have K:=(kf J).unpack
       refine fW K 8 ?_
       refine gq (v:=Zc) yI rfl ?_
       exact⟨o,0,rfl,yw (yx (p:=GW.ok fO fN o) (yc [_,_,_,_] _ K) an) zh⟩
     . skip
       subst H
       refine gf j 8 ?_
       refine A8 (a:=(h:Int)) (mm:=(gi s.m (k:Int) (⟨a,b,exp,false⟩:Ed))) (enc:=Ed.enc) (k:=.i64) 4 rfl rfl rfl rC yf rV rfl j rfl (al (cs:=Ge) rfl rV rfl j (fun aN aO aP aQ ao=>kT ao 9 fun L f=>?_))
       by_cases aR:((fU (gi s.m (k:Int) (⟨a,b,exp,false⟩:Ed)) (h:Int)).exp:Int)>(exp:Int)
       . refine fW f 23 ?_
         refine gq (v:=Zc) yI rfl ?_
         have ap:=yi [3,1,4,5,0,2] f
         exact⟨(⟨s.fb,s.nb,s.hb,s.mb,s.trees,d,(gi s.m (k:Int) (⟨a,b,exp,false⟩:Ed))⟩:GW),0,rfl,yw (yx (p:=GW.ok fO fN (⟨s.fb,s.nb,s.hb,s.mb,s.trees,d,(gi s.m (k:Int) (⟨a,b,exp,false⟩:Ed))⟩:GW)) (yc [_,_,_,_] _ ap) (hG.put (by exact⟨ha,hb,hx⟩))) zh⟩
       . refine fP f 5 ?_
         by_cases aS:((fU (gi s.m (k:Int) (⟨a,b,exp,false⟩:Ed)) (h:Int)).exp:Int)=(exp:Int)
         . refine fP f 4 ?_
           by_cases aT:((h:Int):Int)>((k:Int):Int)
           . refine fW f 14 ?_
             refine gq (v:=Zc) yI rfl ?_
             have aq:=yi [3,1,4,5,0,2] f
             exact⟨(⟨s.fb,s.nb,s.hb,s.mb,s.trees,d,(gi s.m (k:Int) (⟨a,b,exp,false⟩:Ed))⟩:GW),0,rfl,yw (yx (p:=GW.ok fO fN (⟨s.fb,s.nb,s.hb,s.mb,s.trees,d,(gi s.m (k:Int) (⟨a,b,exp,false⟩:Ed))⟩:GW)) (yc [_,_,_,_] _ aq) (hG.put (by exact⟨ha,hb,hx⟩))) zh⟩
           . skip
             have ar:=yi [3,1,4,5,0,2] f
             have M:=yx (p:=GW.ok fO fN (⟨s.fb,s.nb,s.hb,s.mb,s.trees,d,(gi s.m (k:Int) (⟨a,b,exp,false⟩:Ed))⟩:GW)) (yc [_,_,_,_] _ ar) (hG.put (by exact⟨ha,hb,hx⟩))
             refine fP f 11 ?_
             refine cl Iz (GJ fO fN ob (⟨s.fb,s.nb,s.hb,s.mb,s.trees,d,(gi s.m (k:Int) (⟨a,b,exp,false⟩:Ed))⟩:GW) L (yd M (i:=0) rfl) h o_) ?_
             rintro _ au ⟨t,rfl,ht⟩
             have N:=yv 0 M ht
             have av:GW.ok fO fN t:=nG N
             have O:=(kf N).unpack
             have P:=yx (p:=GW.ok fO fN t) (yc [_,_,_,_] _ O) av
             refine fP O 6 ?_
             refine cl IW (GL fO fN ob t au (yd P (i:=0) rfl) k o_) ?_
             rintro _ aU ⟨u,rfl,ht⟩
             have Q:=yv 0 P ht
             have aw:GW.ok fO fN u:=nG Q
             have S:=(kf Q).unpack
             refine fW S 8 ?_
             refine gq (v:=Zc) yI rfl ?_
             exact⟨u,0,rfl,yw (yx (p:=GW.ok fO fN u) (yc [_,_,_,_] _ S) aw) zh⟩
         . skip
           have ax:=yi [3,1,4,5,0,2] f
           have U:=yx (p:=GW.ok fO fN (⟨s.fb,s.nb,s.hb,s.mb,s.trees,d,(gi s.m (k:Int) (⟨a,b,exp,false⟩:Ed))⟩:GW)) (yc [_,_,_,_] _ ax) (hG.put (by exact⟨ha,hb,hx⟩))
           refine fP f 15 ?_
           refine cl Iz (GJ fO fN ob (⟨s.fb,s.nb,s.hb,s.mb,s.trees,d,(gi s.m (k:Int) (⟨a,b,exp,false⟩:Ed))⟩:GW) L (yd U (i:=0) rfl) h o_) ?_
           rintro _ ay ⟨x,rfl,ht⟩
           have V:=yv 0 U ht
           have az:GW.ok fO fN x:=nG V
           have W:=(kf V).unpack
           have X:=yx (p:=GW.ok fO fN x) (yc [_,_,_,_] _ W) az
           refine fP W 6 ?_
           refine cl IW (GL fO fN ob x ay (yd X (i:=0) rfl) k o_) ?_
           rintro _ aV ⟨y,rfl,ht⟩
           have Y:=yv 0 X ht
           have aA:GW.ok fO fN y:=nG Y
           have Z:=(kf Y).unpack
           refine fW Z 8 ?_
           refine gq (v:=Zc) yI rfl ?_
           exact⟨y,0,rfl,yw (yx (p:=GW.ok fO fN y) (yc [_,_,_,_] _ Z) aA) zh⟩
   . skip
     refine jo l 8 ?_
     refine gq (v:=(.int .i64 6)) yI rfl ?_
     have aB:=yi [1,2,3,4,0] l
     exact⟨s,6,rfl,yw (yx (p:=GW.ok fO fN s) (yc [_,_,_,_] _ aB) hG) zh⟩
end
section
open Go Go.Sx
theorem Xf(n:Nat)(w:World)(hn:n<=65536) :
 CR ya 83 (sj n) w (fun r w' => ∃ fb nb,r = .tuple (qL fb)/\gm (gD []) w w' (lu fb nb (n+1))) :=
 CR.mono (TX n w hn) fun r w' ⟨fb,nb,e,ht⟩=>⟨fb,nb,e,RG (ed:=0) (xs:=mB n n) (by simpa using ht) (pn n n) (Nr o_) (VS o_)⟩
theorem W7(fO fN:Nat)(w:World)(h2:2<=fO)(hv:fO<=4096)(he:fN<=16384) :
 CR ya 41 (qI fO fN) w (fun r w' => ∃ (ob:Nat) (s:GW),r = .tuple (qL ob)/\gm (gD []) w w' (GW.R fO fN ob s)):=by
 refine en Tryz.func41 Tryz.ntmps41 ?_
 have hst0:=jI w
 refine gf hst0 10 ?_
 refine cmp rfl rfl rfl (mz o_) (fP hst0 2 ?_)
 refine cmp rfl rfl rfl (uq o_) (fP hst0 3 ?_)
 refine cmp rfl rfl rfl (mz o_) (fP hst0 3 ?_)
 refine cmp rfl rfl rfl (uq o_) (fP hst0 10 ?_)
 refine ar (e:=((fN+fO:Nat):Int)) rfl rfl rfl rfl (by rw[jb o_];omega) (cl Y5 (Xf (fN+fO) w o_) ?_)
 rintro _ t ⟨a,d,rfl,ht⟩
 have g:=(o4 hst0 ht)
 refine gQ g 25 ?_
 refine lp (α:=Nat) (fun k=>[(0,(Za fO)),(1,(Za fN)),(4,Z6),(5,Zc),(6,(Zb a)),(7,Zc),(34,(Za fO)),(35,(Za ((k:Nat):Int)))]) (fun k w1=>St [(w,[])] [(lu a d (fN+fO+1))] w1/\k<=fO) (fun k=>fO-k) 0 ⟨rfl,rfl,rfl,rfl,rfl,rfl,rfl,gG (by first|rfl|omega),trivial⟩ (⟨g,o_⟩) ?_
 rintro k u h ⟨hst3,hk3⟩
 refine gf hst3 2 ?_
 by_cases x:(((k:Nat):Int):Int)<((fO:Int):Int)
 . refine fP hst3 19 ?_
   refine ar (e:=((fN+k:Nat):Int)) rfl rfl rfl rfl (by rw[jb o_];omega) (cl Pe (Ng a d (fN+fO+1) h (yd hst3 (i:=0) rfl) o_ (fN+k) o_ 9223372036854775807 (kL d_)) ?_)
   rintro _ y ⟨rfl,ht⟩
   have j:=yv 0 hst3 ht
   refine fW j 7 ?_
   refine tN (?_)
   exact again (k+1) ⟨rfl,rfl,rfl,rfl,rfl,rfl,rfl,gG (by first|rfl|omega),trivial⟩ (⟨j,o_⟩) (by show (fO-(k+1):Nat)<fO-k;omega)
 . refine fP hst3 13 ?_
   refine cl OV (NH fN h o_) ?_
   rintro _ z ⟨b,l,rfl,A,ht⟩
   have f:=(o4 hst3 ht)
   refine fP f 22 ?_
   refine kj (pvs:=[(0,(Zb a))]) (v:=.agg (Zl a)) rfl rfl (jY [(0,(Zj a))] Jz ZI rfl ⟨rfl,rfl,trivial⟩ rfl) (fP f 1 ?_)
   refine mkV Ed.enc .i64 rfl rfl f (fun c B C D o=>kj (pvs:=[(0,(Za fO)),(1,(Za fN)),(2,(.agg (Zl a))),(3,(Zb b)),(4,(.map (some c)))]) (v:=.agg (P6 fO fN a b (some c))) rfl rfl (jY [(0,(Ze fO)),(1,(Ze fN)),(2,(Zj a)),(3,(Zj b)),(4,[(.map (some c))])] Pj Y4 rfl ⟨rfl,rfl,rfl,rfl,rfl,rfl,rfl,rfl,rfl,rfl,trivial⟩ rfl) (bx (v:=(.agg (P6 fO fN a b (some c)))) (cs:=[(Za fO),(Za fN),(Zb a),(Zb b),(.map (some c)),Zc]) rfl rfl rfl o (fun m E G H n=>fW n 5 ?_)))
   refine jP (v:=(Zb m)) (v' := Zc) Tryz.results41 rfl rfl ?_
   have q:=yi [0,3,2,1] n
   exact⟨m,(⟨a,d,b,c,0,l,[]⟩:GW),rfl,St.BC (yx (p:=GW.ok fO fN (⟨a,d,b,c,0,l,[]⟩:GW)) (yc [_,_,_,_] _ q) ⟨h2,hv,he,fun p hp=>by cases hp⟩) s_⟩
end
section
open Go Go.Sx
theorem W8(c:Cf)(w:World)(h1:1<=c.win)(h2:1<=c.fN/\c.fN<=16384)(h3:2<=c.fO/\c.fO<=4096)(h4:0<=c.ic/\c.ic<=16384) :
 CR ya 37 (P8 c.win c.fN c.fO c.ic) w (fun r w' => r = .bool true/\gB [] w w'):=by
 refine en Tryz.func37 Tryz.ntmps37 ?_
 have hst0:=jI w
 refine gf hst0 2 ?_
 refine bx (v:=(wz c.win c.fN c.fO c.ic)) (cs:=(xM c.win c.fN c.fO c.ic)) rfl rfl rfl hst0 (fun b d e f a=>fP a 7 ?_)
 refine cmp rfl rfl rfl (qw o_) (fP a 3 ?_)
 refine cmp rfl rfl rfl (qw o_) (fP a 4 ?_)
 refine cmp rfl rfl rfl (B9 o_) (fP a 4 ?_)
 refine cmp rfl rfl rfl (qw o_) (fP a 4 ?_)
 refine cmp rfl rfl rfl (B9 o_) (fP a 4 ?_)
 refine cmp rfl rfl rfl (qw o_) (fP a 4 ?_)
 refine cmp rfl rfl rfl (B9 o_) (fW a 5 ?_)
 refine gq (v:=Zf) Tryz.results37 rfl ?_
 exact⟨rfl,a.gJ s_⟩
end
section
open Go Go.Sx
theorem Xz(a b:Int)(w:World)(ha:ir .i64 a)(hb:ir .i64 b) :
 CR ya 85 (qI a b) w (fun r w' => r = .tuple (qI ((pW a b).1) ((pW a b).2))/\gB [] w w'):=by
 have ha' := ha.i64
 have hb' := hb.i64
 obtain⟨s,hs⟩:∃ s,s=IntKind.i64.wrap (a+b):=⟨_,rfl⟩
 have hw:=hs
 rw[IntKind.wrap_i64]at hw
 refine en Tryz.func85 Tryz.ntmps85 ?_
 have hst0:=jI w
 refine gf hst0 10 ?_
 refine ar (e:=s) rfl rfl rfl rfl hs.symm (fP hst0 7 ?_)
 by_cases d:(a:Int)<(0:Int)
 . refine fP hst0 2 ?_
   by_cases f:(b:Int)<(0:Int)
   . refine fP hst0 1 ?_
     refine D8 (c:=true) rfl rfl rfl y9 rfl (fP hst0 2 ?_)
     by_cases g:(s:Int)<(0:Int)
     . refine fP hst0 3 ?_
       refine Ee (c:=false) rfl rfl rfl y9 rfl (fW hst0 14 ?_)
       refine jP (v:=(Za s)) (v' := Zc) AB rfl rfl ?_
       have h9:=yX (a:=a) (b:=b) o_
       have h8:s=a+b:=by omega
       exact⟨by rw[h9,h8],hst0.gJ s_⟩
     . refine fP hst0 3 ?_
       refine Ee (c:=true) rfl rfl rfl y9 rfl (fW hst0 12 ?_)
       refine jP (v:=Zc) (v' := (.int .i64 7)) AB rfl rfl ?_
       have h9:=NB (a:=a) (b:=b) o_
       exact⟨by rw[h9],hst0.gJ s_⟩
   . refine fP hst0 1 ?_
     refine D8 (c:=false) rfl rfl rfl y9 rfl (fW hst0 20 ?_)
     refine jP (v:=(Za s)) (v' := Zc) AB rfl rfl ?_
     have h9:=yX (a:=a) (b:=b) o_
     have h8:s=a+b:=by omega
     exact⟨by rw[h9,h8],hst0.gJ s_⟩
 . refine fP hst0 2 ?_
   by_cases h:(b:Int)<(0:Int)
   . refine fP hst0 1 ?_
     refine D8 (c:=false) rfl rfl rfl y9 rfl (fW hst0 20 ?_)
     refine jP (v:=(Za s)) (v' := Zc) AB rfl rfl ?_
     have h9:=yX (a:=a) (b:=b) o_
     have h8:s=a+b:=by omega
     exact⟨by rw[h9,h8],hst0.gJ s_⟩
   . refine fP hst0 1 ?_
     refine D8 (c:=true) rfl rfl rfl y9 rfl (fP hst0 2 ?_)
     by_cases i:(s:Int)<(0:Int)
     . refine fP hst0 3 ?_
       refine Ee (c:=true) rfl rfl rfl y9 rfl (fW hst0 12 ?_)
       refine jP (v:=Zc) (v' := (.int .i64 7)) AB rfl rfl ?_
       have h9:=NB (a:=a) (b:=b) o_
       exact⟨by rw[h9],hst0.gJ s_⟩
     . refine fP hst0 3 ?_
       refine Ee (c:=false) rfl rfl rfl y9 rfl (fW hst0 14 ?_)
       refine jP (v:=(Za s)) (v' := Zc) AB rfl rfl ?_
       have h9:=yX (a:=a) (b:=b) o_
       have h8:s=a+b:=by omega
       exact⟨by rw[h9,h8],hst0.gJ s_⟩
theorem Mz(win t:Int)(w:World)(hwin:ir .i64 win)(htt:ir .i64 t) :
 CR ya 43 (qI win t) w (fun r w' => r = .tuple (qI ((pW t win).1) ((pW t win).2))/\gB [] w w'):=by
 refine en Tryz.func43 Tryz.ntmps43 ?_
 have hst0:=jI w
 refine gf hst0 10 ?_
 refine cl Y6 (Xz t win w htt hwin) ?_
 rintro _ c ⟨rfl,b⟩
 have a:=jc hst0 b
 refine fW a 7 ?_
 refine jP (v:=(Za ((pW t win).1))) (v' := (Za ((pW t win).2))) Tryz.results43 rfl rfl ?_
 exact⟨rfl,a.gJ s_⟩
theorem GV(cb:Nat)(win now:Int)(w:World)(hO:Own (Zt cb win now) w)(h1:1<=win)(hwin:ir .i64 win) :
 CR ya 42 (Zl cb) w (fun r w' => r = .bool true/\gm (Zt cb win now) w w' (Zt cb win now)):=by
 refine en Tryz.func42 Tryz.ntmps42 ?_
 have hst0:=y8 hO
 refine gf hst0 8 ?_
 refine qH (a:=some ⟨cb,0,none⟩) (c:=true) rfl rfl rfl Tryz.underlying78 rfl (fP hst0 5 ?_)
 refine cmp rfl rfl rfl (qw o_) (fW hst0 5 ?_)
 refine gq (v:=Zf) Tryz.results42 rfl ?_
 exact⟨rfl,yq hst0⟩
theorem WK(cb:Nat)(win now:Int)(w:World)(hO:Own (Zt cb win now) w)(h1:1<=win)(hwin:ir .i64 win) :
 CR ya 25 (Zl cb) w (fun r w' => r = .int .i64 now/\gm (Zt cb win now) w w' (Zt cb win now)):=by
 refine en Tryz.func25 Tryz.ntmps25 ?_
 have hst0:=y8 hO
 refine gf hst0 9 ?_
 refine cl Ja (GV cb win now w (yd hst0 (i:=0) rfl) h1 hwin) ?_
 rintro _ b ⟨rfl,ht⟩
 have a:=yv 0 hst0 ht
 refine fW a 16 ?_
 refine gq (v:=(Za now)) Tryz.results25 rfl ?_
 exact⟨rfl,yq a⟩
theorem Ma(cb:Nat)(win now:Int)(w:World)(hO:Own (Zt cb win now) w)(h1:1<=win)(hwin:ir .i64 win)(t:Int)(htt:ir .i64 t) :
 CR ya 21 (Zn cb t) w (fun r w' => r = .int .i64 (rm win now t)/\gm (Zt cb win now) w w' (Zt cb win now)):=by
 refine en Tryz.func21 Tryz.ntmps21 ?_
 have hst0:=y8 hO
 refine gf hst0 9 ?_
 refine cl Ja (GV cb win now w (yd hst0 (i:=0) rfl) h1 hwin) ?_
 rintro _ c ⟨rfl,ht⟩
 have a:=yv 0 hst0 ht
 refine fP a 14 ?_
 by_cases e:(t:Int)<(now:Int)
 . refine fW a 11 ?_
   refine gq (v:=(.int .i64 10)) Tryz.results21 rfl ?_
   exact⟨gG (by unfold rm;rw[if_pos (by assumption)]),yq a⟩
 . refine fP a 13 ?_
   refine cl O3 (Mz win t c hwin htt) ?_
   rintro _ f ⟨rfl,d⟩
   have b:=jc a d
   refine fW b 14 ?_
   refine gq (v:=(Za ((pW t win).2))) Tryz.results21 rfl ?_
   exact⟨gG (by unfold rm;rw[if_neg (by assumption)]),yq b⟩
theorem SC(cb:Nat)(win now:Int)(w:World)(hO:Own (Zt cb win now) w)(h1:1<=win)(hwin:ir .i64 win)(t:Int)(htt:ir .i64 t) :
 CR ya 52 (Zn cb t) w (fun r w' => r = .tuple (qI ((pW t win).1) ((pW t win).2))/\gm (Zt cb win now) w w' (Zt cb win now)):=by
 refine en Tryz.func52 Tryz.ntmps52 ?_
 have hst0:=y8 hO
 refine gf hst0 10 ?_
 refine cl Ja (GV cb win now w (yd hst0 (i:=0) rfl) h1 hwin) ?_
 rintro _ c ⟨rfl,ht⟩
 have a:=yv 0 hst0 ht
 refine fP a 13 ?_
 refine cl O3 (Mz win t c hwin htt) ?_
 rintro _ e ⟨rfl,d⟩
 have b:=jc a d
 refine fW b 7 ?_
 refine jP (v:=(Za ((pW t win).1))) (v' := (Za ((pW t win).2))) Tryz.results52 rfl rfl ?_
 exact⟨rfl,yq b⟩
theorem RN(cb:Nat)(win now:Int)(w:World)(hO:Own (Zt cb win now) w)(h1:1<=win)(hwin:ir .i64 win)(t:Int)(htt:ir .i64 t) :
 CR ya 50 (Zn cb t) w (fun r w' => r = .int .i64 (rm win now t)/\gm (Zt cb win now) w w' (Zt cb win (if rm win now t=0 then t else now))):=by
 refine en Tryz.func50 Tryz.ntmps50 ?_
 have hst0:=y8 hO
 refine gf hst0 9 ?_
 refine cl OU (Ma cb win now w (yd hst0 (i:=0) rfl) h1 hwin t htt) ?_
 rintro _ c ⟨rfl,ht⟩
 have a:=yv 0 hst0 ht
 refine fP a 7 ?_
 by_cases d:(rm win now t:Int)=(0:Int)
 . refine mF a 19 fun e b=>?_
   refine gq (v:=(Za (rm win now t))) Tryz.results50 rfl ?_
   have e9:(if rm win now t=0 then t else now)=t:=if_pos (by assumption)
   refine⟨rfl,?_⟩
   rw[e9]
   exact yq b
 . refine fW a 13 ?_
   refine gq (v:=(Za (rm win now t))) Tryz.results50 rfl ?_
   have e9:(if rm win now t=0 then t else now)=now:=if_neg (by assumption)
   refine⟨rfl,?_⟩
   rw[e9]
   exact yq a
theorem Xe(win:Int)(w:World)(h1:1<=win) :
 CR ya 38 (sj win) w (fun r w' => ∃ cb,r = .tuple (qL cb)/\gm (gD []) w w' (blk cb 107 [(Za win),Zc])):=by
 refine en Tryz.func38 Tryz.ntmps38 ?_
 have hst0:=jI w
 refine gf hst0 10 ?_
 refine cmp rfl rfl rfl (mz o_) (fP hst0 8 ?_)
 refine kj (pvs:=[(0,(Za win))]) (v:=.agg (A6 win)) rfl rfl (jY [(0,(Ze win))] OM YO rfl ⟨rfl,rfl,trivial⟩ rfl) (bx (v:=(.agg (A6 win))) (cs:=[(Za win),Zc]) rfl rfl rfl hst0 (fun a c d e b=>fW b 5 ?_))
 refine jP (v:=(Zb a)) (v' := Zc) Tryz.results38 rfl rfl ?_
 exact⟨a,rfl,St.eM b⟩
end
section
open Go Go.Sx
def WW.R(c:WC)(wb:Nat)(s:WW):gh:=jX (s.ok c) (gD [blk wb 83 (tv c.win c.fN c.fO c.ic s),(tD s c.win),(fZ.R c.fO c.fN s.ub s.u),(QS.SR s.sb s.hb c.fN s.q),(GW.R c.fO c.fN s.ob s.g)])
abbrev yH a (b:Nat) c (d e:Nat):=([WW.R a b c,blk d 24 Zo,blk e 24 xF]:List gh)
abbrev PU a b (c:Nat) d e f (g h:Nat):=([jX a (gD [WW.R b c d,fV Lv.cells e 34 7 f]),blk g 24 Zo,blk h 24 xF]:List gh)
abbrev FO a b (c:Nat) d e f (g h:Nat):=([jX a (gD [WW.R b c d,fV Lv.cells e 34 7 f]),blk g 24 Zo,blk h 24 Zo]:List gh)
theorem C9(c:WC)(wb:Nat)(s:WW)(w:World)(hO:Own (WW.R c wb s) w) :
 CR ya 20 (Zl wb) w (fun r w' => r = .bool true/\gm (WW.R c wb s) w w' (WW.R c wb s)):=by
 refine en Tryz.func20 Tryz.ntmps20 ?_
 have hst0:=Own.of hO.un
 have hW:s.ok c:=hO.fact
 have hw1:=hW.w1
 have hw2:=hW.wi
 have hw3:=hW.n0
 have hw4:=hW.n1
 refine gf hst0 8 ?_
 refine qH (a:=some ⟨wb,0,none⟩) (c:=true) rfl rfl rfl Tryz.underlying45 rfl (fP hst0 5 ?_)
 refine qH (a:=some ⟨s.cb,0,none⟩) (c:=true) rfl rfl rfl Tryz.underlying78 rfl (fW hst0 5 ?_)
 refine gq (v:=Zf) Tryz.results20 rfl ?_
 exact⟨rfl,yw (yx (p:=s.ok c) (yc [_,_,_,_,_] _ hst0) hW) zh⟩
theorem Io(c:WC)(wb:Nat)(s:WW)(w:World)(hO:Own (WW.R c wb s) w) :
 CR ya 13 (Zl wb) w (fun r w' => r = .int .i64 s.now/\gm (WW.R c wb s) w w' (WW.R c wb s)):=by
 refine en Tryz.func13 Tryz.ntmps13 ?_
 have hst0:=Own.of hO.un
 have hW:s.ok c:=hO.fact
 have hw1:=hW.w1
 have hw2:=hW.wi
 have hw3:=hW.n0
 have hw4:=hW.n1
 have b:=yx (p:=s.ok c) (yc [_,_,_,_,_] _ hst0) hW
 refine gf hst0 9 ?_
 refine cl ED (C9 c wb s w (yd b (i:=0) rfl)) ?_
 rintro _ e ⟨rfl,ht⟩
 have f:=yv 0 b ht
 have a:=(kf f).unpack
 refine fP a 12 ?_
 refine cl ZT (WK s.cb c.win s.now e (yd a (i:=1) rfl) hw1 (kL o_)) ?_
 rintro _ g ⟨rfl,ht⟩
 have d:=yv 1 a ht
 refine fW d 4 ?_
 refine gq (v:=(Za s.now)) Tryz.results13 rfl ?_
 exact⟨rfl,yw (yx (p:=s.ok c) (yc [_,_,_,_,_] _ d) hW) zh⟩
end
section
open Go Go.Sx
end
end Go.Proofs.YtdopagghhibopaaGreat
namespace Go.Proofs
open Go.Shelf Go.Lib Go.Sort Go.RowKit in
def Tryz.S4:Go.Shelf.Ren:=⟨fun|5=>94|7=>149|n=>n,fun|23=>128|25=>30|3=>115|4=>4|20=>20|n=>n,fun|n=>n⟩
open Go.Shelf Go.Lib Go.Sort Go.RowKit in
theorem Tryz.X8:Go.Proofs.SlLaysW.n5 Proofs.Tryz.prog Tryz.S4 where
 mixed:=by kernel_rfl
 f5:=⟨Proofs.Tryz.f94.name,by(decide),Proofs.Tryz.func94.trans (congrArg some<|by kernel_rfl)⟩
 f7:=Proofs.Tryz.func149.trans (congrArg some<|by kernel_rfl)
 t4:=Proofs.Tryz.underlying4
 a4:=Proofs.Tryz.isAgg4
 z4:=Proofs.Tryz.sizeOf4
 v4:=Proofs.Tryz.zeroValue4
 t20:=Proofs.Tryz.underlying20
 a20:=Proofs.Tryz.isAgg20
 z20:=Proofs.Tryz.sizeOf20
 v20:=Proofs.Tryz.zeroValue20
 t23:=Proofs.Tryz.underlying128
 a23:=Proofs.Tryz.isAgg128
 z23:=Proofs.Tryz.sizeOf128
 v23:=Proofs.Tryz.zeroValue128
end Go.Proofs
namespace Go.Proofs.YtdopagghhibopaaGreat
section
open Go Go.Sx
theorem TO(b:Nat)(im:IM)(w:World)(hO:Own (Qv b im) w) :
 CR ya 94 #[.map (some b)] w (fun r w' => ∃ b2,r = .map (some b2)/\gm (Qv b im) w w' (gD [gP b .u64 p_ im,gP b2 .u64 p_ im])) :=
 TA hO fun es clock h=>AnyW.maps_Clone Tryz.X8 b es clock w h
theorem TS(v:Value)(xs:List Lv)(w:World)(hv:jB 7 Lv.cells (fun _=>True) w v xs)(hl0:xs.length<=1000000) :
 CR ya 93 #[v] w (fun r w' => pN 7 Lv.cells w w' r 34 xs/\gB [] w w'):=by
 refine en Tryz.func93 Tryz.ntmps93 ?_
 have hst0:=jI w
 refine gf hst0 9 ?_
 refine D1 (v:=v) rfl rfl rfl yy hv (gQ hst0 2 ?_)
 cases e:(xw v:Bool)
 . skip
   refine gf hst0 5 ?_
   refine lS (vs:=[]) (cs:=[]) rfl rfl yy iU rfl (by intro v hv;simp at hv) rfl rfl rfl hst0 ?_
   intro f g h i c
   have d:=c
   refine fP c 1 ?_
   refine nO (cf:=Lv.cells) (ys:=[]) (zs:=xs) (LL:=fun a=>[fV Lv.cells a 34 7 xs]) 0 rfl rfl rfl yy iU rfl d_ d rfl (jB.src (l6 d s_ d_ hv) f_) (yW f_ _) (by simp only[zr];omega) (by simp only[zr];omega) f_ (fun a j b k=>fW b 4 ?_)
   refine gq (v:=a) Tryz.results93 rfl ?_
   exact⟨AE b s_,b.gJ s_⟩
 . skip
   refine jo hst0 8 ?_
   refine gq (v:=Zk) Tryz.results93 rfl ?_
   obtain rfl:=DT e hv
   exact⟨pN.EF, hst0.gJ s_⟩
theorem UA(fO fN ub:Nat)(s:fZ)(w:World)(hO:Own (fZ.R fO fN ub s) w) :
 CR ya 46 (Zl ub) w (fun r w' => ∃ (ub2:Nat) (s2:fZ),r = .pointer (some ⟨ub2,0,none⟩)/\((∀ y,s2.has y↔s.has y)/\s2.last=s.last)/\gm (fZ.R fO fN ub s) w w' (gD [(fZ.R fO fN ub s),(fZ.R fO fN ub2 s2)])):=by
 have htu:s.t.A.used<=s.t.A.n:=hO.fact.tok.ul
 have hUn:=hO.fact.n
 have hUt:=hO.fact.tn
 have hUe:=hO.fact.en
 have hUv:=hO.fact.vn
 have hAu:s.A.used<=s.A.begun:=by have h7:=hO.fact.lU.used;omega
 have hAl:=hO.fact.lU.le
 have hll:s.live.length=s.A.begun:=hO.fact.ll
 have hnl2:∀ id,(fU s.im id).2.length<=65536:=fun id=>hO.fact.JR id
 refine en Tryz.func46 Tryz.ntmps46 ?_
 have hst0:=Own.of hO.un
 have hU:s.ok fO fN:=hO.fact
 have J:=yx (p:=s.ok fO fN) (yc [_,_,_,_,_,_] _ hst0) hU
 refine gf hst0 9 ?_
 refine cl BR (Bk fO fN ub s w (yd J (i:=0) rfl)) ?_
 rintro _ aF ⟨rfl,ht⟩
 have W:=yv 0 J ht
 have K:=(kf W).unpack
 refine fP K 11 ?_
 refine al (cs:=[Zc,Zc,vS,Z6,Z6,Zk,(.map none)]) rfl EC rfl K (fun l aG aH aI L=>mR (L' := [blk l 130 (Z7 fO fN s (some s.mb)),blk ub 130 (Z7 fO fN s (some s.mb)),fV Lv.cells s.lv 34 7 s.live,gP s.mb .u64 p_ s.im,iM 3 s.im,(sy s),(Z8 s)]) 0 rfl rfl rfl rfl EC rfl (oU rfl (oU rfl (oU rfl (oU rfl (oU rfl (oU (mH L (i:=2) rfl) (oU rfl uz))))))) L rfl rfl rfl rfl (fun X G=>fP G 8 ?_))
 refine cl O2 (M6 s.iN s.aw X (yd G (i:=5) rfl)) ?_
 rintro _ aJ ⟨e,m,rfl,Y,ht⟩
 have Z:=yi [5,0,1,2,3,4,6] G
 have aa:=mq (yv 0 Z ht)
 refine kT aa 10 fun ac M=>?_
 refine cl Yu (U9 s.tb s.ab s.t ac (yd M (i:=7) rfl)) ?_
 rintro _ aK ⟨f,o,u,rfl,N,ht⟩
 have ad:=yi [7,0,1,2,3,4,5,6] M
 have ae:=mq (yv 0 ad ht)
 refine kT ae 10 fun af O=>?_
 refine cl ZJ (TS s.lv s.live af (ye O (i:=6) rfl f_).any (by first|omega|(simp;omega))) ?_
 rintro j ag hz
 have D:St _ [fV Lv.cells j 34 7 s.live,(Z8 s),(TW.R f o u),(sy s),(AW.R e m),blk l 130 [(Za fO),(Za fN),(Zd s.last),(Zb e),(Zb f),s.lv,(.map (some s.mb))],blk ub 130 (Z7 fO fN s (some s.mb)),fV Lv.cells s.lv 34 7 s.live,gP s.mb .u64 p_ s.im,iM 3 s.im] ag:=wm O hz.2 hz.1
 refine fP D 1 ?_
 refine mR (L' := [fV Lv.cells j 34 7 s.live,(Z8 s),(TW.R f o u),(sy s),(AW.R e m),blk l 130 (yA fO fN s.last e f j (some s.mb)),blk ub 130 (Z7 fO fN s (some s.mb)),fV Lv.cells s.lv 34 7 s.live,gP s.mb .u64 p_ s.im,iM 3 s.im]) 5 rfl rfl rfl (cells_one (mH D (i:=0) rfl)) B0 rfl (oU (mH D (i:=0) rfl) uz) D rfl rfl rfl rfl (fun ah E=>fP E 7 ?_)
 refine ld rfl rfl ym rfl (yo E (i:=6) rfl rfl) (cl ZS (TO s.mb s.im ah (yd E (i:=8) rfl)) ?_)
 rintro _ aL ⟨g,rfl,ht⟩
 have ai:=yi [8,0,1,2,3,4,5,6,7,9] E
 have P:=mq (yv 0 ai ht)
 refine fP P 1 ?_
 refine mR (L' := [gP s.mb .u64 p_ s.im,gP g .u64 p_ s.im,fV Lv.cells j 34 7 s.live,(Z8 s),(TW.R f o u),(sy s),(AW.R e m),blk l 130 (yA fO fN s.last e f j (some g)),blk ub 130 (Z7 fO fN s (some s.mb)),fV Lv.cells s.lv 34 7 s.live,iM 3 s.im]) 7 rfl rfl rfl rfl q7 rfl rfl P rfl rfl rfl rfl (fun aM H=>fP H 8 ?_)
 refine ld rfl rfl ym rfl (yo H (i:=8) rfl rfl) (rgM (k:=.u64) (enc:=p_) (mm:=s.im) 0 rfl rfl ym H rfl ?_)
 intro z Q S
 have aj:St _ [iM 3 [],lF s.mb z .u64 p_ s.im s.im none,gP g .u64 p_ s.im,fV Lv.cells j 34 7 s.live,(Z8 s),(TW.R f o u),(sy s),(AW.R e m),blk l 130 (yA fO fN s.last e f j (some g)),blk ub 130 (Z7 fO fN s (some s.mb)),fV Lv.cells s.lv 34 7 s.live,iM 3 s.im] Q:=St.Iy S
 have ak:St _ [iM 3 [],iM 3 [],lF s.mb z .u64 p_ s.im s.im none,gP g .u64 p_ s.im,fV Lv.cells j 34 7 s.live,(Z8 s),(TW.R f o u),(sy s),(AW.R e m),blk l 130 (yA fO fN s.last e f j (some g)),blk ub 130 (Z7 fO fN s (some s.mb)),fV Lv.cells s.lv 34 7 s.live,iM 3 s.im] Q:=St.Iy aj
 have am:=yi [10,11,2,12,1,7,5,9,4,3,0,8,6] ak
 refine gQ S 3 ?_
 refine lp (α:=IM×IM×IM×IM×(Option (Int×(Value×List Nat)))) (fun(dn,td,dn2,im2,cur)=>[(3,(Zb l)),(40,(Zb z))]) (fun(dn,td,dn2,im2,cur) w1=>St [(w,(fZ.R fO fN ub s).gR)] [blk ub 130 (Z7 fO fN s (some s.mb)),fV Lv.cells s.lv 34 7 s.live,lF s.mb z .u64 p_ s.im td cur,iM 3 td,iM 3 dn,(sy s),(Z8 s),blk l 130 (yA fO fN s.last e f j (some g)),fV Lv.cells j 34 7 s.live,gP g .u64 p_ im2,iM 3 dn2,(AW.R e m),(TW.R f o u)] w1/\o5 s.im dn td dn2 im2) (fun(dn,td,dn2,im2,cur)=>td.length) ([],s.im,[],s.im,none) ⟨rfl,rfl,trivial⟩ (⟨am,o5.start hU.keys⟩) ?_
 rintro⟨dn,td,dn2,im2,cur⟩ aN aO ⟨hst7,hC7⟩
 obtain⟨an,aP⟩:∃ q,TD ya hst7 (i:=2) rfl=q:=⟨_,rfl⟩
 refine gf hst7 2 ?_
 rcases an with ⟨U,ao⟩|⟨b,x,aQ,B⟩
 . skip
   refine P5 rfl rfl (ao _) ?_
   have aR:=U
   refine fW hst7 16 ?_
   refine gq (v:=(Zb l)) Tryz.results46 rfl ?_
   have hfin:=hC7.fin hU.keys U
   have ap:=St.Up hst7 (i:=2) rfl
   have aq:=yi [4,0,1,2,3,5,6,7,8,9,10,11,12] ap
   have ar:=St.wU aq hfin.1
   have au:=yi [10,0,1,2,3,4,5,6,7,8,9,11,12] ar
   have av:=St.wU au hfin.2.1
   have I:=yi [2,3,4,1,6,7,8,9,10,0,11,12] av
   have hA9:=(j5 I (i:=10) rfl:m.A.ok)
   have hT9:=(j5 I (i:=11) rfl:u.ok)
   have hcp:=hU.copy Y hA9 hT9 N.1 N.2.1 hfin.2.2.1 hfin.2.2.2 e f o g j
   have hp1:=yx (p:=fZ.ok fO fN s) (yc [_,_,_,_,_,_] _ I) hU
   have hp2:St _ (gD [_,_,_,_,_,_] :: [(fZ.R fO fN ub s)]) _:=yc [_,_,_,_,_,_] [(fZ.R fO fN ub s)] (ox hp1 (r7 (l₁:=[_]) (l₂:=[_,_,_,_,_,_])))
   have hp3:=ox (yx (p:=fZ.ok fO fN (⟨e,f,o,g,j,s.last,m,u,s.live,im2⟩:fZ)) hp2 hcp.1) (List.Perm.swap _ _ _)
   exact⟨l,(⟨e,f,o,g,j,s.last,m,u,s.live,im2⟩:fZ),rfl,⟨hcp.2,rfl⟩,yq (yc [_,_] _ hp3)⟩
 . skip
   refine P5 rfl rfl (B.run _) ?_
   have ax:=B.st
   have ay:=yi [3,0,1,2,4,5,6,7,8,9,10,11,12] ax
   have C:=St.ZW f_ (St.Nz (St.wU ay B.perm))
   have hpl7:b.2.2.length<=65536:=by have h7:=hnl2 b.1;rw[hC7.at hU.keys B.perm]at h7;exact h7
   refine fP C 10 ?_
   refine enM (p:=b) 4 rfl rfl C rfl (fP C 3 ?_)
   refine tL (v:=b.2.1) rfl rfl (gQ C 2 ?_)
   refine nX (Γ:=Value) mixed [[],[0],[],[],[3],[0,1,2,3,4]] [4,5] d_ [fun _=>(Z4 l),fun _=>(.map (some g)),fun _=>(Zd b.1),fun _=>b.2.1,fun d=>d,fun _=>undef] [(fun d=>[fV gO b.2.1 3 1 b.2.2,iM 3 x,blk ub 130 (Z7 fO fN s (some s.mb)),fV Lv.cells s.lv 34 7 s.live,lF s.mb z .u64 p_ s.im x (some b),iM 3 dn,(sy s),(Z8 s),blk l 130 (yA fO fN s.last e f j (some g)),fV Lv.cells j 34 7 s.live,gP g .u64 p_ im2,iM 3 dn2,(AW.R e m),(TW.R f o u)],fun _ _=>True),(fun d=>(Km d b.2.2 b.2.1 x ub fO fN s (some s.mb) (lF s.mb z .u64 p_ s.im x (some b)) dn l e f j (some g) g im2 dn2 m o u),fun _ _=>True),(fun d=>(Km d b.2.2 b.2.1 x ub fO fN s (some s.mb) (lF s.mb z .u64 p_ s.im x (some b)) dn l e f j (some g) g (gi im2 b.1 (d,b.2.2)) dn2 m o u),fun _ _=>True)] Zk _ rfl C (fun _ _=>trivial) ?_ (fun d=>rfl) rfl ?_
   . skip
     refine gp (fun d _=>jw (o' := 6) rfl rG rfl q7 rfl) ?_
     refine nu rfl rfl rfl rfl rfl (fun d wq hM hF=>qv rfl rfl (gT rfl ym rfl (yo hM (i:=8) rfl rfl))) (fun d wq hM hF=>qv rfl rfl (gT rfl ym rfl (yo hM (i:=9) rfl rfl))) (gp (fun d _=>iy (v:=(Zd b.1)) rfl) ?_)
     refine gp (fun d _=>iy (v:=b.2.1) rfl) ?_
     refine jF rfl rfl rfl rfl (fun d wq hM hF=>kn rfl rfl (i6 rfl OZ) (LS b.2.1 b.2.2 wq (ye hM (i:=0) rfl f_).any (by first|omega|(simp;omega))) (fun az _ hz=>⟨az,⟨(wm hM hz.2 hz.1),trivial⟩,rfl,fS rfl (fS rfl (fS rfl (fS rfl (fS trivial (fS trivial (kG))))))⟩)) (jF rfl rfl rfl rfl (fun d wq hM hF=>xk (a:=b.1) (c:=(d,b.2.2)) (mm:=im2) (enc:=p_) (k:=.u64) (L' := (Km d b.2.2 b.2.1 x ub fO fN s (some s.mb) (lF s.mb z .u64 p_ s.im x (some b)) dn l e f j (some g) g (gi im2 b.1 (d,b.2.2)) dn2 m o u)) 11 rfl rfl rfl rfl ym yg hM rfl rfl (fun _ h=>⟨d,⟨h,trivial⟩,rfl,jA.refl _ _ _⟩)) ?_)
     exact nT
   rintro d aS V -
   refine iP tt none V 1 ?_
   refine tN (?_)
   have aA:=yi [1,6,0,2,3,4,5,7,8,9,10,11,12,13,14] V
   have aB:=((St.OY f_ aA).H9 (p:=b)).wU (r7 (l₁:=[_]))
   have aC:=yi [1,11,0,2,3,4,5,6,7,8,9,10,12,13] aB
   have aD:=((St.OY f_ aC).H9 (p:=(b.1,(d,b.2.2)))).wU (r7 (l₁:=[_]))
   have aE:=yi [3,4,5,2,1,6,7,8,9,10,0,11,12] aD
   exact again ((dn++[b]),x,(dn2++[(b.1,(d,b.2.2))]),(gi im2 b.1 (d,b.2.2)),(some b)) ⟨rfl,rfl,trivial⟩ (⟨aE,hC7.next hU.keys B.perm d⟩) (by have h7:=B.perm.length_eq;rw[zk]at h7;show x.length<td.length;omega)
end
section
open Go Go.Sx
theorem aah:ya.eqGuardType ya.depth 96=false:=by kernel_rfl
theorem VM(c:WC)(w:World)(w1:1<=c.win)(wi:c.win<=1000000)(e1:1<=c.fN)(en:c.fN<=16384)(v2:2<=c.fO)(vn:c.fO<=4096)(d0:0<=c.ic/\c.ic<=16384) :
 CR ya 19 #[(wz c.win c.fN c.fO c.ic),vS] w (fun r w' => ∃ (wb:Nat) (s:WW),r = .tuple (qL wb)/\(s.now=0/\s.added=0/\∀ y,¬ s.u.has y)/\gm (gD []) w w' (WW.R c wb s)):=by
 refine enter Tryz.func19 rfl Tryz.ntmps19 rfl ?_
 have hst0:=jI w
 refine gf hst0 2 ?_
 refine bx (v:=(wz c.win c.fN c.fO c.ic)) (cs:=(xM c.win c.fN c.fO c.ic)) rfl rfl rfl hst0 (fun O x P Q j=>fP j 8 ?_)
 refine cl Yz (W8 ⟨c.win,(c.fN:Int),(c.fO:Int),c.ic⟩ x w1 (by show _/\_;dsimp only;omega) (by show _/\_;dsimp only;omega) d0) ?_
 rintro _ S ⟨rfl,z⟩
 have k:=jc j z
 refine fP k 8 ?_
 refine al (cs:=xF) rfl JP rfl k (fun U V W X l=>fP l 7 ?_)
 refine kj (pvs:=[(0,(wz c.win c.fN c.fO c.ic)),(5,vS),(6,vS)]) (v:=.agg (Qp c.win c.fN c.fO c.ic)) rfl rfl (jY [(0,(xM c.win c.fN c.fO c.ic)),(5,CB),(6,CB)] Pz aai rfl ⟨rfl,rfl,rfl,rfl,rfl,rfl,trivial⟩ rfl) (bx (v:=(.agg (Qp c.win c.fN c.fO c.ic))) (cs:=[(Za c.win),(Za c.fN),(Za c.fO),(Za c.ic),Z6,Z6,Z6,Z6,vS,vS]) rfl rfl rfl l (fun m A Y Z n=>fP n 8 ?_))
 refine cl Yp (Xe c.win A w1) ?_
 rintro _ aa ⟨a,rfl,ht⟩
 have B:=(o4 n ht)
 refine kT B 18 fun C D=>?_
 refine cl Ys (UE c.fO c.fN C vn en) ?_
 rintro _ ab ⟨b,o,rfl,d,ht⟩
 have E:=(o4 D ht)
 refine kT E 15 fun G H=>?_
 refine cl ZG (W9 c.fN G o_) ?_
 rintro _ ac ⟨e,f,q,rfl,I,ht⟩
 have J:=(o4 H ht)
 refine kT J 17 fun K L=>?_
 refine cl YA (W7 c.fO c.fN K v2 vn en) ?_
 rintro _ ad ⟨h,i,rfl,ht⟩
 have M:=(o4 L ht)
 refine kT M 14 fun ae t=>?_
 refine kj (pvs:=[]) (v:=.agg #[Zc,Zc,Zc,Zc]) rfl rfl (BL [] JP Tryz.underlying96 JL rfl trivial rfl s_) (Yy (c:=false) rfl rfl rfl Tryz.underlying96 Tryz.underlying46 JL aah rfl (fW t 13 ?_))
 refine jP (v:=(Zb m)) (v' := Zc) Tryz.results19 rfl rfl ?_
 have N:=yi [4,3,2,1,0] t
 have hok9:=WW.vt w1 wi e1 en v2 vn (g:=i) d.1 d.2 I a b e f h
 exact⟨m,(⟨a,b,e,f,h,0,q,o,i,0,0⟩:WW),rfl,⟨rfl,rfl,d.1⟩,St.BC (yx (p:=WW.ok c (⟨a,b,e,f,h,0,q,o,i,0,0⟩:WW)) (yc [_,_,_,_,_] _ N) hok9) s_⟩
theorem VC(c:WC)(w:World)(w1:1<=c.win)(wi:c.win<=1000000)(e1:1<=c.fN)(en:c.fN<=16384)(v2:2<=c.fO)(vn:c.fO<=4096)(d0:0<=c.ic/\c.ic<=16384) :
 CR ya 11 (P8 c.win c.fN c.fO c.ic) w (fun r w' => ∃ (wb:Nat) (s:WW),r = .tuple (qL wb)/\(s.now=0/\s.added=0/\∀ y,¬ s.u.has y)/\gm (gD []) w w' (WW.R c wb s)):=by
 refine enter Tryz.func11 rfl Tryz.ntmps11 rfl ?_
 have hst0:=jI w
 refine gf hst0 2 ?_
 refine bx (v:=(wz c.win c.fN c.fO c.ic)) (cs:=(xM c.win c.fN c.fO c.ic)) rfl rfl rfl hst0 (fun h e i j a=>fP a 7 ?_)
 refine cl YW (VM c e w1 wi e1 en v2 vn d0) ?_
 rintro _ k ⟨b,f,rfl,g,ht⟩
 have d:=(o4 a ht)
 refine fW d 7 ?_
 refine jP (v:=(Zb b)) (v' := Zc) Tryz.results11 rfl rfl ?_
 exact⟨b,f,rfl,g,St.eM d⟩
end
section
open Go Go.Sx
end
end Go.Proofs.YtdopagghhibopaaGreat
namespace Go.Proofs
open Go.Shelf Go.Lib Go.Sort Go.RowKit in
def Tryz.SF:Go.Shelf.Ren:=⟨fun|6=>59|15=>117|14=>116|28=>174|29=>175|20=>166|21=>167|22=>168|23=>169|24=>170|25=>171|26=>172|27=>173|46=>210|47=>211|48=>212|49=>213|50=>214|57=>236|n=>n,fun|22=>25|24=>34|25=>134|3=>3|39=>209|0=>0|53=>296|55=>30|4=>4|46=>290|45=>289|50=>120|5=>5|9=>9|66=>331|70=>334|76=>348|77=>349|n=>n,fun|n=>n⟩
open Go.Shelf Go.Lib Go.Sort Go.RowKit in
theorem Tryz.Oa:Go.Proofs.SlLaysF0.n6 Proofs.Tryz.prog Tryz.SF where
 mixed:=by kernel_rfl
 f6:=⟨Proofs.Tryz.f59.name,by(decide),Proofs.Tryz.func59.trans (congrArg some<|by kernel_rfl)⟩
 f14:=⟨Proofs.Tryz.f116.name,by(decide),Proofs.Tryz.func116.trans (congrArg some<|by kernel_rfl)⟩
 f15:=Proofs.Tryz.func117.trans (congrArg some<|by kernel_rfl)
 f20:=⟨Proofs.Tryz.f166.name,by(decide),Proofs.Tryz.func166.trans (congrArg some<|by kernel_rfl)⟩
 f21:=⟨Proofs.Tryz.f167.name,by(decide),Proofs.Tryz.func167.trans (congrArg some<|by kernel_rfl)⟩
 f22:=⟨Proofs.Tryz.f168.name,by(decide),Proofs.Tryz.func168.trans (congrArg some<|by kernel_rfl)⟩
 f23:=⟨Proofs.Tryz.f169.name,by(decide),Proofs.Tryz.func169.trans (congrArg some<|by kernel_rfl)⟩
 f24:=⟨Proofs.Tryz.f170.name,by(decide),Proofs.Tryz.func170.trans (congrArg some<|by kernel_rfl)⟩
 f25:=⟨Proofs.Tryz.f171.name,by(decide),Proofs.Tryz.func171.trans (congrArg some<|by kernel_rfl)⟩
 f26:=⟨Proofs.Tryz.f172.name,by(decide),Proofs.Tryz.func172.trans (congrArg some<|by kernel_rfl)⟩
 f27:=⟨Proofs.Tryz.f173.name,by(decide),Proofs.Tryz.func173.trans (congrArg some<|by kernel_rfl)⟩
 f28:=Proofs.Tryz.func174.trans (congrArg some<|by kernel_rfl)
 f29:=Proofs.Tryz.func175.trans (congrArg some<|by kernel_rfl)
 f46:=⟨Proofs.Tryz.f210.name,by(decide),Proofs.Tryz.func210.trans (congrArg some<|by kernel_rfl)⟩
 f47:=Proofs.Tryz.func211.trans (congrArg some<|by kernel_rfl)
 f48:=Proofs.Tryz.func212.trans (congrArg some<|by kernel_rfl)
 f49:=⟨Proofs.Tryz.f213.name,by(decide),Proofs.Tryz.func213.trans (congrArg some<|by kernel_rfl)⟩
 f50:=⟨Proofs.Tryz.f214.name,by(decide),Proofs.Tryz.func214.trans (congrArg some<|by kernel_rfl)⟩
 f57:=⟨Proofs.Tryz.f236.name,by(decide),Proofs.Tryz.func236.trans (congrArg some<|by kernel_rfl)⟩
 t0:=Proofs.Tryz.underlying0
 a0:=Proofs.Tryz.isAgg0
 z0:=Proofs.Tryz.sizeOf0
 v0:=Proofs.Tryz.zeroValue0
 t3:=Proofs.Tryz.underlying3
 a3:=Proofs.Tryz.isAgg3
 z3:=Proofs.Tryz.sizeOf3
 v3:=Proofs.Tryz.zeroValue3
 t4:=Proofs.Tryz.underlying4
 a4:=Proofs.Tryz.isAgg4
 z4:=Proofs.Tryz.sizeOf4
 v4:=Proofs.Tryz.zeroValue4
 t5:=Proofs.Tryz.underlying5
 a5:=Proofs.Tryz.isAgg5
 z5:=Proofs.Tryz.sizeOf5
 v5:=Proofs.Tryz.zeroValue5
 t9:=Proofs.Tryz.underlying9
 a9:=Proofs.Tryz.isAgg9
 z9:=Proofs.Tryz.sizeOf9
 v9:=Proofs.Tryz.zeroValue9
 t22:=Proofs.Tryz.underlying25
 a22:=Proofs.Tryz.isAgg25
 z22:=Proofs.Tryz.sizeOf25
 v22:=Proofs.Tryz.zeroValue25
 t25:=Proofs.Tryz.underlying134
 a25:=Proofs.Tryz.isAgg134
 z25:=Proofs.Tryz.sizeOf134
 v25:=Proofs.Tryz.zeroValue134
 t39:=Proofs.Tryz.underlying209
 a39:=Proofs.Tryz.isAgg209
 z39:=Proofs.Tryz.sizeOf209
 v39:=Proofs.Tryz.zeroValue209
 t45:=Proofs.Tryz.underlying289
 a45:=Proofs.Tryz.isAgg289
 z45:=Proofs.Tryz.sizeOf289
 v45:=Proofs.Tryz.zeroValue289
 t46:=Proofs.Tryz.underlying290
 a46:=Proofs.Tryz.isAgg290
 z46:=Proofs.Tryz.sizeOf290
 v46:=Proofs.Tryz.zeroValue290
 t50:=Proofs.Tryz.underlying120
 a50:=Proofs.Tryz.isAgg120
 z50:=Proofs.Tryz.sizeOf120
 v50:=Proofs.Tryz.zeroValue120
 t53:=Proofs.Tryz.underlying296
 a53:=Proofs.Tryz.isAgg296
 z53:=Proofs.Tryz.sizeOf296
 v53:=Proofs.Tryz.zeroValue296
 t55:=Proofs.Tryz.underlying30
 a55:=Proofs.Tryz.isAgg30
 z55:=Proofs.Tryz.sizeOf30
 v55:=Proofs.Tryz.zeroValue30
 t66:=Proofs.Tryz.underlying331
 a66:=Proofs.Tryz.isAgg331
 z66:=Proofs.Tryz.sizeOf331
 v66:=Proofs.Tryz.zeroValue331
 t70:=Proofs.Tryz.underlying334
 a70:=Proofs.Tryz.isAgg334
 z70:=Proofs.Tryz.sizeOf334
 v70:=Proofs.Tryz.zeroValue334
 t76:=Proofs.Tryz.underlying348
 a76:=Proofs.Tryz.isAgg348
 z76:=Proofs.Tryz.sizeOf348
 v76:=Proofs.Tryz.zeroValue348
 t77:=Proofs.Tryz.underlying349
 a77:=Proofs.Tryz.isAgg349
 z77:=Proofs.Tryz.sizeOf349
 v77:=Proofs.Tryz.zeroValue349
end Go.Proofs
namespace Go.Proofs.YtdopagghhibopaaGreat
section
open Go Go.Sx Go.Lib Go.Sort Go.RowKit
theorem aaj(x:Int)(w:World):Calls ya 118 #[.int .u64 x] w fun e w' => e = .returned Zq/\w' = w:=by
 go_enter Tryz.func118,Tryz.ntmps118
 go_wp2
 go_ret
 exact⟨s_,rfl⟩
theorem aal(x y:Int)(w:World):Calls ya 61 (CJ x y) w fun e w' => e = .returned (Za (compareInt x y))/\w' = w:=by
 go_enter Tryz.func61,Tryz.ntmps61
 go_wp2_with (go_at_call 118;refine(aaj _ _).mono ?_;rintro e w' ⟨rfl,hw⟩;rw[hw])
 all_goals (go_ret;refine⟨?_,rfl⟩;unfold compareInt;(repeat' split)<;>first|rfl|(exfalso;omega))
def xB(x y:Lv):Int:=compareInt x.seq y.seq
theorem Yv(x y:Lv)(W:World):Calls ya 60 #[.agg x.cells.toArray,.agg y.cells.toArray] W fun e w' => e = .returned (Za (xB x y))/\∃ q os', w' = grow (W.drewN q) os' := by
 have hcon:=fun W' => aal x.seq y.seq W'
 unfold xB
 generalize compareInt x.seq y.seq=r at hcon ⊢
 obtain⟨x1,x2,x3,x4,x5,x6,x7⟩:=x
 obtain⟨y1,y2,y3,y4,y5,y6,y7⟩:=y
 simp only[Lv.cells]at hcon ⊢
 go_enter Tryz.func60,Tryz.ntmps60
 go_wp2_with (go_at_call 61;refine(hcon _).mono ?_;rintro e w' ⟨rfl,rfl⟩)
 go_ret
 exact⟨rfl,0,_,by rw[alloc_eq_grow,alloc_eq_grow,grow_grow];rfl⟩
theorem Es(x y:Lv):ltOf xB x y=decide (x.seq<y.seq):=by
 unfold ltOf xB compareInt
 by_cases h1:x.seq<y.seq
 . simp[h1]
 . by_cases h2:y.seq<x.seq<;>simp[h1,h2]
theorem XS:SWO (ltOf xB) where
 irrefl x:=by rw[Es];simp
 trans x y z h1 h2:=by rw[Es]at *;simp at *;omega
 ntrans x y z h1 h2:=by rw[Es]at *;simp at *;omega
theorem UL(v:Value)(xs:List Lv)(w:World)(hO:Own (Fc v xs) w)(hl:xs.length<=1000000) :
 CR ya 59 #[v,.func (.func 60) #[] #[]] w (fun r w' => ∃ ys:List Lv,r = .tuple #[]/\(ys.Perm xs/\ys.Pairwise fun a b=>a.seq<=b.seq)/\gm (Fc v xs) w w' (Fc v ys)):=by
 refine CR.mono (Vw (cf:=Lv.cells) (k:=7) (xs:=xs) (lt:=ltOf xB) f_ d_ hO o_ (AnyF.slices_SortFunc_none (P:=ya) Tryz.Oa none 0 _ w) fun blk cap d hH hb hsz=>?_) ?_
 . exact AnyQ.slices_SortFunc (P:=ya) Tryz.Oa 7 Tryz.isAgg34 Tryz.sizeOf34 Lv.cells f_ (fun x v hv=>by simp[Lv.cells]at hv;rcases hv with rfl|rfl|rfl|rfl|rfl|rfl|rfl<;>rfl) xB XS 60 #[] blk 0 cap d w (enters_of Tryz.func60 k_ rfl) (fun _ _ _ _ x y=>Yv x y _) hH hb hsz
 . rintro r w' ⟨rfl,ys,h1,h2,ht⟩
   exact⟨ys,rfl,⟨h1,h2.imp fun {a b} h=>by rw[Es]at h;simpa using h⟩,ht⟩
end
section
open Go Go.Sx
theorem VH(ab:Nat)(v:AW)(w:World)(hO:Own (AW.R ab v) w) :
 CR ya 58 (Zl ab) w (fun r w' => ∃ lv,r=lv/\gm (AW.R ab v) w w' (gD [AW.R ab v,fV gO lv 3 1 (v.A.list v.A.begun)])):=by
 refine CR.mono (VP ab v.bv v.A w hO.un hO.fact) fun r w' ⟨lv,h1,ht⟩=>⟨lv,h1,?_⟩
 refine((gm.Ey (A:=(AM ab v.bv v.A)) (B:=[iA .i64 lv 3 (gw (v.A.list v.A.begun))]) ht).F6.EM (by have e:∀ l:List Nat,l++[]=l:=mS;simp only[AW.R,jX,gD,iS,kY,List.flatMap_nil,e];rfl) fun h=>?_)
 intro Q hQ
 simp only[zg,se,or_false]at hQ
 rcases hQ with rfl|rfl
 . exact⟨hO.fact,h _ s_⟩
 . rw[DJ f_]
   exact h _ (mE _ zh) _ s_
theorem VB(fO fN ub:Nat)(s:fZ)(w:World)(hO:Own (fZ.R fO fN ub s) w) :
 CR ya 26 (Zl ub) w (fun r w' => ∃ (v:Value) (ys:List Lv),r=v/\s.nk ys/\gm (fZ.R fO fN ub s) w w' (gD [(fZ.R fO fN ub s),fV Lv.cells v 34 7 ys])):=by
 have htu:s.t.A.used<=s.t.A.n:=hO.fact.tok.ul
 have hUn:=hO.fact.n
 have hUt:=hO.fact.tn
 have hUe:=hO.fact.en
 have hUv:=hO.fact.vn
 have hAu:s.A.used<=s.A.begun:=by have h7:=hO.fact.lU.used;omega
 have hAl:=hO.fact.lU.le
 have hll:s.live.length=s.A.begun:=hO.fact.ll
 have hLl:(s.A.list s.A.begun).length=s.A.used:=hO.fact.lU.Da
 have hAn:s.A.n=fN:=hUn
 refine en Tryz.func26 Tryz.ntmps26 ?_
 have hst0:=Own.of hO.un
 have hU:s.ok fO fN:=hO.fact
 have e:=yx (p:=s.ok fO fN) (yc [_,_,_,_,_,_] _ hst0) hU
 refine gf hst0 9 ?_
 refine cl BR (Bk fO fN ub s w (yd e (i:=0) rfl)) ?_
 rintro _ l ⟨rfl,ht⟩
 have o:=yv 0 e ht
 have b:=(kf o).unpack
 refine fP b 18 ?_
 refine cl YT (VH s.iN s.aw l (yd b (i:=4) rfl)) ?_
 rintro a q ⟨_,rfl,ht⟩
 have u:=yi [4,0,1,2,3,5] b
 have c:=mq (yv 0 u ht)
 refine mM (m:=(s.A.list s.A.begun).length) 1 rfl rfl yh c rfl ?_
 have y:St _ [fV Lv.cells Zk 34 7 (((s.A.list s.A.begun).take 0).map (fM s.live)),(sy s),fV gO a 3 1 (s.A.list s.A.begun),blk ub 130 (Z7 fO fN s (some s.mb)),fV Lv.cells s.lv 34 7 s.live,gP s.mb .u64 p_ s.im,iM 3 s.im,(Z8 s)] q:=uO c 34 7
 have z:=yi [3,4,5,6,1,7,2,0] y
 refine gQ c 4 ?_
 refine lp (α:=Nat×Value) (fun(k,xv)=>[(0,(Zb ub)),(3,xv),(13,a),(14,(Za ((s.A.list s.A.begun).length:Int))),(15,(Za k))]) (fun(k,xv) w1=>St [(w,(fZ.R fO fN ub s).gR)] [blk ub 130 (Z7 fO fN s (some s.mb)),fV Lv.cells s.lv 34 7 s.live,gP s.mb .u64 p_ s.im,iM 3 s.im,(sy s),(Z8 s),fV gO a 3 1 (s.A.list s.A.begun),fV Lv.cells xv 34 7 (((s.A.list s.A.begun).take k).map (fM s.live))] w1/\k<=(s.A.list s.A.begun).length) (fun(k,xv)=>(s.A.list s.A.begun).length-k) (0,Zk) ⟨rfl,rfl,rfl,rfl,gG (by first|rfl|omega),trivial⟩ (⟨z,o_⟩) ?_
 rintro⟨k,xv⟩ H B ⟨hst2,hk2⟩
 refine gf hst2 2 ?_
 by_cases I:((k:Int):Int)<(((s.A.list s.A.begun).length:Int):Int)
 . have hkl:k<(s.A.list s.A.begun).length:=by omega
   have hil:fM (s.A.list s.A.begun) k<s.live.length:=by rw[hll];exact((hU.lU.pH _).1 (qZ.2 ⟨k,hkl,rfl⟩)).1
   refine fP hst2 11 ?_
   refine ji (cf:=gO) (k:=k) (i:=(k:Int)) rfl rfl rfl yh gn (ye hst2 (i:=6) rfl f_) o_ o_ (gx om) (lI (cf:=gO) rfl rfl yf rfl (ye hst2 (i:=6) rfl f_) (gx om) rfl (fP hst2 10 ?_))
   refine ji (cf:=Lv.cells) (k:=(fM (s.A.list s.A.begun) k)) (i:=(((fM (s.A.list s.A.begun) k):Nat):Int)) rfl rfl rfl yy iU (ye hst2 (i:=1) rfl f_) o_ o_ (gx om) (rj (cf:=Lv.cells) (cs:=(Zs (fM s.live (fM (s.A.list s.A.begun) k)))) rfl rfl yt rfl iU (ye hst2 (i:=1) rfl f_) (gx om) rfl rfl (lS (vs:=[(uC (fM s.live (fM (s.A.list s.A.begun) k)))]) (cs:=(Zs (fM s.live (fM (s.A.list s.A.begun) k)))) rfl rfl yy iU rfl (by simp[Value.cells]) rfl rfl rfl hst2 (fun C J K L f=>nO (cf:=Lv.cells) (ys:=(((s.A.list s.A.begun).take k).map (fM s.live))) (zs:=[(fM s.live (fM (s.A.list s.A.begun) k))]) (LL:=fun d=>[row (Zy C) 34 7 1 ((Zs (fM s.live (fM (s.A.list s.A.begun) k)))),blk ub 130 (Z7 fO fN s (some s.mb)),fV Lv.cells s.lv 34 7 s.live,gP s.mb .u64 p_ s.im,iM 3 s.im,(sy s),(Z8 s),fV gO a 3 1 (s.A.list s.A.begun),fV Lv.cells d 34 7 ((((s.A.list s.A.begun).take k).map (fM s.live))++[(fM s.live (fM (s.A.list s.A.begun) k))])]) 8 rfl rfl rfl yy iU rfl d_ f rfl (mO f (i:=0) rfl) (fun x hx=>zz.1 (show List.all _ _=true from rfl) x hx) (by simp only[zp,zk,zr,zu,lT,maxLen];omega) (by simp only[zp,zk,zr,zu,lT,maxLen];omega) f_ ?_)))
   intro d M D N
   have g:=yi [1,2,3,4,5,6,7,8] D
   refine fW g 8 ?_
   refine tN (?_)
   exact again ((k+1),d) ⟨rfl,rfl,rfl,rfl,gG (by first|rfl|omega),trivial⟩ (⟨by rw[SJ _ hkl];exact g,o_⟩) (by show ((s.A.list s.A.begun).length-(k+1):Nat)<(s.A.list s.A.begun).length-k;omega)
 . refine fP hst2 13 ?_
   refine cl Y3 (UL xv (((s.A.list s.A.begun).take k).map (fM s.live)) B (yd hst2 (i:=7) rfl) (by rw[zu,lT];omega)) ?_
   rintro _ O ⟨E,rfl,h,ht⟩
   have j:=yv 7 hst2 ht
   refine fW j 9 ?_
   refine gq (v:=xv) Tryz.results26 rfl ?_
   have G:=yi [0,1,2,3,4,5,7,6] j
   have hke:k=(s.A.list s.A.begun).length:=by omega
   subst hke
   have hl9:=fZ.Xq hU (by have h7:=h.1;rwa [Fy]at h7) h.2
   have hp1:=yx (p:=fZ.ok fO fN s) (yc [_,_,_,_,_,_] _ G) hU
   exact⟨xv,E,rfl,hl9,yq (yc [_,_] _ hp1)⟩
end
section
open Go Go.Sx
theorem IS{fO fN ub:Nat}{s:fZ}{w:World}(h:Own (fZ.R fO fN ub s) w):s.t.A.ok :=
 (j5 (Own.of (yd (Own.of h.un) (i:=5) rfl).un) (i:=3) rfl:s.t.w.A.ok)
theorem MB(sb hb n:Nat)(s:QS)(w:World)(hO:Own (QS.SR sb hb n s) w)(now:Int)(hn:n<=65536) :
 CR ya 48 (Zn sb now) w (fun r w' => ∃ v ds t,v=r/\qy n s t ds now/\gm (QS.SR sb hb n s) w w' (gD [QS.SR sb hb n t,fV gO v 3 1 ds])):=by
 refine CR.mono (Ws sb hb n s w hO now hn) fun r w' ⟨v,ds,t,h1,h2,ht⟩=>⟨v,ds,t,h1.symm,h2,?_⟩
 rw[DJ f_]
 exact ht
theorem U8(cb:Nat)(win now:Int)(w:World)(hO:Own (Zt cb win now) w)(h1:1<=win)(hwin:ir .i64 win)(t:Int)(htt:ir .i64 t)(h2:now<=t)(h3 : -9223372036854775808<=t+win/\t+win<=9223372036854775807) :
 CR ya 50 (Zn cb t) w (fun r w' => r = .int .i64 0/\gm (Zt cb win now) w w' (Zt cb win t)):=by
 have h:=RN cb win now w hO h1 hwin t htt
 rw[NN h2 h3,if_pos rfl]at h
 exact h
theorem UK(c:WC)(wb:Nat)(s:WW)(w:World)(hO:Own (WW.R c wb s) w)(T:Int)(hT:s.now<=T)(hT2:T<=1000000) :
 CR ya 23 (Zn wb T) w (fun r w' => ∃ (s2:WW),r = .int .i64 0/\(s2.now=T/\s2.added=s.added/\(∀ y,s2.u.has y↔s.u.has y/\T<y.exp)/\s2.u.last=s.u.last)/\gm (WW.R c wb s) w w' (WW.R c wb s2)):=by
 refine en Tryz.func23 Tryz.ntmps23 ?_
 have hst0:=Own.of hO.un
 have hW:s.ok c:=hO.fact
 have hw1:=hW.w1
 have hw2:=hW.wi
 have hw3:=hW.n0
 have hw4:=hW.n1
 have huok:fZ.ok c.fO c.fN s.u:=(j5 hst0 (i:=2) rfl)
 have hwen:=hW.en
 have hwe1:=hW.e1
 have hwv2:=hW.v2
 have hwvn:=hW.vn
 have hwa0:=hW.a0
 have hwa1:=hW.a1
 have hwla:=hW.la
 have hwl0:=huok.uh
 have n:=yx (p:=s.ok c) (yc [_,_,_,_,_] _ hst0) hW
 refine gf hst0 9 ?_
 refine cl ED (C9 c wb s w (yd n (i:=0) rfl)) ?_
 rintro _ z ⟨rfl,ht⟩
 have A:=yv 0 n ht
 have f:=(kf A).unpack
 refine fP f 14 ?_
 refine cl YX (U8 s.cb c.win s.now z (yd f (i:=1) rfl) hw1 (kL o_) T (kL o_) hT o_) ?_
 rintro _ B ⟨rfl,ht⟩
 have h:=yv 1 f ht
 refine fP h 20 ?_
 refine cl Pk (MB s.sb s.hb c.fN s.q B (yd h (i:=3) rfl) T o_) ?_
 rintro _ K ⟨o,a,j,rfl,b,ht⟩
 have C:=yi [3,0,1,2,4] h
 have l:=mq (yv 0 C ht)
 have hdl:a.length<=c.fN:=b.len
 refine mM (m:=a.length) 1 rfl rfl yh l rfl ?_
 have D:=yi [2,3,4,0,5,1] l
 refine gQ l 4 ?_
 refine lp (α:=Nat×fZ×GW×Int) (fun(k,u2,g2,ex)=>[(0,(Zb wb)),(25,o),(26,(Za a.length)),(27,(Za k))]) (fun(k,u2,g2,ex) w1=>St [(w,(WW.R c wb s).gR)] [blk wb 83 [(Za c.win),(Za c.fN),(Za c.fO),(Za c.ic),(Zb s.cb),(Zb s.ub),(Zb s.sb),(Zb s.ob),(Zd s.added),(Zd ex)],(Zt s.cb c.win T),(fZ.R c.fO c.fN s.ub u2),(QS.SR s.sb s.hb c.fN j),(GW.R c.fO c.fN s.ob g2),fV gO o 3 1 a] w1/\o6 s.u u2 (a.take k)/\ir .u64 ex/\k<=a.length) (fun(k,u2,g2,ex)=>a.length-k) (0,s.u,s.g,s.wX) ⟨rfl,rfl,rfl,gG (by first|rfl|omega),trivial⟩ (⟨D,o6.start _,hW.ex,o_⟩) ?_
 rintro⟨k,u2,g2,ex⟩ L E ⟨hst3,hR,hex,hk3⟩
 refine gf hst3 2 ?_
 by_cases M:((k:Int):Int)<((a.length:Int):Int)
 . have hkl:k<a.length:=by omega
   refine fP hst3 11 ?_
   refine ji (cf:=gO) (k:=k) (i:=(k:Int)) rfl rfl rfl yh gn (ye hst3 (i:=5) rfl f_) o_ o_ (gx om) (lI (cf:=gO) rfl rfl yf rfl (ye hst3 (i:=5) rfl f_) (gx om) rfl (fP hst3 9 ?_))
   refine cl YJ (SO c.fO c.fN s.ob g2 E (yd hst3 (i:=4) rfl)) ?_
   rintro _ G ⟨H,N,O,rfl,ht⟩
   have d:=yv 4 hst3 ht
   have hu29:=(j5 d (i:=2) rfl:fZ.ok c.fO c.fN u2)
   have hcan:=o6.can hR hW.A9 hu29 b (gx hkl)
   refine fP d 9 ?_
   refine cl Pw (Ll c.fO c.fN s.ub u2 G (yd d (i:=2) rfl) (fM a k) hcan) ?_
   rintro _ P ⟨I,rfl,t,ht⟩
   have x:=yv 2 d ht
   refine fP x 7 ?_
   refine ar (e:=IntKind.u64.wrap (ex+1)) rfl rfl rfl rfl rfl (mF x 10 fun Q J=>?_)
   refine tN (?_)
   exact again ((k+1),I,H,IntKind.u64.wrap (ex+1)) ⟨rfl,rfl,rfl,gG (by first|rfl|omega),trivial⟩ (⟨J,by rw[xP,gx hkl];exact hR.next t.1 t.2,U3 _,o_⟩) (by show (a.length-(k+1):Nat)<a.length-k;omega)
 . refine fW hst3 16 ?_
   refine gq (v:=Zc) Tryz.results23 rfl ?_
   have hke:k=a.length:=by omega
   rw[hke,Fy]at hR
   have hfin:=hR.fin hW.A9 huok b
   have hok9:=hW.tick hT hT2 hex b hfin hR.last (g2:=g2)
   exact⟨(⟨s.cb,s.ub,s.sb,s.hb,s.ob,T,j,u2,g2,s.added,ex⟩:WW),rfl,⟨rfl,rfl,hfin,hR.last⟩,yw (yx (p:=WW.ok c (⟨s.cb,s.ub,s.sb,s.hb,s.ob,T,j,u2,g2,s.added,ex⟩:WW)) (yc [_,_,_,_,_] _ hst3) hok9) zh⟩
end
section
open Go Go.Sx
theorem VI(cb:Nat)(win now:Int)(w:World)(hO:Own (Zt cb win now) w)(h1:1<=win)(hwin:ir .i64 win)(t:Int)(htt:ir .i64 t)(h3 : -9223372036854775808<=t+win/\t+win<=9223372036854775807) :
 CR ya 52 (Zn cb t) w (fun r w' => r = .tuple (A6 (t+win))/\gm (Zt cb win now) w w' (Zt cb win now)):=by
 have h:=SC cb win now w hO h1 hwin t htt
 rw[yX h3]at h
 exact h
abbrev WR:List (List Nat):=[[],[0],[0,1],[0,1,2],[],[],[0,1,2,3,4,5],[0,1,2,3,4,5,6],[0,1,2,3,4,5,6,7],[0,1,2,3,4,5,6,7],[],[0,1,2,3,4,5,6,7,8,10],[0,1,2,3,4,5,6,7,8,9,10,11]]
theorem Sw(c:WC)(wb:Nat)(s:WW)(w:World)(hO:Own (WW.R c wb s) w)(x:Lv)(hxo:x.ok)(hxt:x.t=s.now)(hc:s.u.gF c.fO c.fN x.u x.v=0)(ha:s.added<1000000) :
 CR ya 24 (Cd wb x) w (fun r w' => ∃ (s2:WW),r = .tuple #[]/\(s2.now=s.now/\s2.added=s.added+1/\∀ y,s2.u.has y->s.u.has y\/(y.u=x.u/\y.v=x.v))/\gm (WW.R c wb s) w w' (WW.R c wb s2)):=by
 refine en Tryz.func24 Tryz.ntmps24 ?_
 have hst0:=Own.of hO.un
 have hW:s.ok c:=hO.fact
 have hw1:=hW.w1
 have hw2:=hW.wi
 have hw3:=hW.n0
 have hw4:=hW.n1
 have huok:fZ.ok c.fO c.fN s.u:=(j5 hst0 (i:=2) rfl)
 have hwen:=hW.en
 have hwe1:=hW.e1
 have hwv2:=hW.v2
 have hwvn:=hW.vn
 have hwa0:=hW.a0
 have hwa1:=hW.a1
 have hwla:=hW.la
 have hwl0:=huok.uh
 have hl9:s.u.last<=9000000000000000000:=by omega
 have hxt9:=hxt
 have hxe:Lv.ok (Lv.mk x.slot x.seq x.u x.v x.wt x.t (x.t+c.win)):=⟨hxo.slot,hxo.seq,hxo.u,hxo.v,hxo.wt,hxo.t,kL (by show _/\_;dsimp only;omega)⟩
 refine gf hst0 2 ?_
 refine bx (v:=(tA x)) (cs:=(Zp x)) rfl rfl rfl hst0 (fun f aa ab ac D=>gQ D 3 ?_)
 refine jM D 6 ?_
 intro wq hM
 refine kn rfl rfl (i6 rfl ZD) (VI s.cb c.win s.now wq (yd hM (i:=2) rfl) hw1 (kL o_) x.t hxo.t o_) ?_
 rintro _ _ ⟨rfl,ht1⟩
 refine jN (yv 2 hM ht1) (fun ad Q=>?_)
 have E:=yi [2,0,1,3,4,5] Q
 refine kB tt none E 2 ?_
 refine PA (Γ:=Nat×fZ×Nat) mixed WR [6,10,11] k_ [fun(a,b,d)=>(Zb wb),fun(a,b,d)=>(Zb wb),fun(a,b,d)=>(.pointer (some ⟨wb,5,none⟩)),fun(a,b,d)=>(Zb s.ub),fun(a,b,d)=>(tA x),fun(a,b,d)=>(Za (x.t+c.win)),fun(a,b,d)=>(CI ((a:Nat):Int) (s.u.last+1) x (x.t+c.win)),fun(a,b,d)=>(CI ((a:Nat):Int) (s.u.last+1) x (x.t+c.win)),fun(a,b,d)=>(PW ((a:Nat):Int) (s.u.last+1) x (x.t+c.win)),fun(a,b,d)=>Zc,fun(a,b,d)=>(Zb d),fun(a,b,d)=>undef,fun(a,b,d)=>Zc] [([],(fun(a,b,d)=>[(tD s c.win),blk f 32 (Zp x),blk wb 83 (tv c.win c.fN c.fO c.ic s),(fZ.R c.fO c.fN s.ub s.u),(wv s c.fN),(wC c.fO c.fN s)],fun _ _=>True)),([6],(fun(a,b,d)=>[(tD s c.win),blk f 32 (Zp x),blk wb 83 (tv c.win c.fN c.fO c.ic s),jX ((∀ y,fZ.has b y↔s.u.has y\/y=(⟨((a:Nat):Int),s.u.last+1,x.u,x.v,x.wt,x.t,x.t+c.win⟩:Lv))/\fZ.last b=s.u.last+1) (fZ.R c.fO c.fN s.ub b),(wv s c.fN),(wC c.fO c.fN s)],fun _ _=>True)),([10],(fun(a,b,d)=>[blk d 34 Zx,(tD s c.win),blk f 32 (Zp x),blk wb 83 (tv c.win c.fN c.fO c.ic s),(fZ.R c.fO c.fN s.ub s.u),(wv s c.fN),(wC c.fO c.fN s)],fun _ _=>True)),([6,10],(fun(a,b,d)=>[blk d 34 Zx,(tD s c.win),blk f 32 (Zp x),blk wb 83 (tv c.win c.fN c.fO c.ic s),jX ((∀ y,fZ.has b y↔s.u.has y\/y=(⟨((a:Nat):Int),s.u.last+1,x.u,x.v,x.wt,x.t,x.t+c.win⟩:Lv))/\fZ.last b=s.u.last+1) (fZ.R c.fO c.fN s.ub b),(wv s c.fN),(wC c.fO c.fN s)],fun _ _=>True)),([6,10,11],(fun(a,b,d)=>(Qh d ((a:Nat):Int) (s.u.last+1) x (x.t+c.win) s c.win f wb c.fN c.fO c.ic ((∀ y,fZ.has b y↔s.u.has y\/y=(⟨((a:Nat):Int),s.u.last+1,x.u,x.v,x.wt,x.t,x.t+c.win⟩:Lv))/\fZ.last b=s.u.last+1) b),fun _ _=>True))] (0,s.u,0) (fun(a,b,d)=>(7,Zc) :: (6,(Zb d)) :: (31,Zc) :: (30,(PW ((a:Nat):Int) (s.u.last+1) x (x.t+c.win))) :: (22,(CI ((a:Nat):Int) (s.u.last+1) x (x.t+c.win))) :: (29,(CI ((a:Nat):Int) (s.u.last+1) x (x.t+c.win))) :: (28,(Za (x.t+c.win))) :: (27,(tA x)) :: (26,(Zb s.ub)) :: (25,(.pointer (some ⟨wb,5,none⟩))) :: (24,(Zb wb)) :: (23,(Zb wb)) :: _) rfl E (fun _ _=>trivial) ?_ (fun(a,b,d)=>rfl) rfl ?_
 . skip
   refine mX rfl (fun(a,b,d) _ _=>qv rfl rfl (iy (v:=(Zb wb)) rfl)) (mX rfl (fun(a,b,d) _ _=>qv rfl rfl (jU rfl)) (mX rfl (fun(a,b,d) _ _=>qv rfl rfl (jw (o' := 5) rfl FG rfl JN rfl)) (zP rfl ⟨(fun(a,b,d) wq hM hF=>qv rfl rfl (gT rfl FA rfl (yo hM (i:=2) rfl rfl))),trivial,(fun(a,b,d) wq hM hF=>qv rfl rfl (gT rfl FA rfl (yo hM (i:=3) rfl rfl))),trivial,trivial,trivial⟩ (zP rfl ⟨(fun(a,b,d) wq hM hF=>qv rfl rfl (pR (cs:=(Zp x)) rfl pg rfl oS rfl (kO hM (i:=1) (o:=0) (vs:=(Zp x)) rfl rfl))),trivial,(fun(a,b,d) wq hM hF=>qv rfl rfl (pR (cs:=(Zp x)) rfl pg rfl oS rfl (kO hM (i:=2) (o:=0) (vs:=(Zp x)) rfl rfl))),trivial,trivial,trivial⟩ (mX rfl (fun(a,b,d) _ _=>qv rfl rfl (iy (v:=(Za (x.t+c.win))) rfl)) (zW rfl ⟨⟨_,_,rfl,fun(a,b,d) wq hM hF=>kn rfl rfl (i6 rfl Pf) (Lh c.fO c.fN s.ub s.u wq (yd hM (i:=3) rfl) (Lv.mk x.slot x.seq x.u x.v x.wt x.t (x.t+c.win)) hxe hc hl9) (fun _ _ hz=>by obtain⟨n,z,rfl,hF1,ht1⟩:=hz;exact⟨(n,z,d),⟨(yv 3 hM (ht1.ot hF1)),trivial⟩,rfl,fS rfl (fS rfl (fS rfl (fS rfl (fS rfl (fS rfl (fS trivial (fS trivial (fS trivial (fS trivial (fS rfl (fS trivial (fS trivial (kG)))))))))))))⟩)⟩,trivial,⟨_,_,rfl,fun(a,b,d) wq hM hF=>kn rfl rfl (i6 rfl Pf) (Lh c.fO c.fN s.ub s.u wq (yd hM (i:=4) rfl) (Lv.mk x.slot x.seq x.u x.v x.wt x.t (x.t+c.win)) hxe hc hl9) (fun _ _ hz=>by obtain⟨n,z,rfl,hF1,ht1⟩:=hz;exact⟨(n,z,d),⟨(yv 4 hM (ht1.ot hF1)),trivial⟩,rfl,fS rfl (fS rfl (fS rfl (fS rfl (fS rfl (fS rfl (fS trivial (fS trivial (fS trivial (fS trivial (fS rfl (fS trivial (fS trivial (kG)))))))))))))⟩)⟩,trivial,trivial,trivial⟩ (mX rfl (fun(a,b,d) _ _=>qv rfl rfl (iy (v:=(CI ((a:Nat):Int) (s.u.last+1) x (x.t+c.win))) rfl)) ?_)))))))
   refine mX rfl (fun(a,b,d) _ _=>qv rfl rfl (xC rfl rfl)) (mX rfl (fun(a,b,d) _ _=>qv rfl rfl (xC rfl rfl)) (zW rfl ⟨⟨_,_,rfl,fun(a,b,d) wq hM hF=>JU (cs:=Zx) rfl iU rfl hM (fun A _ h=>⟨(a,b,A),⟨h,trivial⟩,rfl,fS rfl (fS rfl (fS rfl (fS rfl (fS rfl (fS rfl (fS rfl (fS rfl (fS rfl (fS rfl (fS trivial (fS trivial (fS trivial (kG)))))))))))))⟩)⟩,⟨_,_,rfl,fun(a,b,d) wq hM hF=>JU (cs:=Zx) rfl iU rfl hM (fun A _ h=>⟨(a,b,A),⟨h,trivial⟩,rfl,fS rfl (fS rfl (fS rfl (fS rfl (fS rfl (fS rfl (fS rfl (fS rfl (fS rfl (fS rfl (fS trivial (fS trivial (fS trivial (kG)))))))))))))⟩)⟩,trivial,trivial,trivial,trivial⟩ (zW rfl ⟨trivial,trivial,trivial,⟨_,_,rfl,fun(a,b,d) wq hM hF=>mW (L' := (Qh d ((a:Nat):Int) (s.u.last+1) x (x.t+c.win) s c.win f wb c.fN c.fO c.ic ((∀ y,fZ.has b y↔s.u.has y\/y=(⟨((a:Nat):Int),s.u.last+1,x.u,x.v,x.wt,x.t,x.t+c.win⟩:Lv))/\fZ.last b=s.u.last+1) b)) 0 rfl rfl rfl rfl iU rfl rfl hM rfl rfl rfl rfl (fun _ h=>⟨(a,b,d),⟨h,trivial⟩,rfl,jA.refl _ _ _⟩)⟩,trivial,trivial⟩ (mX rfl (fun(a,b,d) _ _=>qv rfl rfl (pQ (v:=Zc) rfl)) ?_))))
   exact OF
 rintro⟨a,b,d⟩ ae S -
 have G:=yi [4,0,1,2,3,5,6] S
 have k:=nG G
 have B:=kf G
 refine kB tt none B 2 ?_
 have hu29:=(j5 B (i:=0) rfl:fZ.ok c.fO c.fN b)
 have hfree:=hW.free huok hu29 (i:=a) (e:=(⟨((a:Nat):Int),s.u.last+1,x.u,x.v,x.wt,x.t,x.t+c.win⟩:Lv)) rfl rfl k.1
 have hieb:a<c.fN:=by obtain⟨j,h7,_,_,h8⟩:=hu29.wM ((k.1 _).2 (.inr rfl));have h9:((a:Nat):Int)=(j:Int):=h7;omega
 refine jM B 6 ?_
 intro wq hM
 refine kn rfl rfl (i6 rfl OG) (L5 c.fO c.fN s.ub b wq (yd hM (i:=0) rfl) x.u) ?_
 rintro _ _ ⟨H,af,rfl,hF1,ht1⟩
 refine jN (yv 0 hM (ht1.ot hF1)) (fun ag I=>?_)
 have U:=nG I
 have J:=kf I
 refine kB tt none J 2 ?_
 have hza:H<c.fO:=by have h7:=TW.vX.lt U hu29.tok (by rw[hu29.tn];omega);rw[hu29.tn]at h7;exact h7
 refine jM J 6 ?_
 intro wq hM
 refine kn rfl rfl (i6 rfl OG) (L5 c.fO c.fN s.ub b wq (yd hM (i:=0) rfl) x.v) ?_
 rintro _ _ ⟨K,ah,rfl,hF1,ht1⟩
 refine jN (yv 0 hM (ht1.ot hF1)) (fun ai L=>?_)
 have V:=nG L
 have M:=kf L
 refine kB tt none M 2 ?_
 have hzb:K<c.fO:=by have h7:=TW.vX.lt V hu29.tok (by rw[hu29.tn];omega);rw[hu29.tn]at h7;exact h7
 refine jM M 7 ?_
 intro wq hM
 refine kn rfl rfl (i6 rfl Yl) (Xh s.sb s.hb c.fN s.q wq (yd hM (i:=5) rfl) a hieb hfree (x.t+c.win) (kL o_)) ?_
 rintro _ _ ⟨C,rfl,hF1,ht1⟩
 refine jN (yv 5 hM (ht1.ot hF1)) (fun aj W=>?_)
 have N:=yi [5,0,1,2,3,4,6] W
 have X:=nG N
 have O:=kf N
 refine kB tt none O 2 ?_
 refine jM O 9 ?_
 intro wq hM
 refine kn rfl rfl (i6 rfl ZK) (Wg c.fO c.fN s.ob s.g wq (yd hM (i:=6) rfl) a H K (x.t+c.win) hieb hza hzb (kL o_)) ?_
 rintro _ _ ⟨l,ak,rfl,ht1⟩
 refine jN (yv 6 hM ht1) (fun al Y=>?_)
 have m:=yi [6,0,1,2,3,4,5] Y
 refine nE tt none m 5 ?_
 refine ld rfl rfl yg rfl (yo m (i:=6) rfl rfl) (fP m 3 ?_)
 refine mR (L' := [(GW.R c.fO c.fN s.ob l),(QS.SR s.sb s.hb c.fN C),(fZ.R c.fO c.fN s.ub b),blk d 34 [(Za ((a:Nat):Int)),(Zd (s.u.last+1)),(Zd x.u),(Zd x.v),(Za x.wt),(Za x.t),(Za (x.t+c.win))],(tD s c.win),blk f 32 (Zp x),blk wb 83 [(Za c.win),(Za c.fN),(Za c.fO),(Za c.ic),(Zb s.cb),(Zb s.ub),(Zb s.sb),(Zb s.ob),(Zd (s.added+1)),(Zd s.wX)]]) 6 rfl rfl rfl rfl iQ rfl rfl m rfl rfl rfl rfl (fun am P=>fW P 1 ?_)
 refine jx Tryz.results24 ?_
 have Z:=yi [6,4,2,1,0,3,5] P
 have hok9:=hW.ins huok (i:=a) (e:=(⟨((a:Nat):Int),s.u.last+1,x.u,x.v,x.wt,x.t,x.t+c.win⟩:Lv)) rfl rfl hxt (by show x.t+c.win=_;rw[hxt]) k.1 k.2 X ha (g2:=l)
 exact⟨(⟨s.cb,s.ub,s.sb,s.hb,s.ob,s.now,C,b,l,s.added+1,s.wX⟩:WW),rfl,⟨rfl,rfl,fun y hy=>((k.1 y).1 hy).imp_right fun e=>by subst e;exact⟨rfl,rfl⟩⟩,yw (yx (p:=WW.ok c (⟨s.cb,s.ub,s.sb,s.hb,s.ob,s.now,C,b,l,s.added+1,s.wX⟩:WW)) (yc [_,_,_,_,_] _ Z) hok9) zh⟩
end
section
open Go Go.Sx
theorem Va(sb hb n:Nat)(q:QS)(sb2 hb2:Nat)(q2:QS)(w:World)(hO:Own (jX (q2.fQ=q.fQ) (gD [(QS.SR sb hb n q),(QS.SR sb2 hb2 n q2)])) w)(now:Int)(hn:n<=65536) :
 CR ya 48 (Zn sb2 now) w (fun r w' => ∃ (p:Option Addr) (cp:Nat) (ds:List Nat) (t:QS),(.slice p ds.length cp)=r/\qy n q t ds now/\gm (jX (q2.fQ=q.fQ) (gD [(QS.SR sb hb n q),(QS.SR sb2 hb2 n q2)])) w w' (gD [(QS.SR sb hb n q),(QS.SR sb2 hb2 n t),fV gO (.slice p ds.length cp) 3 1 ds])):=by
 have hst:=Own.of hO.un
 refine CR.mono (MB sb2 hb2 n q2 w (yd hst (i:=1) rfl) now hn) fun r w' ⟨v,ds,t,h1,h2,ht⟩=>?_
 have h3:=yv 1 hst ht
 have h4:=mq (ox h3 (List.Perm.swap _ _ _))
 have h5:=ox h4 (r7 (l₁:=[_,_]) (l₂:=[_]))
 have h6:=(St.NY h5 zh).F6 (p:=(q2.fQ=q.fQ))
 have h7:w'.ownsRow 0 3 1 v ds.length (ds.flatMap gO):=ht.holds _ (mE _ zh)
 subst h1
 rcases h7.2 with ⟨rfl,h8⟩|⟨b,cap,cur,rfl,_⟩
 . refine⟨none,0,ds,t,by rw[h8],h2.Oc hO.fact,?_⟩
   rw[h8]
   exact h6
 . exact⟨_,cap,ds,t,rfl,h2.Oc hO.fact,h6⟩
theorem Vq(c:WC)(wb:Nat)(s:WW)(w:World)(hO:Own (WW.R c wb s) w)(x:Lv)(hxo:x.ok) :
 CR ya 22 (Cd wb x) w (fun r w' => ∃ (e:Int),r = .int .i64 e/\(e=0->Room c s x)/\gm (WW.R c wb s) w w' (WW.R c wb s)):=by
 refine en Tryz.func22 Tryz.ntmps22 ?_
 have hst0:=Own.of hO.un
 have hW:s.ok c:=hO.fact
 have hw1:=hW.w1
 have hw2:=hW.wi
 have hw3:=hW.n0
 have hw4:=hW.n1
 have huok:fZ.ok c.fO c.fN s.u:=(j5 hst0 (i:=2) rfl)
 have hwen:=hW.en
 have hwe1:=hW.e1
 have hwv2:=hW.v2
 have hwvn:=hW.vn
 have hwa0:=hW.a0
 have hwa1:=hW.a1
 have hwla:=hW.la
 have hwl0:=huok.uh
 have htA:=IS (yd hst0 (i:=2) rfl)
 have hxt9:=hxo.t.i64
 refine gf hst0 2 ?_
 refine bx (v:=(tA x)) (cs:=(Zp x)) rfl rfl rfl hst0 (fun n ar au av J=>gQ J 4 ?_)
 refine jM J 5 ?_
 intro wq hM
 refine kn rfl rfl (i6 rfl Jj) (G8 c.fO c.fN s.ub s.u wq (yd hM (i:=3) rfl) x) ?_
 rintro _ _ ⟨rfl,ht1⟩
 refine jN (yv 3 hM ht1) (fun K L=>?_)
 have z:=yi [3,0,1,2,4,5] L
 refine nE tt none z 5 ?_
 by_cases M:(fZ.gF s.u c.fO c.fN x.u x.v:Int)=(0:Int)
 . have hc0:=M
   refine fW z 11 ?_
   refine gq (v:=Zc) E4 rfl ?_
   have W:=yi [1,2,3,4,5,0] L
   exact⟨0,rfl,(fun _=>Room.of huok htA hc0 fun y hy=>hy.1),yw (yx (p:=s.ok c) (yc [_,_,_,_,_] _ W) hW) zh⟩
 . have hc0:=M
   obtain⟨X,aw⟩:∃ q,wB s.q.fQ.length=q:=⟨_,rfl⟩
   refine fP z 13 ?_
   rcases X with h0|h0
   . skip
     refine cl Pp (T4 s.sb s.hb c.fN s.q K (yd z (i:=4) rfl) h0) ?_
     rintro _ ax ⟨rfl,ht⟩
     have N:=yv 4 z ht
     refine fP N 3 ?_
     refine al (cs:=Z5) rfl iw rfl N (fun ay az aA aB Y=>mF Y 26 fun aC Z=>?_)
     refine gq (v:=(Za (fZ.gF s.u c.fO c.fN x.u x.v))) E4 rfl ?_
     have aa:=yi [3,4,1,5,6,0,2] Z
     exact⟨fZ.gF s.u c.fO c.fN x.u x.v,rfl,(fun h7=>absurd h7 hc0),yw (yx (p:=s.ok c) (yc [_,_,_,_,_] _ aa) hW) zh⟩
   . skip
     refine cl Pp (TF s.sb s.hb c.fN s.q K (yd z (i:=4) rfl) h0) ?_
     rintro _ aD ⟨rfl,ht⟩
     have O:=yv 4 z ht
     refine fP O 3 ?_
     refine al (cs:=Z5) rfl iw rfl O (fun E aE aF aG ab=>kT ab 13 fun ac C=>?_)
     by_cases aH:((fM s.q.fQ 0).key:Int)>(x.t:Int)
     . refine fW C 13 ?_
       refine gq (v:=(Za (fZ.gF s.u c.fO c.fN x.u x.v))) E4 rfl ?_
       have ad:=yi [3,4,1,5,6,0,2] C
       exact⟨fZ.gF s.u c.fO c.fN x.u x.v,rfl,(fun h7=>absurd h7 hc0),yw (yx (p:=s.ok c) (yc [_,_,_,_,_] _ ad) hW) zh⟩
     . refine fP C 13 ?_
       refine cl ZF (UA c.fO c.fN s.ub s.u ac (yd C (i:=1) rfl)) ?_
       rintro _ aI ⟨A,B,rfl,G,ht⟩
       have ae:=yi [1,0,2,3,4,5,6] C
       have P:=mq (yv 0 ae ht)
       refine gQ P 5 ?_
       refine nX (Γ:=Nat×Nat×QS×Option Addr×Nat×List Nat×QS) mixed [[],[0],[0,1],[0,1,2],[0,1,2,3],[],[5],[0,1,2,3,4,5,6],[0,1,2,3,4,5,6,7],[]] [4,7] d_ [fun _=>(Zb wb),fun _=>(Zb wb),fun _=>(Z4 wb),fun _=>(Zb s.sb),fun(g,h,j,d,f,b,l)=>(Zb g),fun _=>(xL n),fun _=>(Za x.t),fun(g,h,j,d,f,b,l)=>(.slice d b.length f),fun(g,h,j,d,f,b,l)=>(Za b.length),fun _=>Zc] [(fun(g,h,j,d,f,b,l)=>[(fZ.R c.fO c.fN s.ub s.u),(fZ.R c.fO c.fN A B),blk E 111 (Zi ((fM s.q.fQ 0).ix:Int) ((fM s.q.fQ 0).key)),blk n 32 (Zp x),blk wb 83 (tv c.win c.fN c.fO c.ic s),(tD s c.win),(wv s c.fN),(wC c.fO c.fN s)],fun _ _=>True),(fun(g,h,j,d,f,b,l)=>[(fZ.R c.fO c.fN s.ub s.u),(fZ.R c.fO c.fN A B),blk E 111 (Zi ((fM s.q.fQ 0).ix:Int) ((fM s.q.fQ 0).key)),blk n 32 (Zp x),blk wb 83 (tv c.win c.fN c.fO c.ic s),(tD s c.win),jX (QS.fQ j=QS.fQ s.q) (gD [(wv s c.fN),(QS.SR g h c.fN j)]),(wC c.fO c.fN s)],fun _ _=>True),(fun(g,h,j,d,f,b,l)=>[(fZ.R c.fO c.fN s.ub s.u),(fZ.R c.fO c.fN A B),blk E 111 (Zi ((fM s.q.fQ 0).ix:Int) ((fM s.q.fQ 0).key)),blk n 32 (Zp x),blk wb 83 (tv c.win c.fN c.fO c.ic s),(tD s c.win),jX (qy c.fN s.q l b x.t) (gD [(wv s c.fN),(QS.SR g h c.fN l),fV gO (.slice d b.length f) 3 1 b]),(wC c.fO c.fN s)],fun _ _=>True)] (0,0,s.q,none,0,[],s.q) (fun(g,h,j,d,f,b,l)=>(51,Zc) :: (50,(Za b.length)) :: (49,(.slice d b.length f)) :: (48,(Za x.t)) :: (47,(xL n)) :: (46,(Zb g)) :: (45,(Zb s.sb)) :: (44,(Z4 wb)) :: (43,(Zb wb)) :: (42,(Zb wb)) :: _) rfl P (fun _ _=>trivial) ?_ (fun(g,h,j,d,f,b,l)=>rfl) rfl ?_
       . skip
         refine gp (fun(g,h,j,d,f,b,l) _=>iy (v:=(Zb wb)) rfl) ?_
         refine gp (fun(g,h,j,d,f,b,l) _=>jU rfl) ?_
         refine gp (fun(g,h,j,d,f,b,l) _=>jw (o' := 6) rfl FG rfl JQ rfl) ?_
         refine lY rfl rfl rfl rfl (fun(g,h,j,d,f,b,l) wq hM hF=>qv rfl rfl (gT rfl Tryz.underlying80 rfl (yo hM (i:=4) rfl rfl))) (jF rfl rfl rfl rfl (fun(g,h,j,d,f,b,l) wq hM hF=>kn rfl rfl (i6 rfl Yr) (UT s.sb s.hb c.fN s.q wq (yd hM (i:=6) rfl)) (fun _ _ hz=>by obtain⟨af,ag,ah,rfl,hF1,ht1⟩:=hz;exact⟨(af,ag,ah,d,f,b,l),⟨(yv 6 hM (ht1.ot hF1)),trivial⟩,rfl,fS rfl (fS rfl (fS rfl (fS rfl (fS trivial (fS rfl (fS rfl (fS trivial (fS trivial (fS rfl (kG))))))))))⟩)) (gp (fun(g,h,j,d,f,b,l) _=>jw (o' := 3) rfl pg rfl ti2 rfl) ?_))
         refine nu rfl rfl rfl rfl rfl (fun(g,h,j,d,f,b,l) wq hM hF=>qv rfl rfl (gT rfl s8 rfl (yo hM (i:=3) rfl rfl))) (fun(g,h,j,d,f,b,l) wq hM hF=>qv rfl rfl (gT rfl s8 rfl (yo hM (i:=3) rfl rfl))) (jF rfl rfl rfl rfl (fun(g,h,j,d,f,b,l) wq hM hF=>kn rfl rfl (i6 rfl Pk) (Va s.sb s.hb c.fN s.q g h j wq (yd hM (i:=6) rfl) x.t o_) (fun _ _ hz=>by obtain⟨ai,aj,ak,am,rfl,hF1,ht1⟩:=hz;exact⟨(g,h,j,ai,aj,ak,am),⟨(yv 6 hM (ht1.ot hF1)),trivial⟩,rfl,fS rfl (fS rfl (fS rfl (fS rfl (fS rfl (fS rfl (fS rfl (fS trivial (fS trivial (fS rfl (kG))))))))))⟩)) (gp (fun(g,h,j,d,f,b,l) _=>IK (a:=d) (m:=b.length) (c:=f) rfl yh) ?_))
         refine gp (fun(g,h,j,d,f,b,l) _=>iy (v:=Zc) rfl) ?_
         exact nT
       rintro⟨g,h,j,d,f,b,l⟩ aJ an -
       have Q:=yi [6,0,1,2,3,4,5,7] an
       have H:=nG Q
       have ao:=kf Q
       have I:=mq ao
       have hdl:b.length<=c.fN:=H.len
       have hsch2:Ev B s.q:=fun e=>(hW.A9 e).trans ⟨fun⟨y,h1,h2⟩=>⟨y,(G.1 y).2 h1,h2⟩,fun⟨y,h1,h2⟩=>⟨y,(G.1 y).1 h1,h2⟩⟩
       have hu39:=(j5 I (i:=4) rfl:fZ.ok c.fO c.fN B)
       have ap:=yi [7,8,3,0,9,4,2,6] I
       refine kB tt none I 2 ?_
       refine lp (α:=Nat×fZ) (fun(k,u2)=>[(3,(Zb n)),(8,(Zb A)),(49,(.slice d b.length f)),(50,(Za b.length)),(51,(Za k))]) (fun(k,u2) w1=>St [(w,(WW.R c wb s).gR)] [blk wb 83 (tv c.win c.fN c.fO c.ic s),(tD s c.win),(fZ.R c.fO c.fN s.ub s.u),(wv s c.fN),(wC c.fO c.fN s),(fZ.R c.fO c.fN A u2),fV gO (.slice d b.length f) 3 1 b,blk n 32 (Zp x)] w1/\o6 B u2 (b.take k)/\k<=b.length) (fun(k,u2)=>b.length-k) (0,B) ⟨rfl,rfl,rfl,rfl,gG (by first|rfl|omega),trivial⟩ (⟨ap,o6.start _,o_⟩) ?_
       rintro⟨k,u2⟩ aK S ⟨hst3,hR,hk3⟩
       refine gf hst3 2 ?_
       by_cases aL:((k:Int):Int)<((b.length:Int):Int)
       . have hkl:k<b.length:=by omega
         refine fP hst3 11 ?_
         refine ji (cf:=gO) (k:=k) (i:=(k:Int)) rfl rfl rfl yh gn (ye hst3 (i:=6) rfl f_) o_ o_ (gx om) (lI (cf:=gO) rfl rfl yf rfl (ye hst3 (i:=6) rfl f_) (gx om) rfl ?_)
         have hu29:=(j5 hst3 (i:=5) rfl:fZ.ok c.fO c.fN u2)
         have hcan:=o6.can hR hsch2 hu29 H (gx hkl)
         refine fP hst3 6 ?_
         refine cl Pw (Ll c.fO c.fN A u2 S (yd hst3 (i:=5) rfl) (fM b k) hcan) ?_
         rintro _ aM ⟨aq,rfl,U,ht⟩
         have V:=yv 5 hst3 ht
         refine fW V 7 ?_
         refine tN (?_)
         exact again ((k+1),aq) ⟨rfl,rfl,rfl,rfl,gG (by first|rfl|omega),trivial⟩ (⟨V,by rw[xP,gx hkl];exact hR.next U.1 U.2,o_⟩) (by show (b.length-(k+1):Nat)<b.length-k;omega)
       . refine fP hst3 13 ?_
         refine oZ (cs:=(Zp x)) rfl rfl pg rfl oS rfl (kO hst3 (i:=7) (o:=0) (vs:=(Zp x)) rfl rfl) (cl Jj (G8 c.fO c.fN A u2 S (yd hst3 (i:=5) rfl) x) ?_)
         rintro _ aN ⟨rfl,ht⟩
         have D:=yv 5 hst3 ht
         refine fW D 4 ?_
         refine gq (v:=(Za (fZ.gF u2 c.fO c.fN x.u x.v))) E4 rfl ?_
         have hu49:=(j5 D (i:=5) rfl:fZ.ok c.fO c.fN u2)
         have htA4:=IS (yd D (i:=5) rfl)
         have hke:k=b.length:=by omega
         rw[hke,Fy]at hR
         have hfin:=hR.fin hsch2 hu39 H
         exact⟨fZ.gF u2 c.fO c.fN x.u x.v,rfl,(fun h7=>Room.of hu49 htA4 h7 fun y hy=>(hfin y).2 ⟨(G.1 y).2 hy.1,hy.2⟩),yw (yx (p:=s.ok c) (yc [_,_,_,_,_] _ D) hW) zh⟩
end
section
open Go Go.Sx
theorem Eh{c:WC}{wb:Nat}{s:WW}{w:World}(h:Own (WW.R c wb s) w):s.ok c/\s.u.ok c.fO c.fN/\s.u.t.A.ok :=
 ⟨h.fact,(j5 (Own.of h.un) (i:=2) rfl:fZ.ok c.fO c.fN s.u),IS (yd (Own.of h.un) (i:=2) rfl)⟩
theorem Vc(cb:Nat)(win now:Int)(w:World)(hO:Own (Zt cb win now) w)(h1:1<=win)(hwin:ir .i64 win)(t:Int)(htt:ir .i64 t)(h2:now<=t)(h3 : -9223372036854775808<=t+win/\t+win<=9223372036854775807) :
 CR ya 21 (Zn cb t) w (fun r w' => r = .int .i64 0/\gm (Zt cb win now) w w' (Zt cb win now)):=by
 have h:=Ma cb win now w hO h1 hwin t htt
 rw[NN h2 h3]at h
 exact h
theorem Wl(c:WC)(wb:Nat)(s:WW)(w:World)(hO:Own (WW.R c wb s) w)(x:Lv)(hxo:x.ok)(hxt:s.now<=x.t)(hxt2:x.t<=1000000)(ha:s.added<1000000) :
 CR ya 12 (Cd wb x) w (fun r w' => ∃ (e:Int) (s2:WW),r = .int .i64 e/\WW.Step s s2 x/\gm (WW.R c wb s) w w' (WW.R c wb s2)):=by
 refine en Tryz.func12 Tryz.ntmps12 ?_
 have hst0:=Own.of hO.un
 have hW:s.ok c:=hO.fact
 have hw1:=hW.w1
 have hw2:=hW.wi
 have hw3:=hW.n0
 have hw4:=hW.n1
 have huok:fZ.ok c.fO c.fN s.u:=(j5 hst0 (i:=2) rfl)
 have hwen:=hW.en
 have hwe1:=hW.e1
 have hwv2:=hW.v2
 have hwvn:=hW.vn
 have hwa0:=hW.a0
 have hwa1:=hW.a1
 have hwla:=hW.la
 have hwl0:=huok.uh
 refine gf hst0 2 ?_
 refine bx (v:=(tA x)) (cs:=(Zp x)) rfl rfl rfl hst0 ?_
 intro L z M N k
 have A:=yi [1,2,3,4,5,0] k
 have l:=yx (p:=s.ok c) (yc [_,_,_,_,_] _ A) hW
 refine fP k 7 ?_
 refine cl ED (C9 c wb s z (yd l (i:=0) rfl)) ?_
 rintro _ O ⟨rfl,ht⟩
 have B:=yv 0 l ht
 have d:=(kf B).unpack
 refine fP d 13 ?_
 by_cases P:(x.u:Int)=(x.v:Int)
 . refine fW d 11 ?_
   refine gq (v:=(.int .i64 9)) Tryz.results12 rfl ?_
   have C:=yx (p:=s.ok c) (yc [_,_,_,_,_] _ d) hW
   exact⟨9,s,rfl,WW.Step.same s x,yq C⟩
 . refine gQ d 8 ?_
   refine jM d 6 ?_
   intro wq hM
   refine kn rfl rfl (i6 rfl OU) (Vc s.cb c.win s.now wq (yd hM (i:=1) rfl) hw1 (kL o_) x.t hxo.t hxt o_) ?_
   rintro _ _ ⟨rfl,ht1⟩
   refine jN (yv 1 hM ht1) (fun D m=>?_)
   have n:=yi [1,0,2,3,4,5] m
   refine nE tt none n 17 ?_
   refine cmp rfl rfl rfl (zO o_) ?_
   have E:=m
   have o:=yx (p:=s.ok c) (yc [_,_,_,_,_] _ E) hW
   refine fP n 10 ?_
   refine cl YK (Vq c wb s D (yd o (i:=0) rfl) x hxo) ?_
   rintro _ G ⟨f,rfl,H,ht⟩
   have a:=yv 0 o ht
   refine fP a 6 ?_
   by_cases I:(f:Int)=(0:Int)
   . have hre:f=0:=by have h7:=@I;omega
     refine fP a 11 ?_
     refine cl ZM (UK c wb s G (yd a (i:=0) rfl) x.t hxt hxt2) ?_
     rintro _ J ⟨g,rfl,b,ht⟩
     have h:=yv 0 a ht
     have hww2:=Eh (yd h (i:=0) rfl)
     have hc2:=H hre g.u hww2.2.1 hww2.2.2 b.2.2.1
     have hxs2:x.t=g.now:=b.1.symm
     have has2:g.added<1000000:=by rw[b.2.1];exact ha
     refine fP h 6 ?_
     refine cl YS (Sw c wb g J (yd h (i:=0) rfl) x hxo hxs2 hc2 has2) ?_
     rintro _ Q ⟨K,rfl,j,ht⟩
     have q:=yv 0 h ht
     refine fW q 8 ?_
     refine gq (v:=Zc) Tryz.results12 rfl ?_
     exact⟨0,K,rfl,⟨.inr (j.1.trans b.1),by rw[j.2.1,b.2.1];exact wj _,fun y hy=>(j.2.2 y hy).imp_left fun h7=>((b.2.2.1 y).1 h7).1⟩,yq q⟩
   . refine fW a 12 ?_
     refine gq (v:=(Za f)) Tryz.results12 rfl ?_
     exact⟨f,s,rfl,WW.Step.same s x,yq a⟩
theorem TK(fO fN ub:Nat)(s:fZ)(w:World)(hO:Own (fZ.R fO fN ub s) w) :
 CR ya 26 (Zl ub) w (fun r w' => ∃ (v:Value) (ys:List Lv),v=r/\s.nk ys/\gm (fZ.R fO fN ub s) w w' (gD [(fZ.R fO fN ub s),fV Lv.cells v 34 7 ys])) :=
 CR.mono (VB fO fN ub s w hO) fun r w' ⟨v,ys,h1,h2,ht⟩=>⟨v,ys,h1.symm,h2,ht⟩
theorem MW(c:WC)(wb:Nat)(s:WW)(w:World)(hO:Own (WW.R c wb s) w) :
 CR ya 14 (Zl wb) w (fun r w' => ∃ (v:Value) (ys:List Lv),v=r/\s.u.nk ys/\gm (WW.R c wb s) w w' (gD [(WW.R c wb s),fV Lv.cells v 34 7 ys])):=by
 refine en Tryz.func14 Tryz.ntmps14 ?_
 have hst0:=Own.of hO.un
 have hW:s.ok c:=hO.fact
 have hw1:=hW.w1
 have hw2:=hW.wi
 have hw3:=hW.n0
 have hw4:=hW.n1
 have huok:fZ.ok c.fO c.fN s.u:=(j5 hst0 (i:=2) rfl)
 have hwen:=hW.en
 have hwe1:=hW.e1
 have hwv2:=hW.v2
 have hwvn:=hW.vn
 have hwa0:=hW.a0
 have hwa1:=hW.a1
 have hwla:=hW.la
 have hwl0:=huok.uh
 have b:=yx (p:=s.ok c) (yc [_,_,_,_,_] _ hst0) hW
 refine gf hst0 9 ?_
 refine cl ED (C9 c wb s w (yd b (i:=0) rfl)) ?_
 rintro _ f ⟨rfl,ht⟩
 have g:=yv 0 b ht
 have a:=(kf g).unpack
 refine fP a 12 ?_
 refine cl YZ (TK c.fO c.fN s.ub s.u f (yd a (i:=2) rfl)) ?_
 rintro _ n ⟨d,h,rfl,j,ht⟩
 have k:=yi [2,0,1,3,4] a
 have e:=mq (yv 0 k ht)
 refine fW e 4 ?_
 refine gq (v:=d) Tryz.results14 rfl ?_
 have l:=yi [2,3,0,4,5,1] e
 have m:=yx (p:=s.ok c) (yc [_,_,_,_,_] _ l) hW
 exact⟨d,h,rfl,j,yq (yc [_,_] _ m)⟩
end
section
open Go Go.Sx
abbrev Ye:List (List Nat):=[[],[],[],[1,2],[1,2,3],[1,2,3,4],[1,2,3,4,5],[1,2,3,4,5,6],[],[],[8,9],[8,9,10],[8,9,10,11],[8,9,10,11,12],[8,9,10,11,12,13],[],[],[15,16],[15,16,17],[15,16,17,18],[15,16,17,18,19],[],[21],[],[],[23,24],[23,24,25],[23,24,25,26],[23,24,25,26,27],[23,24,25,26,27,28],[21,22,23,24,25,26,27,28,29],[1,2,3,4,5,6,7,8,9,10,11,12,13,14,15,16,17,18,19,20,21,22,23,24,25,26,27,28,29,30],[0,1,2,3,4,5,6,7,8,9,10,11,12,13,14,15,16,17,18,19,20,21,22,23,24,25,26,27,28,29,30,31]]
theorem UG(lv:Value)(xs:List Mv)(w:World)(hl:jB 4 Mv.cells (fun _=>True) w lv xs)(hxs:∀ x∈xs,x.ok) :
 CR ya 6 #[lv] w (fun r w' => ∃ (v:Value) (ys:List Lv) (now:Int),r = .tuple #[xU,.int .i64 now,v,.bool true]/\(JS oD now ys/\now<=150)/\gm (gD []) w w' (Fc v ys)):=by
 have hlen:=hl.len
 refine en Tryz.func6 Tryz.ntmps6 ?_
 have hst0:=jI w
 refine gf hst0 2 ?_
 refine al (cs:=xF) rfl nQ rfl hst0 (fun n Z aa ab z=>fP z 7 ?_)
 refine kj (pvs:=[(0,(.int .i64 20)),(1,(.int .i64 30)),(2,(.int .i64 10))]) (v:=.agg #[(.int .i64 20),(.int .i64 30),(.int .i64 10),Zc]) rfl rfl (jY [(0,[(.int .i64 20)]),(1,[(.int .i64 30)]),(2,[(.int .i64 10)])] nQ aau rfl ⟨rfl,rfl,rfl,rfl,rfl,rfl,trivial⟩ rfl) (al (cs:=xF) rfl nQ rfl z (fun p ac ad ae G=>kT G 6 fun H I=>?_))
 refine cl ZO (VC cM H d_ d_ d_ d_ d_ d_ d_) ?_
 rintro _ ag ⟨f,J,rfl,y,ht⟩
 have A:=(o4 I ht)
 refine gQ A 24 ?_
 refine lp (α:=Nat×WW) (fun(k,s)=>[(0,lv),(2,(Zb n)),(6,(Zb p)),(7,(Zb f)),(9,(Za k))]) (fun(k,s) w1=>St [(w,[])] (yH cM f s p n) w1/\ux cM s k/\k<=xs.length/\k<=50) (fun(k,s)=>50-k) (0,J) ⟨rfl,rfl,rfl,rfl,gG (by first|rfl|omega),trivial⟩ (⟨A,ux.start y.1 y.2.1 y.2.2,o_,o_⟩) ?_
 rintro⟨k,s⟩ ah ai ⟨hst3,hS,hk1,hk2⟩
 have hok7:=(Eh (yd hst3 (i:=0) rfl)).1
 have hn0:=hok7.n0
 have hs1:=hS.now
 have hs2:=hS.added
 refine gf hst3 5 ?_
 refine vM (v:=lv) rfl rfl AT hl ?_
 by_cases aj:((k:Int):Int)<((xs.length:Int):Int)
 . refine fP hst3 3 ?_
   by_cases ak:((k:Int):Int)<(50:Int)
   . refine gQ hst3 9 ?_
     obtain⟨el,hel⟩:=n9 (show k<xs.length by omega)
     have hmo:=hxs _ (ze hel)
     have hmu:=hmo.u
     have hmv:=hmo.v
     have hmwt:=hmo.wt
     have hmaf:=hmo.af
     have hrok:=hmo.Ac hn0 o_
     refine nX (Γ:=Int×WW) mixed Ye [22,32] k_ [fun _=>(Zb f),fun _=>lv,fun _=>(Za k),fun _=>(iY 4 lv k 0),fun _=>(iY 4 lv k 0),fun _=>(Zu el.u),fun _=>(Zu (el.u%12)),fun _=>(Zd (el.u%12)),fun _=>lv,fun _=>(Za k),fun _=>(iY 4 lv k 0),fun _=>(iY 4 lv k 1),fun _=>(Zu el.v),fun _=>(Zu (el.v%12)),fun _=>(Zd (el.v%12)),fun _=>lv,fun _=>(Za k),fun _=>(iY 4 lv k 0),fun _=>(iY 4 lv k 2),fun _=>(.int .i8 el.wt),fun _=>(Za el.wt),fun _=>(Zb f),fun _=>(Za s.now),fun _=>lv,fun _=>(Za k),fun _=>(iY 4 lv k 0),fun _=>(iY 4 lv k 3),fun _=>(Zu el.af),fun _=>(Zu (el.af%4)),fun _=>(Za (el.af%4)),fun _=>(Za (s.now+(el.af%4))),fun _=>(Qd (el.u%12) (el.v%12) el.wt (s.now+(el.af%4))),fun(d,c)=>(Za d)] [(fun(d,c)=>(yH cM f s p n),fun _ _=>True),(fun(d,c)=>(yH cM f s p n),fun _ _=>True),(fun(d,c)=>[jX (WW.Step s c (el.Ac s.now)) (WW.R cM f c),blk p 24 Zo,blk n 24 xF],fun _ _=>True)] (0,s) (fun(d,c)=>(61,(Za d)) :: (60,(Qd (el.u%12) (el.v%12) el.wt (s.now+(el.af%4)))) :: (59,(Za (s.now+(el.af%4)))) :: (58,(Za (el.af%4))) :: (57,(Zu (el.af%4))) :: (56,(Zu el.af)) :: (55,(iY 4 lv k 3)) :: (54,(iY 4 lv k 0)) :: (53,(Za k)) :: (52,lv) :: (51,(Za s.now)) :: (50,(Zb f)) :: (49,(Za el.wt)) :: (48,(.int .i8 el.wt)) :: (47,(iY 4 lv k 2)) :: (46,(iY 4 lv k 0)) :: (45,(Za k)) :: (44,lv) :: (43,(Zd (el.v%12))) :: (42,(Zu (el.v%12))) :: (41,(Zu el.v)) :: (40,(iY 4 lv k 1)) :: (39,(iY 4 lv k 0)) :: (38,(Za k)) :: (37,lv) :: (36,(Zd (el.u%12))) :: (35,(Zu (el.u%12))) :: (34,(Zu el.u)) :: (33,(iY 4 lv k 0)) :: (32,(iY 4 lv k 0)) :: (31,(Za k)) :: (30,lv) :: (29,(Zb f)) :: _) rfl hst3 (fun _ _=>trivial) ?_ (fun(d,c)=>rfl) rfl ?_
     . skip
       refine gp (fun(d,c) _=>iy (v:=(Zb f)) rfl) ?_
       refine gp (fun(d,c) _=>iy (v:=lv) rfl) ?_
       refine gp (fun(d,c) _=>iy (v:=(Za k)) rfl) ?_
       refine gp (fun(d,c) _=>kA (k:=k) (i:=(k:Int)) rfl rfl AT B2 hl o_ o_ hel) ?_
       refine gp (fun(d,c) _=>pO (off:=0) (off' := 0) rfl Ch rfl FB rfl hl hel) ?_
       refine nu rfl rfl rfl rfl rfl (fun(d,c) wq hM hF=>qv rfl rfl (ny (u:=(Zu el.u)) rfl qD rfl (l6 hM s_ d_ hl) hel rfl)) (fun(d,c) wq hM hF=>qv rfl rfl (ny (u:=(Zu el.u)) rfl qD rfl (l6 hM s_ d_ hl) hel rfl)) (gp (fun(d,c) _=>BW (a:=el.u) (b:=12) (e:=el.u%12) rfl rfl d_ (AJ hmu.1)) ?_)
       refine gp (fun(d,c) _=>Am (a:=el.u%12) (e:=el.u%12) rfl qD yg (Ao o_)) ?_
       refine gp (fun(d,c) _=>iy (v:=lv) rfl) ?_
       refine gp (fun(d,c) _=>iy (v:=(Za k)) rfl) ?_
       refine gp (fun(d,c) _=>kA (k:=k) (i:=(k:Int)) rfl rfl AT B2 hl o_ o_ hel) ?_
       refine gp (fun(d,c) _=>pO (off:=0) (off' := 1) rfl Ch rfl FB rfl hl hel) ?_
       refine nu rfl rfl rfl rfl rfl (fun(d,c) wq hM hF=>qv rfl rfl (ny (u:=(Zu el.v)) rfl qD rfl (l6 hM s_ d_ hl) hel rfl)) (fun(d,c) wq hM hF=>qv rfl rfl (ny (u:=(Zu el.v)) rfl qD rfl (l6 hM s_ d_ hl) hel rfl)) (gp (fun(d,c) _=>BW (a:=el.v) (b:=12) (e:=el.v%12) rfl rfl d_ (AJ hmv.1)) ?_)
       refine gp (fun(d,c) _=>Am (a:=el.v%12) (e:=el.v%12) rfl qD yg (Ao o_)) ?_
       refine gp (fun(d,c) _=>iy (v:=lv) rfl) ?_
       refine gp (fun(d,c) _=>iy (v:=(Za k)) rfl) ?_
       refine gp (fun(d,c) _=>kA (k:=k) (i:=(k:Int)) rfl rfl AT B2 hl o_ o_ hel) ?_
       refine gp (fun(d,c) _=>pO (off:=0) (off' := 2) rfl Ch rfl PI rfl hl hel) ?_
       refine nu rfl rfl rfl rfl rfl (fun(d,c) wq hM hF=>qv rfl rfl (ny (u:=(.int .i8 el.wt)) rfl EX rfl (l6 hM s_ d_ hl) hel rfl)) (fun(d,c) wq hM hF=>qv rfl rfl (ny (u:=(.int .i8 el.wt)) rfl EX rfl (l6 hM s_ d_ hl) hel rfl)) (gp (fun(d,c) _=>Am (a:=el.wt) (e:=el.wt) rfl EX s8 (jb o_)) ?_)
       refine gp (fun(d,c) _=>iy (v:=(Zb f)) rfl) ?_
       refine jF rfl rfl rfl rfl (fun(d,c) wq hM hF=>kn rfl rfl (i6 rfl Jh) (Io cM f s wq (yd hM (i:=0) rfl)) (fun _ _ hz=>by obtain⟨rfl,ht1⟩:=hz;exact⟨(d,c),⟨(yv 0 hM ht1),trivial⟩,rfl,jA.refl _ _ _⟩)) (gp (fun(d,c) _=>iy (v:=lv) rfl) ?_)
       refine gp (fun(d,c) _=>iy (v:=(Za k)) rfl) ?_
       refine gp (fun(d,c) _=>kA (k:=k) (i:=(k:Int)) rfl rfl AT B2 hl o_ o_ hel) ?_
       refine gp (fun(d,c) _=>pO (off:=0) (off' := 3) rfl Ch rfl FB rfl hl hel) ?_
       refine nu rfl rfl rfl rfl rfl (fun(d,c) wq hM hF=>qv rfl rfl (ny (u:=(Zu el.af)) rfl qD rfl (l6 hM s_ d_ hl) hel rfl)) (fun(d,c) wq hM hF=>qv rfl rfl (ny (u:=(Zu el.af)) rfl qD rfl (l6 hM s_ d_ hl) hel rfl)) (gp (fun(d,c) _=>BW (a:=el.af) (b:=4) (e:=el.af%4) rfl rfl d_ (AJ hmaf.1)) ?_)
       refine gp (fun(d,c) _=>Am (a:=el.af%4) (e:=el.af%4) rfl qD s8 (jb o_)) ?_
       refine gp (fun(d,c) _=>kR rfl rfl rfl (jb o_)) ?_
       refine gp (fun(d,c) _=>xg (pvs:=[(0,(Zd (el.u%12))),(1,(Zd (el.v%12))),(2,(Za el.wt)),(3,(Za (s.now+(el.af%4))))]) (v:=.agg #[(Zd (el.u%12)),(Zd (el.v%12)),(Za el.wt),(Za (s.now+(el.af%4)))]) rfl (jY [(0,(Zz (el.u%12))),(1,(Zz (el.v%12))),(2,(Ze el.wt)),(3,(Ze (s.now+(el.af%4))))] oS aar rfl ⟨rfl,rfl,rfl,rfl,rfl,rfl,rfl,rfl,trivial⟩ rfl)) ?_
       refine jF rfl rfl rfl rfl (fun(d,c) wq hM hF=>kn rfl rfl (i6 rfl Y9) (Wl cM f s wq (yd hM (i:=0) rfl) (el.Ac s.now) hrok (by show s.now<=s.now+el.af%4;omega) (by show s.now+el.af%4<=1000000;omega) o_) (fun _ _ hz=>by obtain⟨K,L,rfl,hF1,ht1⟩:=hz;exact⟨(K,L),⟨(yv 0 hM (ht1.ot hF1)),trivial⟩,rfl,fS rfl (fS rfl (fS rfl (fS rfl (fS rfl (fS rfl (fS rfl (fS rfl (fS rfl (fS rfl (fS rfl (fS rfl (fS rfl (fS rfl (fS rfl (fS rfl (fS rfl (fS rfl (fS rfl (fS rfl (fS rfl (fS rfl (fS rfl (fS rfl (fS rfl (fS rfl (fS rfl (fS rfl (fS rfl (fS rfl (fS rfl (fS rfl (fS trivial (kG)))))))))))))))))))))))))))))))))⟩)) ?_
       exact nT
     rintro⟨d,c⟩ am B -
     have M:=nG B
     have C:=kf B
     refine iP tt none C 7 ?_
     refine tN (?_)
     exact again ((k+1),c) ⟨rfl,rfl,rfl,rfl,gG (by first|rfl|omega),trivial⟩ (⟨C,hS.next M (by show s.now+el.af%4<=s.now+3;omega) (by show 0<=el.u%12/\el.u%12<12;omega) (by show 0<=el.v%12/\el.v%12<12;omega),o_,o_⟩) (by show (50-(k+1):Nat)<50-k;omega)
   . refine gQ hst3 11 ?_
     refine nX (Γ:=Value×List Lv) mixed [[],[],[1],[],[1,2,3],[0,1,2,3,4],[0,1,2,3,4,5],[0,1,2,3,4,5,6],[0,1,2,3,4,5,6,7]] [2,4,5] d_ [fun _=>xU,fun _=>(Zb f),fun _=>(Za s.now),fun _=>(Zb f),fun(g,l)=>g,fun _=>undef,fun _=>(Za s.now),fun(g,l)=>g,fun _=>Zf] [(fun(g,l)=>(yH cM f s p n),fun _ _=>True),(fun(g,l)=>(yH cM f s p n),fun _ _=>True),(fun(g,l)=>(PU (fZ.nk s.u l) cM f s g l p n),fun _ _=>True),(fun(g,l)=>(FO (fZ.nk s.u l) cM f s g l p n),fun _ _=>True)] (Zk,[]) (fun(g,l)=>(5,Zf) :: (4,g) :: (3,(Za s.now)) :: (66,g) :: (65,(Zb f)) :: (64,(Za s.now)) :: (63,(Zb f)) :: (62,xU) :: _) rfl hst3 (fun _ _=>trivial) ?_ (fun(g,l)=>rfl) rfl ?_
     . skip
       refine vw rfl rfl rfl rfl rfl rfl (fun(g,l) wq hM hF=>qv rfl rfl (pR (cs:=Zo) rfl tG rfl nQ rfl (kO hM (i:=1) (o:=0) (vs:=Zo) rfl rfl))) (fun(g,l) wq hM hF=>qv rfl rfl (pR (cs:=Zo) rfl tG rfl nQ rfl (kO hM (i:=1) (o:=0) (vs:=Zo) rfl rfl))) (fun(g,l) wq hM hF=>qv rfl rfl (pR (cs:=Zo) rfl tG rfl nQ rfl (kO hM (i:=1) (o:=0) (vs:=Zo) rfl rfl))) (gp (fun(g,l) _=>iy (v:=(Zb f)) rfl) ?_)
       refine jF rfl rfl rfl rfl (fun(g,l) wq hM hF=>kn rfl rfl (i6 rfl Jh) (Io cM f s wq (yd hM (i:=0) rfl)) (fun _ _ hz=>by obtain⟨rfl,ht1⟩:=hz;exact⟨(g,l),⟨(yv 0 hM ht1),trivial⟩,rfl,jA.refl _ _ _⟩)) (gp (fun(g,l) _=>iy (v:=(Zb f)) rfl) ?_)
       refine jF rfl rfl rfl rfl (fun(g,l) wq hM hF=>kn rfl rfl (i6 rfl O1) (MW cM f s wq (yd hM (i:=0) rfl)) (fun _ _ hz=>by obtain⟨N,O,rfl,hF1,ht1⟩:=hz;exact⟨(N,O),⟨(yv 0 hM (ht1.ot hF1)),trivial⟩,rfl,fS rfl (fS rfl (fS rfl (fS rfl (fS trivial (fS trivial (fS trivial (fS trivial (fS trivial (kG)))))))))⟩)) (jF rfl rfl rfl rfl (fun(g,l) wq hM hF=>mW (L' := (FO (fZ.nk s.u l) cM f s g l p n)) 2 rfl rfl rfl rfl nQ rfl rfl hM rfl rfl rfl rfl (fun _ h=>⟨(g,l),⟨h,trivial⟩,rfl,jA.refl _ _ _⟩)) (gp (fun(g,l) _=>pQ (v:=(Za s.now)) rfl) ?_))
       refine gp (fun(g,l) _=>pQ (v:=g) rfl) ?_
       refine gp (fun(g,l) _=>pQ (v:=Zf) rfl) ?_
       exact nT
     rintro⟨g,l⟩ an D -
     have P:=nG D
     have Q:=kf D
     have q:=mq Q
     refine iP tt none q 2 ?_
     refine O7 (v:=xU) (v' := (Za s.now)) (v'' := g) (v''' := Zf) Tryz.results6 (pY (cs:=Zo) rfl tG rfl nQ rfl (kO q (i:=3) (o:=0) (vs:=Zo) rfl rfl)) (nI rfl) (nI rfl) (nI rfl) ?_
     have hww:=Eh (yd q (i:=0) rfl)
     have hwl:=hS.list hww.1 hww.2.1 hww.2.2 P
     have S:=yi [1,0,2,3] q
     exact⟨g,l,s.now,rfl,⟨hwl,o_⟩,St.eM S⟩
 . refine gQ hst3 14 ?_
   refine nX (Γ:=Value×List Lv) mixed [[],[],[1],[],[1,2,3],[0,1,2,3,4],[0,1,2,3,4,5],[0,1,2,3,4,5,6],[0,1,2,3,4,5,6,7]] [2,4,5] d_ [fun _=>xU,fun _=>(Zb f),fun _=>(Za s.now),fun _=>(Zb f),fun(j,m)=>j,fun _=>undef,fun _=>(Za s.now),fun(j,m)=>j,fun _=>Zf] [(fun(j,m)=>(yH cM f s p n),fun _ _=>True),(fun(j,m)=>(yH cM f s p n),fun _ _=>True),(fun(j,m)=>(PU (fZ.nk s.u m) cM f s j m p n),fun _ _=>True),(fun(j,m)=>(FO (fZ.nk s.u m) cM f s j m p n),fun _ _=>True)] (Zk,[]) (fun(j,m)=>(5,Zf) :: (4,j) :: (3,(Za s.now)) :: (66,j) :: (65,(Zb f)) :: (64,(Za s.now)) :: (63,(Zb f)) :: (62,xU) :: _) rfl hst3 (fun _ _=>trivial) ?_ (fun(j,m)=>rfl) rfl ?_
   . skip
     refine vw rfl rfl rfl rfl rfl rfl (fun(j,m) wq hM hF=>qv rfl rfl (pR (cs:=Zo) rfl tG rfl nQ rfl (kO hM (i:=1) (o:=0) (vs:=Zo) rfl rfl))) (fun(j,m) wq hM hF=>qv rfl rfl (pR (cs:=Zo) rfl tG rfl nQ rfl (kO hM (i:=1) (o:=0) (vs:=Zo) rfl rfl))) (fun(j,m) wq hM hF=>qv rfl rfl (pR (cs:=Zo) rfl tG rfl nQ rfl (kO hM (i:=1) (o:=0) (vs:=Zo) rfl rfl))) (gp (fun(j,m) _=>iy (v:=(Zb f)) rfl) ?_)
     refine jF rfl rfl rfl rfl (fun(j,m) wq hM hF=>kn rfl rfl (i6 rfl Jh) (Io cM f s wq (yd hM (i:=0) rfl)) (fun _ _ hz=>by obtain⟨rfl,ht1⟩:=hz;exact⟨(j,m),⟨(yv 0 hM ht1),trivial⟩,rfl,jA.refl _ _ _⟩)) (gp (fun(j,m) _=>iy (v:=(Zb f)) rfl) ?_)
     refine jF rfl rfl rfl rfl (fun(j,m) wq hM hF=>kn rfl rfl (i6 rfl O1) (MW cM f s wq (yd hM (i:=0) rfl)) (fun _ _ hz=>by obtain⟨U,V,rfl,hF1,ht1⟩:=hz;exact⟨(U,V),⟨(yv 0 hM (ht1.ot hF1)),trivial⟩,rfl,fS rfl (fS rfl (fS rfl (fS rfl (fS trivial (fS trivial (fS trivial (fS trivial (fS trivial (kG)))))))))⟩)) (jF rfl rfl rfl rfl (fun(j,m) wq hM hF=>mW (L' := (FO (fZ.nk s.u m) cM f s j m p n)) 2 rfl rfl rfl rfl nQ rfl rfl hM rfl rfl rfl rfl (fun _ h=>⟨(j,m),⟨h,trivial⟩,rfl,jA.refl _ _ _⟩)) (gp (fun(j,m) _=>pQ (v:=(Za s.now)) rfl) ?_))
     refine gp (fun(j,m) _=>pQ (v:=j) rfl) ?_
     refine gp (fun(j,m) _=>pQ (v:=Zf) rfl) ?_
     exact nT
   rintro⟨j,m⟩ ao E -
   have W:=nG E
   have X:=kf E
   have t:=mq X
   refine iP tt none t 2 ?_
   refine O7 (v:=xU) (v' := (Za s.now)) (v'' := j) (v''' := Zf) Tryz.results6 (pY (cs:=Zo) rfl tG rfl nQ rfl (kO t (i:=3) (o:=0) (vs:=Zo) rfl rfl)) (nI rfl) (nI rfl) (nI rfl) ?_
   have hww:=Eh (yd t (i:=0) rfl)
   have hwl:=hS.list hww.1 hww.2.1 hww.2.2 W
   have Y:=yi [1,0,2,3] t
   exact⟨j,m,s.now,rfl,⟨hwl,o_⟩,St.eM Y⟩
end
section
open Go Go.Sx

end
section
open Go Go.Sx
theorem SG(lv:Value)(xs:List Mv)(w:World)(hl:jB 4 Mv.cells (fun _=>True) w lv xs)(hxs:∀ x∈xs,x.ok)(wh at9:Int)(hwh:0<=wh/\wh<=255)(hat:0<=at9/\at9<=255) :
 CR ya 4 #[lv,(Zu wh),(Zu at9)] w (fun r w' => r = .bool true/\gB [] w w'):=by
 refine en Tryz.func4 Tryz.ntmps4 ?_
 have hst0:=jI w
 refine gf hst0 8 ?_
 refine cl aap (UG lv xs w hl hxs) ?_
 rintro _ ad ⟨g,d,h,rfl,N,ht⟩
 have p:=(o4 hst0 ht)
 have hWL:=N.1
 have hn0:=hWL.n0
 have hyl:(d.length:Int)<=30:=hWL.len
 refine fP p 5 ?_
 refine al (cs:=xF) rfl nQ rfl p (fun j ae af ag O=>kT O 13 fun q c=>?_)
 refine mM (m:=d.length) 1 rfl rfl yy c rfl ?_
 by_cases ah:((d.length:Int):Int)=(0:Int)
 . refine fP c 9 ?_
   refine cl JA (HL q) ?_
   rintro _ ai ⟨rfl,P⟩
   have s:=jc c P
   refine fW s 6 ?_
   refine gq (v:=Zf) Tryz.results4 rfl ?_
   exact⟨rfl,s.gJ s_⟩
 . obtain⟨i,hi,hir⟩:=YF (n:=d.length) hat.1 o_
   have hnd:=gx hi
   have hoe:=hWL.ok _ (ze hnd)
   have hel:=hWL.el _ (ze hnd)
   have hw20:oD.win=20:=rfl
   have hex:(fM d i).exp<=1000:=by omega
   have hex0:0<=(fM d i).exp:=by omega
   refine fP c 10 ?_
   refine cv (a:=at9) (e:=at9) rfl rfl qD yf (jb o_) (fP c 1 ?_)
   refine mM (m:=d.length) 1 rfl rfl yy c rfl (rem (a:=at9) (b:=(d.length:Int)) (e:=(i:Int)) rfl rfl rfl o_ hir (fP c 7 ?_))
   refine ji (cf:=Lv.cells) (k:=i) (i:=(i:Int)) rfl rfl rfl yy iU (ye c (i:=1) rfl f_) o_ o_ (gx om) (tL (v:=(iY 7 g i 0)) rfl rfl (gQ c 7 ?_))
   refine cut (α:=Int×List Lv) (fun(kd,ys2)=>[(7,(Zb j)),(8,(Za h)),(9,g),(11,(Za i)),(13,(Za kd))]) (fun(kd,ys2) w1=>St [(w,[])] [fV Lv.cells g 34 7 ys2,blk j 24 Zo] w1/\(∀ y∈ys2,y.ok)/\ys2.length<=60/\(kd,(i:Int))∈og oD h ys2) ?_ ?_
   . intro aj l
     refine gf c 3 ?_
     refine rem (a:=wh) (b:=7) (e:=wh%7) rfl rfl rfl d_ (AJ hwh.1) (fP c 5 ?_)
     by_cases ak:(wh%7:Int)=(0:Int)
     . refine fP c 6 ?_
       refine mv (v:=(iY 7 g i 0)) rfl rfl (fP c 2 ?_)
       refine uf (cf:=Lv.cells) (off:=0) rfl rfl (ye c (i:=1) rfl f_) (gx om) (nr (cf:=Lv.cells) (off:=0) (off' := 0) rfl rfl yt rfl gn rfl (ye c (i:=1) rfl f_) (gx om) (nS (f:=(fun x=>{ x with slot:=30 })) (L' := [blk j 24 Zo,fV Lv.cells g 34 7 (fR d i (fun x=>{ x with slot:=30 }))]) 1 rfl rfl rfl rfl gn rfl rfl c rfl f_ om rfl rfl rfl (fun am z=>fW z 2 ?_)))
       refine tN (?_)
       have Q:=yi [1,0] z
       exact(l (1,(fR d i (fun x=>{ x with slot:=30 }))) _ _ ⟨rfl,rfl,rfl,rfl,gG (by first|rfl|omega),trivial⟩ (⟨Q,(wW hWL.ok hnd ⟨kL (by show _/\_;dsimp only;omega),hoe.seq,hoe.u,hoe.v,hoe.wt,hoe.t,hoe.exp⟩),by rw[gI];omega,sp0 hnd⟩))
     . refine fP c 7 ?_
       by_cases an:(wh%7:Int)=(1:Int)
       . refine fP c 6 ?_
         refine mv (v:=(iY 7 g i 0)) rfl rfl (uf (cf:=Lv.cells) (off:=0) rfl rfl (ye c (i:=1) rfl f_) (gx om) (nr (cf:=Lv.cells) (off:=0) (off' := 0) rfl rfl yt rfl gn rfl (ye c (i:=1) rfl f_) (gx om) (nS (f:=(fun x=>{ x with slot := -1 })) (L' := [blk j 24 Zo,fV Lv.cells g 34 7 (fR d i (fun x=>{ x with slot := -1 }))]) 1 rfl rfl rfl rfl gn rfl rfl c rfl f_ om rfl rfl rfl (fun ao A=>fW A 2 ?_))))
         refine tN (?_)
         have R:=yi [1,0] A
         exact(l (1,(fR d i (fun x=>{ x with slot := -1 }))) _ _ ⟨rfl,rfl,rfl,rfl,gG (by first|rfl|omega),trivial⟩ (⟨R,(wW hWL.ok hnd ⟨kL (by show _/\_;dsimp only;omega),hoe.seq,hoe.u,hoe.v,hoe.wt,hoe.t,hoe.exp⟩),by rw[gI];omega,sp1 hnd⟩))
       . refine fP c 7 ?_
         by_cases ap:(wh%7:Int)=(2:Int)
         . refine fP c 6 ?_
           refine mv (v:=(iY 7 g i 0)) rfl rfl (mv (v:=(iY 7 g i 0)) rfl rfl (uf (cf:=Lv.cells) (off:=0) rfl rfl (ye c (i:=1) rfl f_) (gx om) (nr (cf:=Lv.cells) (off:=0) (off' := 2) rfl rfl yt rfl oS rfl (ye c (i:=1) rfl f_) (gx om) (nr (cf:=Lv.cells) (off:=2) (off' := 2) rfl rfl pg rfl iQ rfl (ye c (i:=1) rfl f_) (gx om) (lI (cf:=Lv.cells) rfl rfl yg rfl (ye c (i:=1) rfl f_) (gx om) rfl (uf (cf:=Lv.cells) (off:=0) rfl rfl (ye c (i:=1) rfl f_) (gx om) (nr (cf:=Lv.cells) (off:=0) (off' := 2) rfl rfl yt rfl oS rfl (ye c (i:=1) rfl f_) (gx om) ?_)))))))
           refine nr (cf:=Lv.cells) (off:=2) (off' := 3) rfl rfl pg rfl iQ rfl (ye c (i:=1) rfl f_) (gx om) (nS (f:=(fun x=>{ x with v:=(fM d i).u })) (L' := [blk j 24 Zo,fV Lv.cells g 34 7 (fR d i (fun x=>{ x with v:=(fM d i).u }))]) 1 rfl rfl rfl rfl iQ rfl rfl c rfl f_ om rfl rfl rfl (fun aq B=>fW B 2 ?_))
           refine tN (?_)
           have S:=yi [1,0] B
           exact(l (1,(fR d i (fun x=>{ x with v:=(fM d i).u }))) _ _ ⟨rfl,rfl,rfl,rfl,gG (by first|rfl|omega),trivial⟩ (⟨S,(wW hWL.ok hnd ⟨hoe.slot,hoe.seq,hoe.u,hoe.u,hoe.wt,hoe.t,hoe.exp⟩),by rw[gI];omega,sp2 hnd⟩))
         . refine fP c 7 ?_
           by_cases ar:(wh%7:Int)=(3:Int)
           . refine fP c 9 ?_
             by_cases au:((i:Int):Int)=(0:Int)
             . refine fP c 6 ?_
               refine cl JA (HL q) ?_
               rintro _ av ⟨rfl,U⟩
               have C:=jc c U
               refine fW C 7 ?_
               refine gq (v:=Zf) Tryz.results4 rfl ?_
               exact⟨rfl,C.gJ s_⟩
             . refine fP c 7 ?_
               refine mv (v:=(iY 7 g i 0)) rfl rfl (fP c 3 ?_)
               refine ji (cf:=Lv.cells) (k:=(i-1)) (i:=(i:Int)-1) rfl rfl rfl yy iU (ye c (i:=1) rfl f_) o_ o_ (gx om) (nr (cf:=Lv.cells) (off:=0) (off' := 1) rfl rfl yt rfl iQ rfl (ye c (i:=1) rfl f_) (gx om) (lI (cf:=Lv.cells) rfl rfl yg rfl (ye c (i:=1) rfl f_) (gx om) rfl (uf (cf:=Lv.cells) (off:=0) rfl rfl (ye c (i:=1) rfl f_) (gx om) (nr (cf:=Lv.cells) (off:=0) (off' := 1) rfl rfl yt rfl iQ rfl (ye c (i:=1) rfl f_) (gx om) (nS (f:=(fun x=>{ x with seq:=(fM d (i-1)).seq })) (L' := [blk j 24 Zo,fV Lv.cells g 34 7 (fR d i (fun x=>{ x with seq:=(fM d (i-1)).seq }))]) 1 rfl rfl rfl rfl iQ rfl rfl c rfl f_ om rfl rfl rfl (fun aw D=>fW D 2 ?_))))))
               refine tN (?_)
               have V:=yi [1,0] D
               exact(l (1,(fR d i (fun x=>{ x with seq:=(fM d (i-1)).seq }))) _ _ ⟨rfl,rfl,rfl,rfl,gG (by first|rfl|omega),trivial⟩ (⟨V,(wW hWL.ok hnd ⟨hoe.slot,(hWL.ok _ (ze (gx (show i-1<d.length by omega)))).seq,hoe.u,hoe.v,hoe.wt,hoe.t,hoe.exp⟩),by rw[gI];omega,(by have h9:=sp3 (now:=h) hnd (show 0<i by omega);rw[XI (show i-1<d.length by omega)]at h9;exact h9)⟩))
           . refine fP c 7 ?_
             by_cases ax:(wh%7:Int)=(4:Int)
             . refine fP c 11 ?_
               refine mv (v:=(iY 7 g i 0)) rfl rfl (fP c 1 ?_)
               refine uf (cf:=Lv.cells) (off:=0) rfl rfl (ye c (i:=1) rfl f_) (gx om) (nr (cf:=Lv.cells) (off:=0) (off' := 6) rfl rfl yt rfl ti2 rfl (ye c (i:=1) rfl f_) (gx om) (nS (f:=(fun x=>{ x with exp:=h })) (L' := [blk j 24 Zo,fV Lv.cells g 34 7 (fR d i (fun x=>{ x with exp:=h }))]) 1 rfl rfl rfl rfl ti2 rfl rfl c rfl f_ om rfl rfl rfl (fun ay E=>fW E 2 ?_)))
               refine tN (?_)
               have W:=yi [1,0] E
               exact(l (2,(fR d i (fun x=>{ x with exp:=h }))) _ _ ⟨rfl,rfl,rfl,rfl,gG (by first|rfl|omega),trivial⟩ (⟨W,(wW hWL.ok hnd ⟨hoe.slot,hoe.seq,hoe.u,hoe.v,hoe.wt,hoe.t,kL (by show _/\_;dsimp only;omega)⟩),by rw[gI];omega,sp4 hnd⟩))
             . refine fP c 7 ?_
               by_cases az:(wh%7:Int)=(5:Int)
               . refine fP c 11 ?_
                 refine mv (v:=(iY 7 g i 0)) rfl rfl (uf (cf:=Lv.cells) (off:=0) rfl rfl (ye c (i:=1) rfl f_) (gx om) (nr (cf:=Lv.cells) (off:=0) (off' := 6) rfl rfl yt rfl ti2 rfl (ye c (i:=1) rfl f_) (gx om) (lI (cf:=Lv.cells) rfl rfl s8 rfl (ye c (i:=1) rfl f_) (gx om) rfl (fP c 1 ?_))))
                 refine uf (cf:=Lv.cells) (off:=0) rfl rfl (ye c (i:=1) rfl f_) (gx om) (nr (cf:=Lv.cells) (off:=0) (off' := 6) rfl rfl yt rfl ti2 rfl (ye c (i:=1) rfl f_) (gx om) (nS (f:=(fun x=>{ x with exp:=((fM d i).exp)+1 })) (L' := [blk j 24 Zo,fV Lv.cells g 34 7 (fR d i (fun x=>{ x with exp:=((fM d i).exp)+1 }))]) 1 rfl rfl rfl rfl ti2 rfl rfl c rfl f_ om rfl rfl rfl (fun aA G=>fW G 2 ?_)))
                 refine tN (?_)
                 have X:=yi [1,0] G
                 exact(l (5,(fR d i (fun x=>{ x with exp:=((fM d i).exp)+1 }))) _ _ ⟨rfl,rfl,rfl,rfl,gG (by first|rfl|omega),trivial⟩ (⟨X,(wW hWL.ok hnd ⟨hoe.slot,hoe.seq,hoe.u,hoe.v,hoe.wt,hoe.t,kL (by show _/\_;dsimp only;omega)⟩),by rw[gI];omega,sp5 hWL hnd⟩))
               . refine fP c 11 ?_
                 refine mv (v:=(iY 7 g i 0)) rfl rfl (fP c 2 ?_)
                 refine uf (cf:=Lv.cells) (off:=0) rfl rfl (ye c (i:=1) rfl f_) (gx om) (nr (cf:=Lv.cells) (off:=0) (off' := 2) rfl rfl yt rfl oS rfl (ye c (i:=1) rfl f_) (gx om) (nr (cf:=Lv.cells) (off:=2) (off' := 5) rfl rfl pg rfl ti2 rfl (ye c (i:=1) rfl f_) (gx om) (nS (f:=(fun x=>{ x with t:=h+1 })) (L' := [blk j 24 Zo,fV Lv.cells g 34 7 (fR d i (fun x=>{ x with t:=h+1 }))]) 1 rfl rfl rfl rfl ti2 rfl rfl c rfl f_ om rfl rfl rfl (fun aB H=>fW H 2 ?_))))
                 refine tN (?_)
                 have Y:=yi [1,0] H
                 exact(l (5,(fR d i (fun x=>{ x with t:=h+1 }))) _ _ ⟨rfl,rfl,rfl,rfl,gG (by first|rfl|omega),trivial⟩ (⟨Y,(wW hWL.ok hnd ⟨hoe.slot,hoe.seq,hoe.u,hoe.v,hoe.wt,kL (by show _/\_;dsimp only;omega),hoe.exp⟩),by rw[gI];omega,sp6 hnd⟩))
   . rintro⟨kd,ys2⟩ aC Z ⟨hst3,hok2,hlen2,hin2⟩
     refine gf hst3 5 ?_
     refine cl aaa (We oD ⟨⟨d_,d_⟩,⟨d_,d_⟩,⟨d_,d_⟩,⟨d_,d_⟩⟩ h g ys2 Z (ye hst3 (i:=0) rfl f_).any hok2 o_) ?_
     rintro I J K
     have o:St _ (Zdx I (og oD h ys2) g ys2 j) J:=wm hst3 K.2 K.1
     refine fP o 2 ?_
     refine cl Y1 (Wo I (og oD h ys2) kd (i:Int) J (Sl.any (ye o (i:=0) rfl f_)) (by have h8:=oI oD h ys2 ys2.length;unfold og;omega) hin2) ?_
     rintro _ aa ⟨rfl,ab⟩
     have L:=jc o ab
     refine fP L 1 ?_
     refine cl JA (HL aa) ?_
     rintro _ aD ⟨rfl,ac⟩
     have M:=jc L ac
     refine fW M 5 ?_
     refine gq (v:=Zf) Tryz.results4 rfl ?_
     exact⟨rfl,M.gJ s_⟩
end
section
open Go Go.Sx Go.ChangeShapes Go.WideShapes Go.ChangeAt Go.RowKit
theorem aaw:ownKnob ya.godebug=none:=by kernel_rfl
theorem Je:laidOutB ya=true:=by kernel_rfl
theorem Yi:ya.cellsOf 5=1:=by kernel_rfl
theorem WE:ya.cellsOf 50=1:=by kernel_rfl
theorem M9:ya.cellsOf 52=4:=by kernel_rfl
theorem W1{H:Type}{enc:TypeId×Value->H}{w:World}{sp:Nat->Bool}{hd:Bool}{fuel:Nat}{cs:List Value}{x:DataW H×List MemPlace}(h:DataW.trod enc ya w 0 sp hd fuel 52 cs=some x):∃ c:Mv,cs=c.cells/\c.ok:=by
 obtain⟨hl,hf⟩:=Rb Ch h
 rw[M9]at hl
 match cs,hl with
 | [a0,a1,a2,a3],_ =>
  obtain⟨n0,y0,h0⟩:=hf _ (ze (i:=0) rfl)
  obtain⟨n1,y1,h1⟩:=hf _ (ze (i:=1) rfl)
  obtain⟨n2,y2,h2⟩:=hf _ (ze (i:=2) rfl)
  obtain⟨n3,y3,h3⟩:=hf _ (ze (i:=3) rfl)
  simp only[Yi,WE]at h0 h1 h2 h3
  obtain⟨x0,e0,q0⟩:=CY qD h0
  obtain⟨x1,e1,q1⟩:=CY qD h1
  obtain⟨x2,e2,q2⟩:=CY EX h2
  obtain⟨x3,e3,q3⟩:=CY qD h3
  simp at e0 e1 e2 e3
  subst e0 e1 e2 e3
  exact⟨⟨x0,x1,x2,x3⟩,rfl,⟨q0,q1,q2,q3⟩⟩
theorem VO{H:Type}{enc:TypeId×Value->H}{w:World}{sp:Nat->Bool}{hd:Bool}{fuel:Nat}{cs:List Value}{x:DataW H×List MemPlace}(h:DataW.trod enc ya w 0 sp hd fuel 22 cs=some x):∃ v l,cs=[v]/\jB 4 Mv.cells (fun _=>True) w v l/\∀ x∈l,x.ok:=by
 obtain⟨v,l,e,hI⟩:=Sl.V1 (α:=Mv) (E:=fun _ c vs=>vs=c.cells/\c.ok) AT M9 d_ (fun n cs y hy=>W1 hy) h
 obtain⟨a,cp,rfl,h1,h2,h3⟩:=hI
 refine⟨_,l,e,⟨a,cp,rfl,h1,h2,fun i y hy=>?_⟩,fun y hy=>?_⟩
 . obtain⟨b,o,vs,r1,r2,r3,r4,r5⟩:=h3 i y hy
   exact⟨b,o,vs,r1,r2,r3,r4.1,r5⟩
 . obtain⟨i,hi⟩:=Ft hy
   obtain⟨b,o,vs,r1,r2,r3,r4,r5⟩:=h3 i y hi
   exact r4.2
end
end Go.Proofs.YtdopagghhibopaaGreat
