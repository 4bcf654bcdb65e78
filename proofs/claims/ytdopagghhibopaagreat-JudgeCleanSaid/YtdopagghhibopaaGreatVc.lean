/- What the functions that the statements reach do: walks through the code of the program and of the references, one theorem a function; under what is said of its arguments. -/
import Derived.Test.YtdopagghhibopaaGreatFc
import Derived.Test.YtdopagghhibopaaGreatVa
import Derived.Test.YtdopagghhibopaaGreatFa
import Derived.Test.YtdopagghhibopaaGreatVb
import Derived.Test.YtdopagghhibopaaGreatFb
import Derived.Test.YtdopagghhibopaaGreatFd
import Derived.Ground.SlmcProg
import Derived.Shelf.SlMaps.Clone
import Derived.Ground.SlsfProg
import Derived.Shelf.SlSortCmp.NoneTotal
import Derived.Test.YtdopagghhibopaaGreatProg
set_option linter.unusedVariables false
set_option linter.unusedSimpArgs false
set_option maxRecDepth 100000
set_option maxHeartbeats 4000000
namespace Go.Proofs.YtdopagghhibopaaGreat
section
open Go Go.Sx
theorem qpopc_ok(hb n:Nat)(s:QS)(w:World)(hO:Own (QS.R hb n s) w) :
 CR ya 103 (Zk hb) w (fun r w' => ∃ (i:Nat) (k:Int) (b:Bool) (s2:QS),r = .tuple #[.agg (Zah i k),.bool b]/\(b=true->i<n)/\Turn (QS.R hb n s) w w' (QS.R hb n s2)):=by
 rcases zbo s.its.length with h0|h0
 . exact CR.mono (qpop0_ok hb n s w hO h0) fun r w' ⟨h1,ht⟩=>⟨0,0,false,s,h1,fun h=>(by cases h),ht⟩
 . exact CR.mono (qpop1_ok hb n s w hO h0) fun r w' ⟨s2,h1,_,ht⟩=>⟨_,_,true,s2,h1,fun _=>hO.fact.hp.ix 0 h0,ht⟩
theorem gexpire_ok(verts edges ob:Nat)(s:GW)(w:World)(hO:Own (GW.R verts edges ob s) w) :
 CR ya 51 (Zk ob) w (fun r w' => ∃ (s2:GW) (i:Nat) (b:Bool),r = .tuple (Zaq i b)/\Turn (GW.R verts edges ob s) w w' (GW.R verts edges ob s2)):=by
 have hvn:=hO.fact.vn
 have hv2:=hO.fact.v2
 have hen:=hO.fact.en
 refine en Tryz.func51 Tryz.ntmps51 ?_
 have hst0:=Own.of hO.un
 have hG:s.ok verts edges:=hO.fact
 have l:=yw (p:=GW.ok verts edges s) (yc [_,_,_,_] _ hst0) hG
 refine pPL hst0 10 ?_
 refine cl ent102 (gvalid_ok verts edges ob s w (yd l (i:=0) rfl)) ?_
 rintro _ C ⟨rfl,ht⟩
 have D:=yu 0 l ht
 have j:=(yav D).unpack
 refine pLL j 12 ?_
 refine cl ent103 (qpopc_ok s.hb edges s.q C (yd j (i:=2) rfl)) ?_
 rintro _ N ⟨d,n,E,e,rfl,G,ht⟩
 have o:=yu 2 j ht
 have hpi:=G
 refine pLL o 3 ?_
 refine al (cs:=Z3) rfl ti111 rfl o (fun t O P Q H=>sLP H 11 fun S g=>?_)
 cases u:(E:Bool)
 . skip
   subst u
   refine pPQ g 9 ?_
   refine ret2 (v:=Zc) (v' := Zp) Tryz.results51 rfl rfl ?_
   have I:=yj [1,2,3,4,0] g
   exact⟨(⟨s.fb,s.nb,s.hb,s.mb,s.trees,e,s.m⟩:GW),0,false,rfl,yv (yw (p:=GW.ok verts edges (⟨s.fb,s.nb,s.hb,s.mb,s.trees,e,s.m⟩:GW)) (yc [_,_,_,_] _ I) hG.same) zh⟩
 . skip
   subst u
   refine pPP g 5 ?_
   have hpl:=hpi rfl
   refine dr0 g (fun J f=>?_) (hA:=by refine' dar 6 ?k0;case k0=>refine' dax (fun wq hM=>rv (lkV_r (a:=(d:Int)) (mm:=s.m) (enc:=Ed.enc) (k:=.i64) 4 rfl rfl yaj ye ti192 rfl hM rfl)) ?k1;case k1=>refine' dax (fun wq hM=>rv (fldAgg_r (cs:=#[(Za ((mgt s.m (d:Int)).a:Int)),(Za ((mgt s.m (d:Int)).b:Int)),(Za ((mgt s.m (d:Int)).exp)),(.bool ((mgt s.m (d:Int)).tree))]) (v:=(.bool ((mgt s.m (d:Int)).tree))) rfl Tryz.underlying192 rfl y9 rfl rfl)) ?k2;case k2=>exact run2)
   refine pQP tt none f 1 ?_
   cases U:((mgt s.m (d:Int)).tree:Bool)
   . skip
     refine pPP f 4 ?_
     refine dr1 f 6 ?_
     intro wq hM
     refine m_dlV (a:=(d:Int)) (mm:=s.m) (enc:=Ed.enc) (k:=.i64) (L' := [blk t 111 (Zi d n),blk ob 174 (Zbb verts edges s (some s.mb)),(lctR s.fb s.nb (edges+verts+1)),(QS.R s.hb edges e),mapV s.mb .i64 Ed.enc (mdel s.m (d:Int))]) 4 rfl rfl rfl yaj ye hM rfl rfl (fun _ h=>(aft h (fun V x=>?_)))
     refine pQQ tt none x 10 ?_
     refine ret2 (v:=(Za d)) (v' := Zf) Tryz.results51 rfl rfl ?_
     have K:=yj [1,2,3,4,0] x
     exact⟨(⟨s.fb,s.nb,s.hb,s.mb,s.trees,e,(mdel s.m (d:Int))⟩:GW),d,true,rfl,yv (yw (p:=GW.ok verts edges (⟨s.fb,s.nb,s.hb,s.mb,s.trees,e,(mdel s.m (d:Int))⟩:GW)) (yc [_,_,_,_] _ K) hG.del) zh⟩
   . skip
     have L:=yj [1,2,3,4,0] f
     have y:=yw (p:=GW.ok verts edges (⟨s.fb,s.nb,s.hb,s.mb,s.trees,e,s.m⟩:GW)) (yc [_,_,_,_] _ L) hG.same
     refine pPL f 5 ?_
     refine cl ent104 (gloosen_ok verts edges ob (⟨s.fb,s.nb,s.hb,s.mb,s.trees,e,s.m⟩:GW) J (yd y (i:=0) rfl) d o_) ?_
     rintro _ W ⟨c,rfl,ht⟩
     have z:=yu 0 y ht
     have M:GW.ok verts edges c:=ya6 z
     have A:=(yav z).unpack
     refine pLP A 3 ?_
     refine dr1 A 6 ?_
     intro wq hM
     refine m_dlV (a:=(d:Int)) (mm:=c.m) (enc:=Ed.enc) (k:=.i64) (L' := [blk ob 174 (Zbb verts edges c (some c.mb)),(lctR c.fb c.nb (edges+verts+1)),(QS.R c.hb edges c.q),mapV c.mb .i64 Ed.enc (mdel c.m (d:Int)),blk t 111 (Zi d n)]) 3 rfl rfl rfl yaj ye hM rfl rfl (fun _ h=>(aft h (fun X B=>?_)))
     refine pQQ tt none B 10 ?_
     refine ret2 (v:=(Za d)) (v' := Zf) Tryz.results51 rfl rfl ?_
     exact⟨(⟨c.fb,c.nb,c.hb,c.mb,c.trees,c.q,(mdel c.m (d:Int))⟩:GW),d,true,rfl,yv (yw (p:=GW.ok verts edges (⟨c.fb,c.nb,c.hb,c.mb,c.trees,c.q,(mdel c.m (d:Int))⟩:GW)) (yc [_,_,_,_] _ B) M.del) zh⟩
theorem gadd_ok(verts edges ob:Nat)(s:GW)(w:World)(hO:Own (GW.R verts edges ob s) w)(k a b:Nat)(exp:Int)(hk:k<edges)(ha:a<verts)(hb:b<verts)(hx:InK .i64 exp) :
 CR ya 56 #[(Zb ob),(Za k),(Za a),(Za b),(Za exp)] w (fun r w' => ∃ (s2:GW) (e:Int),r = .int .i64 e/\Turn (GW.R verts edges ob s) w w' (GW.R verts edges ob s2)):=by
 have hvn:=hO.fact.vn
 have hv2:=hO.fact.v2
 have hen:=hO.fact.en
 refine en Tryz.func56 Tryz.ntmps56 ?_
 have hst0:=Own.of hO.un
 have hG:s.ok verts edges:=hO.fact
 have z:=yw (p:=GW.ok verts edges s) (yc [_,_,_,_] _ hst0) hG
 refine pPL hst0 9 ?_
 refine cl ent102 (gvalid_ok verts edges ob s w (yd z (i:=0) rfl)) ?_
 rintro _ aa ⟨rfl,ht⟩
 have ab:=yu 0 z ht
 have n:=(yav ab).unpack
 refine pLL n 10 ?_
 refine cmp rfl rfl rfl (c_nlt o_) (pLL n 6 ?_)
 refine cmp rfl rfl rfl (c_nge o_) ?_
 have A:=yw (p:=GW.ok verts edges s) (yc [_,_,_,_] _ n) hG
 refine pLL n 4 ?_
 refine cl ent111 (ghas_ok verts edges ob s aa (yd A (i:=0) rfl) a o_) ?_
 rintro _ ac ⟨rfl,ht⟩
 have ad:=yu 0 A ht
 have B:=(yav ad).unpack
 have C:=yw (p:=GW.ok verts edges s) (yc [_,_,_,_] _ B) hG
 refine pLL B 5 ?_
 refine cl ent111 (ghas_ok verts edges ob s ac (yd C (i:=0) rfl) b o_) ?_
 rintro _ aC ⟨rfl,ht⟩
 have ae:=yu 0 C ht
 have g:=(yav ae).unpack
 refine pLL g 12 ?_
 by_cases aD:((a:Int):Int)=((b:Int):Int)
 . refine pLQ g 11 ?_
   refine ret1 (v:=(.int .i64 9)) yba rfl ?_
   exact⟨s,9,rfl,yv (yw (p:=GW.ok verts edges s) (yc [_,_,_,_] _ g) hG) zh⟩
 . refine pLL g 14 ?_
   refine lkV2 (a:=(k:Int)) (mm:=s.m) (enc:=Ed.enc) (k:=.i64) 3 rfl rfl rfl yaj ye ti192 rfl g rfl (pLL g 3 ?_)
   refine al (cs:=Zce) rfl ti192 rfl g (fun af aE aF aG ag=>sLP ag 9 fun ah l=>?_)
   cases aH:((mget s.m (k:Int)).isSome:Bool)
   . skip
     refine pPL l 11 ?_
     refine cl ent110 (qpushed_ok s.hb edges s.q ah (yd l (i:=3) rfl) k o_ exp hx) ?_
     rintro _ aI ⟨aJ,d,rfl,ht⟩
     have D:=yu 3 l ht
     refine pLL D 12 ?_
     refine bld (pvs:=[(0,(Za a)),(1,(Za b)),(2,(Za exp))]) (v:=.agg #[(Za a),(Za b),(Za exp),Zp]) rfl rfl (buildS [(0,(Zd a)),(1,(Zd b)),(2,(Zd exp))] ti192 pl192 rfl ⟨rfl,rfl,rfl,rfl,rfl,rfl,trivial⟩ rfl) (muV (a:=(k:Int)) (c:=(⟨a,b,exp,false⟩:Ed)) (mm:=s.m) (enc:=Ed.enc) (k:=.i64) (L' := [blk af 192 [(Za ((mgt s.m (k:Int)).a:Int)),(Za ((mgt s.m (k:Int)).b:Int)),(Za ((mgt s.m (k:Int)).exp)),(.bool ((mgt s.m (k:Int)).tree))],blk ob 174 (Zbb verts edges s (some s.mb)),(lctR s.fb s.nb (edges+verts+1)),(QS.R s.hb edges d),mapV s.mb .i64 Ed.enc (mput s.m (k:Int) (⟨a,b,exp,false⟩:Ed))]) 4 rfl rfl rfl rfl yaj ye D rfl rfl (fun aK E=>pLP E 4 ?_))
     refine dr1 E 17 ?_ (hA:=by refine' dar 10 ?k0;case k0=>refine' dax (fun wq hM=>rv (ar_r (e:=((edges+a:Nat):Int)) rfl rfl rfl (by rw[w64 o_];omega))) ?k1;case k1=>refine' dar 5 ?k2;case k2=>refine' dax (fun wq hM=>rv (ar_r (e:=((edges+b:Nat):Int)) rfl rfl rfl (by rw[w64 o_];omega))) ?k3;case k3=>exact run2)
     intro wq hM
     refine mcl rfl rfl (clF_r rfl ent112) (lmin_ok s.fb s.nb (edges+verts+1) wq (yd hM (i:=2) rfl) o_ (edges+a) (edges+b) o_ o_) ?_
     rintro _ _ ⟨h,ai,rfl,hF1,ht1⟩
     refine aft (yu 2 hM (ht1.witr hF1)) (fun aj ak=>?_)
     have G:=yj [2,0,1,3,4] ak
     have aL:=ya6 G
     have j:=yav G
     refine pQP tt none j 6 ?_
     cases H:(ai:Bool)
     . skip
       subst H
       have am:=yj [2,0,3,4,1] j
       have I:=yw (p:=GW.ok verts edges (⟨s.fb,s.nb,s.hb,s.mb,s.trees,d,(mput s.m (k:Int) (⟨a,b,exp,false⟩:Ed))⟩:GW)) (yc [_,_,_,_] _ am) (hG.put (by exact⟨ha,hb,hx⟩))
       refine pPL j 7 ?_
       refine cl ent113 (gfasten_ok verts edges ob (⟨s.fb,s.nb,s.hb,s.mb,s.trees,d,(mput s.m (k:Int) (⟨a,b,exp,false⟩:Ed))⟩:GW) aj (yd I (i:=0) rfl) k o_) ?_
       rintro _ aM ⟨o,rfl,ht⟩
       have J:=yu 0 I ht
       have an:GW.ok verts edges o:=ya6 J
       have K:=(yav J).unpack
       refine pLQ K 8 ?_
       refine ret1 (v:=Zc) yba rfl ?_
       exact⟨o,0,rfl,yv (yw (p:=GW.ok verts edges o) (yc [_,_,_,_] _ K) an) zh⟩
     . skip
       subst H
       refine pPL j 8 ?_
       refine lkV (a:=(h:Int)) (mm:=(mput s.m (k:Int) (⟨a,b,exp,false⟩:Ed))) (enc:=Ed.enc) (k:=.i64) 4 rfl rfl rfl yaj ye ti192 rfl j rfl (al (cs:=Zce) rfl ti192 rfl j (fun aN aO aP aQ ao=>sLL ao 9 fun L f=>?_))
       by_cases aR:((mgt (mput s.m (k:Int) (⟨a,b,exp,false⟩:Ed)) (h:Int)).exp:Int)>(exp:Int)
       . refine pLQ f 23 ?_
         refine ret1 (v:=Zc) yba rfl ?_
         have ap:=yj [3,1,4,5,0,2] f
         exact⟨(⟨s.fb,s.nb,s.hb,s.mb,s.trees,d,(mput s.m (k:Int) (⟨a,b,exp,false⟩:Ed))⟩:GW),0,rfl,yv (yw (p:=GW.ok verts edges (⟨s.fb,s.nb,s.hb,s.mb,s.trees,d,(mput s.m (k:Int) (⟨a,b,exp,false⟩:Ed))⟩:GW)) (yc [_,_,_,_] _ ap) (hG.put (by exact⟨ha,hb,hx⟩))) zh⟩
       . refine pLL f 5 ?_
         by_cases aS:((mgt (mput s.m (k:Int) (⟨a,b,exp,false⟩:Ed)) (h:Int)).exp:Int)=(exp:Int)
         . refine pLL f 4 ?_
           by_cases aT:((h:Int):Int)>((k:Int):Int)
           . refine pLQ f 14 ?_
             refine ret1 (v:=Zc) yba rfl ?_
             have aq:=yj [3,1,4,5,0,2] f
             exact⟨(⟨s.fb,s.nb,s.hb,s.mb,s.trees,d,(mput s.m (k:Int) (⟨a,b,exp,false⟩:Ed))⟩:GW),0,rfl,yv (yw (p:=GW.ok verts edges (⟨s.fb,s.nb,s.hb,s.mb,s.trees,d,(mput s.m (k:Int) (⟨a,b,exp,false⟩:Ed))⟩:GW)) (yc [_,_,_,_] _ aq) (hG.put (by exact⟨ha,hb,hx⟩))) zh⟩
           . skip
             have ar:=yj [3,1,4,5,0,2] f
             have M:=yw (p:=GW.ok verts edges (⟨s.fb,s.nb,s.hb,s.mb,s.trees,d,(mput s.m (k:Int) (⟨a,b,exp,false⟩:Ed))⟩:GW)) (yc [_,_,_,_] _ ar) (hG.put (by exact⟨ha,hb,hx⟩))
             refine pLL f 11 ?_
             refine cl ent104 (gloosen_ok verts edges ob (⟨s.fb,s.nb,s.hb,s.mb,s.trees,d,(mput s.m (k:Int) (⟨a,b,exp,false⟩:Ed))⟩:GW) L (yd M (i:=0) rfl) h o_) ?_
             rintro _ au ⟨t,rfl,ht⟩
             have N:=yu 0 M ht
             have av:GW.ok verts edges t:=ya6 N
             have O:=(yav N).unpack
             have P:=yw (p:=GW.ok verts edges t) (yc [_,_,_,_] _ O) av
             refine pLL O 6 ?_
             refine cl ent113 (gfasten_ok verts edges ob t au (yd P (i:=0) rfl) k o_) ?_
             rintro _ aU ⟨u,rfl,ht⟩
             have Q:=yu 0 P ht
             have aw:GW.ok verts edges u:=ya6 Q
             have S:=(yav Q).unpack
             refine pLQ S 8 ?_
             refine ret1 (v:=Zc) yba rfl ?_
             exact⟨u,0,rfl,yv (yw (p:=GW.ok verts edges u) (yc [_,_,_,_] _ S) aw) zh⟩
         . skip
           have ax:=yj [3,1,4,5,0,2] f
           have U:=yw (p:=GW.ok verts edges (⟨s.fb,s.nb,s.hb,s.mb,s.trees,d,(mput s.m (k:Int) (⟨a,b,exp,false⟩:Ed))⟩:GW)) (yc [_,_,_,_] _ ax) (hG.put (by exact⟨ha,hb,hx⟩))
           refine pLL f 15 ?_
           refine cl ent104 (gloosen_ok verts edges ob (⟨s.fb,s.nb,s.hb,s.mb,s.trees,d,(mput s.m (k:Int) (⟨a,b,exp,false⟩:Ed))⟩:GW) L (yd U (i:=0) rfl) h o_) ?_
           rintro _ ay ⟨x,rfl,ht⟩
           have V:=yu 0 U ht
           have az:GW.ok verts edges x:=ya6 V
           have W:=(yav V).unpack
           have X:=yw (p:=GW.ok verts edges x) (yc [_,_,_,_] _ W) az
           refine pLL W 6 ?_
           refine cl ent113 (gfasten_ok verts edges ob x ay (yd X (i:=0) rfl) k o_) ?_
           rintro _ aV ⟨y,rfl,ht⟩
           have Y:=yu 0 X ht
           have aA:GW.ok verts edges y:=ya6 Y
           have Z:=(yav Y).unpack
           refine pLQ Z 8 ?_
           refine ret1 (v:=Zc) yba rfl ?_
           exact⟨y,0,rfl,yv (yw (p:=GW.ok verts edges y) (yc [_,_,_,_] _ Z) aA) zh⟩
   . skip
     refine pPQ l 8 ?_
     refine ret1 (v:=(.int .i64 6)) yba rfl ?_
     have aB:=yj [1,2,3,4,0] l
     exact⟨s,6,rfl,yv (yw (p:=GW.ok verts edges s) (yc [_,_,_,_] _ aB) hG) zh⟩
end
section
open Go Go.Sx
theorem lnew_ok(n:Nat)(w:World)(hn:n<=65536) :
 CR ya 83 (Zai n) w (fun r w' => ∃ fb nb,r = .tuple (Zae fb)/\Turn (allR []) w w' (lctR fb nb (n+1))) :=
 CR.mono (lctNew_ok n w hn) fun r w' ⟨fb,nb,e,ht⟩=>⟨fb,nb,e,turn_lctMade (ed:=0) (xs:=newS n n) (by simpa using ht) (newS_len n n) (newS_in o_) (new_spec o_)⟩
theorem gnew_ok(verts edges:Nat)(w:World)(h2:2<=verts)(hv:verts<=4096)(he:edges<=16384) :
 CR ya 41 (Zah verts edges) w (fun r w' => ∃ (ob:Nat) (s:GW),r = .tuple (Zae ob)/\Turn (allR []) w w' (GW.R verts edges ob s)):=by
 refine en Tryz.func41 Tryz.ntmps41 ?_
 have hst0:=yaf w
 refine pPL hst0 10 ?_
 refine cmp rfl rfl rfl (c_nlt o_) (pLL hst0 2 ?_)
 refine cmp rfl rfl rfl (c_ngt o_) (pLL hst0 3 ?_)
 refine cmp rfl rfl rfl (c_nlt o_) (pLL hst0 3 ?_)
 refine cmp rfl rfl rfl (c_ngt o_) (pLL hst0 10 ?_)
 refine ar (e:=((edges+verts:Nat):Int)) rfl rfl rfl rfl (by rw[w64 o_];omega) (cl ent83 (lnew_ok (edges+verts) w o_) ?_)
 rintro _ t ⟨a,d,rfl,ht⟩
 have g:=(ya9 hst0 ht)
 refine pLP g 25 ?_
 refine lp (α:=Nat) (fun k=>[(0,(Za verts)),(1,(Za edges)),(4,Z6),(5,Zc),(6,(Zb a)),(7,Zc),(34,(Za verts)),(35,(Za ((k:Nat):Int)))]) (fun k w1=>St [(w,[])] [(lctR a d (edges+verts+1))] w1/\k<=verts) (fun k=>verts-k) 0 ⟨rfl,rfl,rfl,rfl,rfl,rfl,rfl,eqI (by first|rfl|omega),trivial⟩ (⟨g,o_⟩) ?_
 rintro k u h ⟨hst3,hk3⟩
 refine pPL hst3 2 ?_
 by_cases x:(((k:Nat):Int):Int)<((verts:Int):Int)
 . refine pLL hst3 19 ?_
   refine ar (e:=((edges+k:Nat):Int)) rfl rfl rfl rfl (by rw[w64 o_];omega) (cl ent84 (lset_ok a d (edges+verts+1) h (yd hst3 (i:=0) rfl) o_ (edges+k) o_ 9223372036854775807 (inkI d_)) ?_)
   rintro _ y ⟨rfl,ht⟩
   have j:=yu 0 hst3 ht
   refine pLQ j 7 ?_
   refine tN (?_)
   exact again (k+1) ⟨rfl,rfl,rfl,rfl,rfl,rfl,rfl,eqI (by first|rfl|omega),trivial⟩ (⟨j,o_⟩) (by show (verts-(k+1):Nat)<verts-k;omega)
 . refine pLL hst3 13 ?_
   refine cl ent82 (qnew_ok edges h o_) ?_
   rintro _ z ⟨b,l,rfl,A,ht⟩
   have f:=(ya9 hst3 ht)
   refine pLL f 22 ?_
   refine bld (pvs:=[(0,(Zb a))]) (v:=.agg (Zk a)) rfl rfl (buildS [(0,(Zj a))] ti171 pl171 rfl ⟨rfl,rfl,trivial⟩ rfl) (pLL f 1 ?_)
   refine mkV Ed.enc .i64 rfl rfl f (fun c B C D o=>bld (pvs:=[(0,(Za verts)),(1,(Za edges)),(2,(.agg (Zk a))),(3,(Zb b)),(4,(.map (some c)))]) (v:=.agg (Zc4 verts edges a b (some c))) rfl rfl (buildS [(0,(Zd verts)),(1,(Zd edges)),(2,(Zj a)),(3,(Zj b)),(4,[(.map (some c))])] ti174 pl174 rfl ⟨rfl,rfl,rfl,rfl,rfl,rfl,rfl,rfl,rfl,rfl,trivial⟩ rfl) (bx (v:=(.agg (Zc4 verts edges a b (some c)))) (cs:=[(Za verts),(Za edges),(Zb a),(Zb b),(.map (some c)),Zc]) rfl rfl rfl o (fun m E G H n=>pLQ n 5 ?_)))
   refine ret2 (v:=(Zb m)) (v' := Zc) Tryz.results41 rfl rfl ?_
   have q:=yj [0,3,2,1] n
   exact⟨m,(⟨a,d,b,c,0,l,[]⟩:GW),rfl,St.endMade (yw (p:=GW.ok verts edges (⟨a,d,b,c,0,l,[]⟩:GW)) (yc [_,_,_,_] _ q) ⟨h2,hv,he,fun p hp=>by cases hp⟩) s_⟩
end
section
open Go Go.Sx
theorem wcfg_ok(c:Cf)(w:World)(h1:1<=c.win)(h2:1<=c.edges/\c.edges<=16384)(h3:2<=c.verts/\c.verts<=4096)(h4:0<=c.draws/\c.draws<=16384) :
 CR ya 37 (Zda c.win c.edges c.verts c.draws) w (fun r w' => r = .bool true/\Chg [] w w'):=by
 refine en Tryz.func37 Tryz.ntmps37 ?_
 have hst0:=yaf w
 refine pPL hst0 2 ?_
 refine bx (v:=(Zay c.win c.edges c.verts c.draws)) (cs:=(Za6 c.win c.edges c.verts c.draws)) rfl rfl rfl hst0 (fun b d e f a=>pLL a 7 ?_)
 refine cmp rfl rfl rfl (c_ge o_) (pLL a 3 ?_)
 refine cmp rfl rfl rfl (c_ge o_) (pLL a 4 ?_)
 refine cmp rfl rfl rfl (c_le o_) (pLL a 4 ?_)
 refine cmp rfl rfl rfl (c_ge o_) (pLL a 4 ?_)
 refine cmp rfl rfl rfl (c_le o_) (pLL a 4 ?_)
 refine cmp rfl rfl rfl (c_ge o_) (pLL a 4 ?_)
 refine cmp rfl rfl rfl (c_le o_) (pLQ a 5 ?_)
 refine ret1 (v:=Zf) Tryz.results37 rfl ?_
 exact⟨rfl,a.chg s_⟩
end
section
open Go Go.Sx
theorem add_ok(a b:Int)(w:World)(ha:InK .i64 a)(hb:InK .i64 b) :
 CR ya 85 (Zah a b) w (fun r w' => r = .tuple (Zah ((addV a b).1) ((addV a b).2))/\Chg [] w w'):=by
 have ha' := ha.i64
 have hb' := hb.i64
 obtain⟨s,hs⟩:∃ s,s=IntKind.i64.wrap (a+b):=⟨_,rfl⟩
 have hw:=hs
 rw[IntKind.wrap_i64]at hw
 refine en Tryz.func85 Tryz.ntmps85 ?_
 have hst0:=yaf w
 refine pPL hst0 10 ?_
 refine ar (e:=s) rfl rfl rfl rfl hs.symm (pLL hst0 7 ?_)
 by_cases d:(a:Int)<(0:Int)
 . refine pLL hst0 2 ?_
   by_cases f:(b:Int)<(0:Int)
   . refine pLL hst0 1 ?_
     refine eqBool (c:=true) rfl rfl rfl y9 rfl (pLL hst0 2 ?_)
     by_cases g:(s:Int)<(0:Int)
     . refine pLL hst0 3 ?_
       refine neBool (c:=false) rfl rfl rfl y9 rfl (pLQ hst0 14 ?_)
       refine ret2 (v:=(Za s)) (v' := Zc) ybg rfl rfl ?_
       have h9:=addV_ok (a:=a) (b:=b) o_
       have h8:s=a+b:=by omega
       exact⟨by rw[h9,h8],hst0.chg s_⟩
     . refine pLL hst0 3 ?_
       refine neBool (c:=true) rfl rfl rfl y9 rfl (pLQ hst0 12 ?_)
       refine ret2 (v:=Zc) (v' := (.int .i64 7)) ybg rfl rfl ?_
       have h9:=addV_no (a:=a) (b:=b) o_
       exact⟨by rw[h9],hst0.chg s_⟩
   . refine pLL hst0 1 ?_
     refine eqBool (c:=false) rfl rfl rfl y9 rfl (pLQ hst0 20 ?_)
     refine ret2 (v:=(Za s)) (v' := Zc) ybg rfl rfl ?_
     have h9:=addV_ok (a:=a) (b:=b) o_
     have h8:s=a+b:=by omega
     exact⟨by rw[h9,h8],hst0.chg s_⟩
 . refine pLL hst0 2 ?_
   by_cases h:(b:Int)<(0:Int)
   . refine pLL hst0 1 ?_
     refine eqBool (c:=false) rfl rfl rfl y9 rfl (pLQ hst0 20 ?_)
     refine ret2 (v:=(Za s)) (v' := Zc) ybg rfl rfl ?_
     have h9:=addV_ok (a:=a) (b:=b) o_
     have h8:s=a+b:=by omega
     exact⟨by rw[h9,h8],hst0.chg s_⟩
   . refine pLL hst0 1 ?_
     refine eqBool (c:=true) rfl rfl rfl y9 rfl (pLL hst0 2 ?_)
     by_cases i:(s:Int)<(0:Int)
     . refine pLL hst0 3 ?_
       refine neBool (c:=true) rfl rfl rfl y9 rfl (pLQ hst0 12 ?_)
       refine ret2 (v:=Zc) (v' := (.int .i64 7)) ybg rfl rfl ?_
       have h9:=addV_no (a:=a) (b:=b) o_
       exact⟨by rw[h9],hst0.chg s_⟩
     . refine pLL hst0 3 ?_
       refine neBool (c:=false) rfl rfl rfl y9 rfl (pLQ hst0 14 ?_)
       refine ret2 (v:=(Za s)) (v' := Zc) ybg rfl rfl ?_
       have h9:=addV_ok (a:=a) (b:=b) o_
       have h8:s=a+b:=by omega
       exact⟨by rw[h9,h8],hst0.chg s_⟩
theorem after_ok(win t:Int)(w:World)(hwin:InK .i64 win)(htt:InK .i64 t) :
 CR ya 43 (Zah win t) w (fun r w' => r = .tuple (Zah ((addV t win).1) ((addV t win).2))/\Chg [] w w'):=by
 refine en Tryz.func43 Tryz.ntmps43 ?_
 have hst0:=yaf w
 refine pPL hst0 10 ?_
 refine cl ent85 (add_ok t win w htt hwin) ?_
 rintro _ c ⟨rfl,b⟩
 have a:=yaa hst0 b
 refine pLQ a 7 ?_
 refine ret2 (v:=(Za ((addV t win).1))) (v' := (Za ((addV t win).2))) Tryz.results43 rfl rfl ?_
 exact⟨rfl,a.chg s_⟩
theorem cvalid_ok(cb:Nat)(win now:Int)(w:World)(hO:Own (Zs cb win now) w)(h1:1<=win)(hwin:InK .i64 win) :
 CR ya 42 (Zk cb) w (fun r w' => r = .bool true/\Turn (Zs cb win now) w w' (Zs cb win now)):=by
 refine en Tryz.func42 Tryz.ntmps42 ?_
 have hst0:=yz hO
 refine pPL hst0 8 ?_
 refine neP (a:=some ⟨cb,0,none⟩) (c:=true) rfl rfl rfl Tryz.underlying78 rfl (pLL hst0 5 ?_)
 refine cmp rfl rfl rfl (c_ge o_) (pLQ hst0 5 ?_)
 refine ret1 (v:=Zf) Tryz.results42 rfl ?_
 exact⟨rfl,yq hst0⟩
theorem cnow_ok(cb:Nat)(win now:Int)(w:World)(hO:Own (Zs cb win now) w)(h1:1<=win)(hwin:InK .i64 win) :
 CR ya 25 (Zk cb) w (fun r w' => r = .int .i64 now/\Turn (Zs cb win now) w w' (Zs cb win now)):=by
 refine en Tryz.func25 Tryz.ntmps25 ?_
 have hst0:=yz hO
 refine pPL hst0 9 ?_
 refine cl ent42 (cvalid_ok cb win now w (yd hst0 (i:=0) rfl) h1 hwin) ?_
 rintro _ b ⟨rfl,ht⟩
 have a:=yu 0 hst0 ht
 refine pLQ a 16 ?_
 refine ret1 (v:=(Za now)) Tryz.results25 rfl ?_
 exact⟨rfl,yq a⟩
theorem ccheck_ok(cb:Nat)(win now:Int)(w:World)(hO:Own (Zs cb win now) w)(h1:1<=win)(hwin:InK .i64 win)(t:Int)(htt:InK .i64 t) :
 CR ya 21 (Zn cb t) w (fun r w' => r = .int .i64 (chkV win now t)/\Turn (Zs cb win now) w w' (Zs cb win now)):=by
 refine en Tryz.func21 Tryz.ntmps21 ?_
 have hst0:=yz hO
 refine pPL hst0 9 ?_
 refine cl ent42 (cvalid_ok cb win now w (yd hst0 (i:=0) rfl) h1 hwin) ?_
 rintro _ c ⟨rfl,ht⟩
 have a:=yu 0 hst0 ht
 refine pLL a 14 ?_
 by_cases e:(t:Int)<(now:Int)
 . refine pLQ a 11 ?_
   refine ret1 (v:=(.int .i64 10)) Tryz.results21 rfl ?_
   exact⟨eqI (by unfold chkV;rw[if_pos (by assumption)]),yq a⟩
 . refine pLL a 13 ?_
   refine cl ent43 (after_ok win t c hwin htt) ?_
   rintro _ f ⟨rfl,d⟩
   have b:=yaa a d
   refine pLQ b 14 ?_
   refine ret1 (v:=(Za ((addV t win).2))) Tryz.results21 rfl ?_
   exact⟨eqI (by unfold chkV;rw[if_neg (by assumption)]),yq b⟩
theorem cexpiry_ok(cb:Nat)(win now:Int)(w:World)(hO:Own (Zs cb win now) w)(h1:1<=win)(hwin:InK .i64 win)(t:Int)(htt:InK .i64 t) :
 CR ya 52 (Zn cb t) w (fun r w' => r = .tuple (Zah ((addV t win).1) ((addV t win).2))/\Turn (Zs cb win now) w w' (Zs cb win now)):=by
 refine en Tryz.func52 Tryz.ntmps52 ?_
 have hst0:=yz hO
 refine pPL hst0 10 ?_
 refine cl ent42 (cvalid_ok cb win now w (yd hst0 (i:=0) rfl) h1 hwin) ?_
 rintro _ c ⟨rfl,ht⟩
 have a:=yu 0 hst0 ht
 refine pLL a 13 ?_
 refine cl ent43 (after_ok win t c hwin htt) ?_
 rintro _ e ⟨rfl,d⟩
 have b:=yaa a d
 refine pLQ b 7 ?_
 refine ret2 (v:=(Za ((addV t win).1))) (v' := (Za ((addV t win).2))) Tryz.results52 rfl rfl ?_
 exact⟨rfl,yq b⟩
theorem cadvance_ok(cb:Nat)(win now:Int)(w:World)(hO:Own (Zs cb win now) w)(h1:1<=win)(hwin:InK .i64 win)(t:Int)(htt:InK .i64 t) :
 CR ya 50 (Zn cb t) w (fun r w' => r = .int .i64 (chkV win now t)/\Turn (Zs cb win now) w w' (Zs cb win (if chkV win now t=0 then t else now))):=by
 refine en Tryz.func50 Tryz.ntmps50 ?_
 have hst0:=yz hO
 refine pPL hst0 9 ?_
 refine cl ent21 (ccheck_ok cb win now w (yd hst0 (i:=0) rfl) h1 hwin t htt) ?_
 rintro _ c ⟨rfl,ht⟩
 have a:=yu 0 hst0 ht
 refine pLL a 7 ?_
 by_cases d:(chkV win now t:Int)=(0:Int)
 . refine sLQ a 19 fun e b=>?_
   refine ret1 (v:=(Za (chkV win now t))) Tryz.results50 rfl ?_
   have e9:(if chkV win now t=0 then t else now)=t:=if_pos (by assumption)
   refine⟨rfl,?_⟩
   rw[e9]
   exact yq b
 . refine pLQ a 13 ?_
   refine ret1 (v:=(Za (chkV win now t))) Tryz.results50 rfl ?_
   have e9:(if chkV win now t=0 then t else now)=now:=if_neg (by assumption)
   refine⟨rfl,?_⟩
   rw[e9]
   exact yq a
theorem cnew_ok(win:Int)(w:World)(h1:1<=win) :
 CR ya 38 (Zai win) w (fun r w' => ∃ cb,r = .tuple (Zae cb)/\Turn (allR []) w w' (blk cb 107 [(Za win),Zc])):=by
 refine en Tryz.func38 Tryz.ntmps38 ?_
 have hst0:=yaf w
 refine pPL hst0 10 ?_
 refine cmp rfl rfl rfl (c_nlt o_) (pLL hst0 8 ?_)
 refine bld (pvs:=[(0,(Za win))]) (v:=.agg (Za8 win)) rfl rfl (buildS [(0,(Zd win))] ti107 pl107 rfl ⟨rfl,rfl,trivial⟩ rfl) (bx (v:=(.agg (Za8 win))) (cs:=[(Za win),Zc]) rfl rfl rfl hst0 (fun a c d e b=>pLQ b 5 ?_))
 refine ret2 (v:=(Zb a)) (v' := Zc) Tryz.results38 rfl rfl ?_
 exact⟨a,rfl,St.eM b⟩
end
section
open Go Go.Sx
def WW.R(c:WC)(wb:Nat)(s:WW):Res:=facR (s.ok c) (allR [blk wb 83 (Za0 c.win c.edges c.verts c.draws s),(Zap s c.win),(Sto.R c.verts c.edges s.ub s.u),(QS.SR s.sb s.hb c.edges s.q),(GW.R c.verts c.edges s.ob s.g)])
abbrev Zbr a (b:Nat) c (d e:Nat):=([WW.R a b c,blk d 24 Zx,blk e 24 Zbj]:List Res)
abbrev Zc1 a b (c:Nat) d e f (g h:Nat):=([facR a (allR [WW.R b c d,rowR Lv.cells e 34 7 f]),blk g 24 Zx,blk h 24 Zbj]:List Res)
abbrev Zcc a b (c:Nat) d e f (g h:Nat):=([facR a (allR [WW.R b c d,rowR Lv.cells e 34 7 f]),blk g 24 Zx,blk h 24 Zx]:List Res)
theorem wvalid_ok(c:WC)(wb:Nat)(s:WW)(w:World)(hO:Own (WW.R c wb s) w) :
 CR ya 20 (Zk wb) w (fun r w' => r = .bool true/\Turn (WW.R c wb s) w w' (WW.R c wb s)):=by
 refine en Tryz.func20 Tryz.ntmps20 ?_
 have hst0:=Own.of hO.un
 have hW:s.ok c:=hO.fact
 have hw1:=hW.w1
 have hw2:=hW.wi
 have hw3:=hW.n0
 have hw4:=hW.n1
 refine pPL hst0 8 ?_
 refine neP (a:=some ⟨wb,0,none⟩) (c:=true) rfl rfl rfl Tryz.underlying45 rfl (pLL hst0 5 ?_)
 refine neP (a:=some ⟨s.cb,0,none⟩) (c:=true) rfl rfl rfl Tryz.underlying78 rfl (pLQ hst0 5 ?_)
 refine ret1 (v:=Zf) Tryz.results20 rfl ?_
 exact⟨rfl,yv (yw (p:=s.ok c) (yc [_,_,_,_,_] _ hst0) hW) zh⟩
theorem wnow_ok(c:WC)(wb:Nat)(s:WW)(w:World)(hO:Own (WW.R c wb s) w) :
 CR ya 13 (Zk wb) w (fun r w' => r = .int .i64 s.now/\Turn (WW.R c wb s) w w' (WW.R c wb s)):=by
 refine en Tryz.func13 Tryz.ntmps13 ?_
 have hst0:=Own.of hO.un
 have hW:s.ok c:=hO.fact
 have hw1:=hW.w1
 have hw2:=hW.wi
 have hw3:=hW.n0
 have hw4:=hW.n1
 have b:=yw (p:=s.ok c) (yc [_,_,_,_,_] _ hst0) hW
 refine pPL hst0 9 ?_
 refine cl ent20 (wvalid_ok c wb s w (yd b (i:=0) rfl)) ?_
 rintro _ e ⟨rfl,ht⟩
 have f:=yu 0 b ht
 have a:=(yav f).unpack
 refine pLL a 12 ?_
 refine cl ent25 (cnow_ok s.cb c.win s.now e (yd a (i:=1) rfl) hw1 (inkI o_)) ?_
 rintro _ g ⟨rfl,ht⟩
 have d:=yu 1 a ht
 refine pLQ d 4 ?_
 refine ret1 (v:=(Za s.now)) Tryz.results13 rfl ?_
 exact⟨rfl,yv (yw (p:=s.ok c) (yc [_,_,_,_,_] _ d) hW) zh⟩
end
section
open Go Go.Sx
end
end Go.Proofs.YtdopagghhibopaaGreat
namespace Go.Proofs
open Go.Shelf Go.Lib Go.Sort Go.RowKit in
def Tryz.laysMC_ren:Go.Shelf.Ren:=⟨fun|5=>94|7=>149|n=>n,fun|23=>128|25=>30|3=>115|4=>4|20=>20|n=>n,fun|n=>n⟩
open Go.Shelf Go.Lib Go.Sort Go.RowKit in
theorem Tryz.laysMC:Go.Proofs.SlLaysW.n5 Proofs.Tryz.prog Tryz.laysMC_ren where
 mixed:=by kernel_rfl
 f5:=⟨Proofs.Tryz.f94.name,by(decide),Proofs.Tryz.func94.trans (congrArg some<|by kernel_rfl)⟩
 f7:=Proofs.Tryz.func149.trans (congrArg some<|by kernel_rfl)
 t4:=Proofs.Tryz.underlying4
 a4:=Proofs.Tryz.isAgg4
 z4:=Proofs.Tryz.sizeOf4
 v4:=Proofs.Tryz.zeroValue4
 t20:=Proofs.Tryz.underlying20
 a20:=Proofs.Tryz.isAgg20
 z20:=Proofs.Tryz.sizeOf20
 v20:=Proofs.Tryz.zeroValue20
 t23:=Proofs.Tryz.underlying128
 a23:=Proofs.Tryz.isAgg128
 z23:=Proofs.Tryz.sizeOf128
 v23:=Proofs.Tryz.zeroValue128
end Go.Proofs
namespace Go.Proofs.YtdopagghhibopaaGreat
section
open Go Go.Sx
theorem mclone_ok(b:Nat)(im:IM)(w:World)(hO:Own (Zes b im) w) :
 CR ya 94 #[.map (some b)] w (fun r w' => ∃ b2,r = .map (some b2)/\Turn (Zes b im) w w' (allR [mapV b .u64 p_ im,mapV b2 .u64 p_ im])) :=
 clone_map hO fun es clock h=>AnyW.maps_Clone Tryz.laysMC b es clock w h
theorem cloneL_ok(v:Value)(xs:List Lv)(w:World)(hv:Recs 7 Lv.cells (fun _=>True) w v xs)(hl0:xs.length<=1000000) :
 CR ya 93 #[v] w (fun r w' => FreshR 7 Lv.cells w w' r 34 xs/\Chg [] w w'):=by
 refine en Tryz.func93 Tryz.ntmps93 ?_
 have hst0:=yaf w
 refine pPL hst0 9 ?_
 refine eqNilR (v:=v) rfl rfl rfl y0 hv (pLP hst0 2 ?_)
 cases e:(nilR v:Bool)
 . skip
   refine pPL hst0 5 ?_
   refine bsv (vs:=[]) (cs:=[]) rfl rfl y0 ti34 rfl (by intro v hv;simp at hv) rfl rfl rfl hst0 ?_
   intro f g h i c
   have d:=c
   refine pLL c 1 ?_
   refine apdR (cf:=Lv.cells) (ys:=[]) (zs:=xs) (LL:=fun a=>[rowR Lv.cells a 34 7 xs]) 0 rfl rfl rfl y0 ti34 rfl d_ d rfl (Recs.src (yap d s_ d_ hv) f_) (flat_one f_ _) (by simp only[zq];omega) (by simp only[zq];omega) f_ (fun a j b k=>pLQ b 4 ?_)
   refine ret1 (v:=a) Tryz.results93 rfl ?_
   exact⟨ybk b s_,b.chg s_⟩
 . skip
   refine pPQ hst0 8 ?_
   refine ret1 (v:=Zl) Tryz.results93 rfl ?_
   obtain rfl:=nil_nil e hv
   exact⟨FreshR.nil', hst0.chg s_⟩
theorem ucopy_ok(verts edges ub:Nat)(s:Sto)(w:World)(hO:Own (Sto.R verts edges ub s) w) :
 CR ya 46 (Zk ub) w (fun r w' => ∃ (ub2:Nat) (s2:Sto),r = .pointer (some ⟨ub2,0,none⟩)/\((∀ y,s2.has y↔s.has y)/\s2.last=s.last)/\Turn (Sto.R verts edges ub s) w w' (allR [(Sto.R verts edges ub s),(Sto.R verts edges ub2 s2)])):=by
 have htu:s.t.A.used<=s.t.A.n:=hO.fact.tok.ul
 have hUn:=hO.fact.n
 have hUt:=hO.fact.tn
 have hUe:=hO.fact.en
 have hUv:=hO.fact.vn
 have hAu:s.A.used<=s.A.begun:=by have h7:=hO.fact.aok.used;omega
 have hAl:=hO.fact.aok.le
 have hll:s.live.length=s.A.begun:=hO.fact.ll
 have hnl2:∀ id,(mgt s.im id).2.length<=65536:=fun id=>hO.fact.incl id
 refine en Tryz.func46 Tryz.ntmps46 ?_
 have hst0:=Own.of hO.un
 have hU:s.ok verts edges:=hO.fact
 have J:=yw (p:=s.ok verts edges) (yc [_,_,_,_,_,_] _ hst0) hU
 refine pPL hst0 9 ?_
 refine cl ent57 (uvalid_ok verts edges ub s w (yd J (i:=0) rfl)) ?_
 rintro _ aF ⟨rfl,ht⟩
 have W:=yu 0 J ht
 have K:=(yav W).unpack
 refine pLL K 11 ?_
 refine al (cs:=[Zc,Zc,Zaz,Z6,Z6,Zl,(.map none)]) rfl ti130 rfl K (fun l aG aH aI L=>sto (L' := [blk l 130 (Zaa verts edges s (some s.mb)),blk ub 130 (Zaa verts edges s (some s.mb)),rowR Lv.cells s.lv 34 7 s.live,mapV s.mb .u64 p_ s.im,famR 3 s.im,(Zau s),(Z9 s)]) 0 rfl rfl rfl rfl ti130 rfl (all1 rfl (all1 rfl (all1 rfl (all1 rfl (all1 rfl (all1 (ya0 L (i:=2) rfl) (all1 rfl all0))))))) L rfl rfl rfl rfl (fun X G=>pLL G 8 ?_))
 refine cl ent91 (wcopy_ok s.aab s.aw X (yd G (i:=5) rfl)) ?_
 rintro _ aJ ⟨e,m,rfl,Y,ht⟩
 have Z:=yj [5,0,1,2,3,4,6] G
 have aa:=yan (yu 0 Z ht)
 refine sLL aa 10 fun ac M=>?_
 refine cl ent92 (tcopy_ok s.tb s.ab s.t ac (yd M (i:=7) rfl)) ?_
 rintro _ aK ⟨f,o,u,rfl,N,ht⟩
 have ad:=yj [7,0,1,2,3,4,5,6] M
 have ae:=yan (yu 0 ad ht)
 refine sLL ae 10 fun af O=>?_
 refine cl ent93 (cloneL_ok s.lv s.live af (yf O (i:=6) rfl f_).any (by first|omega|(simp;omega))) ?_
 rintro j ag hz
 have D:St _ [rowR Lv.cells j 34 7 s.live,(Z9 s),(TW.R f o u),(Zau s),(AW.R e m),blk l 130 [(Za verts),(Za edges),(Ze s.last),(Zb e),(Zb f),s.lv,(.map (some s.mb))],blk ub 130 (Zaa verts edges s (some s.mb)),rowR Lv.cells s.lv 34 7 s.live,mapV s.mb .u64 p_ s.im,famR 3 s.im] ag:=ya8 O hz.2 hz.1
 refine pLL D 1 ?_
 refine sto (L' := [rowR Lv.cells j 34 7 s.live,(Z9 s),(TW.R f o u),(Zau s),(AW.R e m),blk l 130 (Zb3 verts edges s.last e f j (some s.mb)),blk ub 130 (Zaa verts edges s (some s.mb)),rowR Lv.cells s.lv 34 7 s.live,mapV s.mb .u64 p_ s.im,famR 3 s.im]) 5 rfl rfl rfl (cells_one (ya0 D (i:=0) rfl)) ti25 rfl (all1 (ya0 D (i:=0) rfl) all0) D rfl rfl rfl rfl (fun ah E=>pLL E 7 ?_)
 refine ld rfl rfl ym rfl (yo E (i:=6) rfl rfl) (cl ent94 (mclone_ok s.mb s.im ah (yd E (i:=8) rfl)) ?_)
 rintro _ aL ⟨g,rfl,ht⟩
 have ai:=yj [8,0,1,2,3,4,5,6,7,9] E
 have P:=yan (yu 0 ai ht)
 refine pLL P 1 ?_
 refine sto (L' := [mapV s.mb .u64 p_ s.im,mapV g .u64 p_ s.im,rowR Lv.cells j 34 7 s.live,(Z9 s),(TW.R f o u),(Zau s),(AW.R e m),blk l 130 (Zb3 verts edges s.last e f j (some g)),blk ub 130 (Zaa verts edges s (some s.mb)),rowR Lv.cells s.lv 34 7 s.live,famR 3 s.im]) 7 rfl rfl rfl rfl ti128 rfl rfl P rfl rfl rfl rfl (fun aM H=>pLL H 8 ?_)
 refine ld rfl rfl ym rfl (yo H (i:=8) rfl rfl) (rgM (k:=.u64) (enc:=p_) (mm:=s.im) 0 rfl rfl ym H rfl ?_)
 intro z Q S
 have aj:St _ [famR 3 [],mapT s.mb z .u64 p_ s.im s.im none,mapV g .u64 p_ s.im,rowR Lv.cells j 34 7 s.live,(Z9 s),(TW.R f o u),(Zau s),(AW.R e m),blk l 130 (Zb3 verts edges s.last e f j (some g)),blk ub 130 (Zaa verts edges s (some s.mb)),rowR Lv.cells s.lv 34 7 s.live,famR 3 s.im] Q:=St.famNil S
 have ak:St _ [famR 3 [],famR 3 [],mapT s.mb z .u64 p_ s.im s.im none,mapV g .u64 p_ s.im,rowR Lv.cells j 34 7 s.live,(Z9 s),(TW.R f o u),(Zau s),(AW.R e m),blk l 130 (Zb3 verts edges s.last e f j (some g)),blk ub 130 (Zaa verts edges s (some s.mb)),rowR Lv.cells s.lv 34 7 s.live,famR 3 s.im] Q:=St.famNil aj
 have am:=yj [10,11,2,12,1,7,5,9,4,3,0,8,6] ak
 refine pLP S 3 ?_
 refine lp (α:=IM×IM×IM×IM×(Option (Int×(Value×List Nat)))) (fun(dn,td,dn2,im2,cur)=>[(3,(Zb l)),(40,(Zb z))]) (fun(dn,td,dn2,im2,cur) w1=>St [(w,(Sto.R verts edges ub s).foot)] [blk ub 130 (Zaa verts edges s (some s.mb)),rowR Lv.cells s.lv 34 7 s.live,mapT s.mb z .u64 p_ s.im td cur,famR 3 td,famR 3 dn,(Zau s),(Z9 s),blk l 130 (Zb3 verts edges s.last e f j (some g)),rowR Lv.cells j 34 7 s.live,mapV g .u64 p_ im2,famR 3 dn2,(AW.R e m),(TW.R f o u)] w1/\CpM s.im dn td dn2 im2) (fun(dn,td,dn2,im2,cur)=>td.length) ([],s.im,[],s.im,none) ⟨rfl,rfl,trivial⟩ (⟨am,CpM.start hU.keys⟩) ?_
 rintro⟨dn,td,dn2,im2,cur⟩ aN aO ⟨hst7,hC7⟩
 obtain⟨an,aP⟩:∃ q,mapT_next ya hst7 (i:=2) rfl=q:=⟨_,rfl⟩
 refine pPL hst7 2 ?_
 rcases an with ⟨U,ao⟩|⟨b,x,aQ,B⟩
 . skip
   refine nxM rfl rfl (ao _) ?_
   have aR:=U
   refine pLQ hst7 16 ?_
   refine ret1 (v:=(Zb l)) Tryz.results46 rfl ?_
   have hfin:=hC7.fin hU.keys U
   have ap:=St.mapT_end hst7 (i:=2) rfl
   have aq:=yj [4,0,1,2,3,5,6,7,8,9,10,11,12] ap
   have ar:=St.famPerm aq hfin.1
   have au:=yj [10,0,1,2,3,4,5,6,7,8,9,11,12] ar
   have av:=St.famPerm au hfin.2.1
   have I:=yj [2,3,4,1,6,7,8,9,10,0,11,12] av
   have hA9:=(yac I (i:=10) rfl:m.A.ok)
   have hT9:=(yac I (i:=11) rfl:u.ok)
   have hcp:=hU.copy Y hA9 hT9 N.1 N.2.1 hfin.2.2.1 hfin.2.2.2 e f o g j
   have hp1:=yw (p:=Sto.ok verts edges s) (yc [_,_,_,_,_,_] _ I) hU
   have hp2:St _ (allR [_,_,_,_,_,_] :: [(Sto.R verts edges ub s)]) _:=yc [_,_,_,_,_,_] [(Sto.R verts edges ub s)] (ya7 hp1 (zau (l₁:=[_]) (l₂:=[_,_,_,_,_,_])))
   have hp3:=ya7 (yw (p:=Sto.ok verts edges (⟨e,f,o,g,j,s.last,m,u,s.live,im2⟩:Sto)) hp2 hcp.1) (List.Perm.swap _ _ _)
   exact⟨l,(⟨e,f,o,g,j,s.last,m,u,s.live,im2⟩:Sto),rfl,⟨hcp.2,rfl⟩,yq (yc [_,_] _ hp3)⟩
 . skip
   refine nxM rfl rfl (B.run _) ?_
   have ax:=B.st
   have ay:=yj [3,0,1,2,4,5,6,7,8,9,10,11,12] ax
   have C:=St.rowN f_ (St.famCons (St.famPerm ay B.perm))
   have hpl7:b.2.2.length<=65536:=by have h7:=hnl2 b.1;rw[hC7.at hU.keys B.perm]at h7;exact h7
   refine pLL C 10 ?_
   refine enM (p:=b) 4 rfl rfl C rfl (pLL C 3 ?_)
   refine asg (v:=b.2.1) rfl rfl (pLP C 2 ?_)
   refine rgs (Γ:=Value) mixed [[],[0],[],[],[3],[0,1,2,3,4]] [4,5] d_ [fun _=>(Z4 l),fun _=>(.map (some g)),fun _=>(Ze b.1),fun _=>b.2.1,fun d=>d,fun _=>undef] [(fun d=>[rowR ncf b.2.1 3 1 b.2.2,famR 3 x,blk ub 130 (Zaa verts edges s (some s.mb)),rowR Lv.cells s.lv 34 7 s.live,mapT s.mb z .u64 p_ s.im x (some b),famR 3 dn,(Zau s),(Z9 s),blk l 130 (Zb3 verts edges s.last e f j (some g)),rowR Lv.cells j 34 7 s.live,mapV g .u64 p_ im2,famR 3 dn2,(AW.R e m),(TW.R f o u)],fun _ _=>True),(fun d=>(Zem d b.2.2 b.2.1 x ub verts edges s (some s.mb) (mapT s.mb z .u64 p_ s.im x (some b)) dn l e f j (some g) g im2 dn2 m o u),fun _ _=>True),(fun d=>(Zem d b.2.2 b.2.1 x ub verts edges s (some s.mb) (mapT s.mb z .u64 p_ s.im x (some b)) dn l e f j (some g) g (mput im2 b.1 (d,b.2.2)) dn2 m o u),fun _ _=>True)] Zl _ rfl C (fun _ _=>trivial) ?_ (fun d=>rfl) rfl ?_
   . skip
     refine obv (fun d _=>fa_r (o' := 6) rfl yai rfl ti128 rfl) ?_
     refine ob_q2 rfl rfl rfl rfl rfl (fun d wq hM hF=>qv rfl rfl (ld_r rfl ym rfl (yo hM (i:=8) rfl rfl))) (fun d wq hM hF=>qv rfl rfl (ld_r rfl ym rfl (yo hM (i:=9) rfl rfl))) (obv (fun d _=>mv_r (v:=(Ze b.1)) rfl) ?_)
     refine obv (fun d _=>mv_r (v:=b.2.1) rfl) ?_
     refine ob_m rfl rfl rfl rfl (fun d wq hM hF=>mcl rfl rfl (clF_r rfl ent95) (cloneN_ok b.2.1 b.2.2 wq (yf hM (i:=0) rfl f_).any (by first|omega|(simp;omega))) (fun az _ hz=>⟨az,⟨(ya8 hM hz.2 hz.1),trivial⟩,rfl,st_c rfl (st_c rfl (st_c rfl (st_c rfl (st_c trivial (st_c trivial (st_n))))))⟩)) (ob_m rfl rfl rfl rfl (fun d wq hM hF=>m_muV (a:=b.1) (c:=(d,b.2.2)) (mm:=im2) (enc:=p_) (k:=.u64) (L' := (Zem d b.2.2 b.2.1 x ub verts edges s (some s.mb) (mapT s.mb z .u64 p_ s.im x (some b)) dn l e f j (some g) g (mput im2 b.1 (d,b.2.2)) dn2 m o u)) 11 rfl rfl rfl rfl ym yg hM rfl rfl (fun _ h=>⟨d,⟨h,trivial⟩,rfl,Stab.refl _ _ _⟩)) ?_)
     exact ob_n
   rintro d aS V -
   refine pQQ tt none V 1 ?_
   refine tN (?_)
   have aA:=yj [1,6,0,2,3,4,5,7,8,9,10,11,12,13,14] V
   have aB:=((St.rowN' f_ aA).consFam (p:=b)).famPerm (zau (l₁:=[_]))
   have aC:=yj [1,11,0,2,3,4,5,6,7,8,9,10,12,13] aB
   have aD:=((St.rowN' f_ aC).consFam (p:=(b.1,(d,b.2.2)))).famPerm (zau (l₁:=[_]))
   have aE:=yj [3,4,5,2,1,6,7,8,9,10,0,11,12] aD
   exact again ((dn++[b]),x,(dn2++[(b.1,(d,b.2.2))]),(mput im2 b.1 (d,b.2.2)),(some b)) ⟨rfl,rfl,trivial⟩ (⟨aE,hC7.next hU.keys B.perm d⟩) (by have h7:=B.perm.length_eq;rw[zk]at h7;show x.length<td.length;omega)
end
section
open Go Go.Sx
theorem gdE4:ya.eqGuardType ya.depth 96=false:=by kernel_rfl
theorem wfrom_ok(c:WC)(w:World)(w1:1<=c.win)(wi:c.win<=1000000)(e1:1<=c.edges)(en:c.edges<=16384)(v2:2<=c.verts)(vn:c.verts<=4096)(d0:0<=c.draws/\c.draws<=16384) :
 CR ya 19 #[(Zay c.win c.edges c.verts c.draws),Zaz] w (fun r w' => ∃ (wb:Nat) (s:WW),r = .tuple (Zae wb)/\(s.now=0/\s.added=0/\∀ y,¬ s.u.has y)/\Turn (allR []) w w' (WW.R c wb s)):=by
 refine enter Tryz.func19 rfl Tryz.ntmps19 rfl ?_
 have hst0:=yaf w
 refine pPL hst0 2 ?_
 refine bx (v:=(Zay c.win c.edges c.verts c.draws)) (cs:=(Za6 c.win c.edges c.verts c.draws)) rfl rfl rfl hst0 (fun O x P Q j=>pLL j 8 ?_)
 refine cl ent37 (wcfg_ok ⟨c.win,(c.edges:Int),(c.verts:Int),c.draws⟩ x w1 (by show _/\_;dsimp only;omega) (by show _/\_;dsimp only;omega) d0) ?_
 rintro _ S ⟨rfl,z⟩
 have k:=yaa j z
 refine pLL k 8 ?_
 refine al (cs:=Zbj) rfl ti96 rfl k (fun U V W X l=>pLL l 7 ?_)
 refine bld (pvs:=[(0,(Zay c.win c.edges c.verts c.draws)),(5,Zaz),(6,Zaz)]) (v:=.agg (Zdx c.win c.edges c.verts c.draws)) rfl rfl (buildS [(0,(Za6 c.win c.edges c.verts c.draws)),(5,Zbp),(6,Zbp)] ti83 pl83 rfl ⟨rfl,rfl,rfl,rfl,rfl,rfl,trivial⟩ rfl) (bx (v:=(.agg (Zdx c.win c.edges c.verts c.draws))) (cs:=[(Za c.win),(Za c.edges),(Za c.verts),(Za c.draws),Z6,Z6,Z6,Z6,Zaz,Zaz]) rfl rfl rfl l (fun m A Y Z n=>pLL n 8 ?_))
 refine cl ent38 (cnew_ok c.win A w1) ?_
 rintro _ aa ⟨a,rfl,ht⟩
 have B:=(ya9 n ht)
 refine sLL B 18 fun C D=>?_
 refine cl ent39 (ufrom_ok c.verts c.edges C vn en) ?_
 rintro _ ab ⟨b,o,rfl,d,ht⟩
 have E:=(ya9 D ht)
 refine sLL E 15 fun G H=>?_
 refine cl ent40 (snew_ok c.edges G o_) ?_
 rintro _ ac ⟨e,f,q,rfl,I,ht⟩
 have J:=(ya9 H ht)
 refine sLL J 17 fun K L=>?_
 refine cl ent41 (gnew_ok c.verts c.edges K v2 vn en) ?_
 rintro _ ad ⟨h,i,rfl,ht⟩
 have M:=(ya9 L ht)
 refine sLL M 14 fun ae t=>?_
 refine bld (pvs:=[]) (v:=.agg #[Zc,Zc,Zc,Zc]) rfl rfl (buildA [] ti96 Tryz.underlying96 ti46 rfl trivial rfl s_) (neArr (c:=false) rfl rfl rfl Tryz.underlying96 Tryz.underlying46 ti46 gdE4 rfl (pLQ t 13 ?_))
 refine ret2 (v:=(Zb m)) (v' := Zc) Tryz.results19 rfl rfl ?_
 have N:=yj [4,3,2,1,0] t
 have hok9:=WW.new_ok w1 wi e1 en v2 vn (g:=i) d.1 d.2 I a b e f h
 exact⟨m,(⟨a,b,e,f,h,0,q,o,i,0,0⟩:WW),rfl,⟨rfl,rfl,d.1⟩,St.endMade (yw (p:=WW.ok c (⟨a,b,e,f,h,0,q,o,i,0,0⟩:WW)) (yc [_,_,_,_,_] _ N) hok9) s_⟩
theorem wnew2_ok(c:WC)(w:World)(w1:1<=c.win)(wi:c.win<=1000000)(e1:1<=c.edges)(en:c.edges<=16384)(v2:2<=c.verts)(vn:c.verts<=4096)(d0:0<=c.draws/\c.draws<=16384) :
 CR ya 11 (Zda c.win c.edges c.verts c.draws) w (fun r w' => ∃ (wb:Nat) (s:WW),r = .tuple (Zae wb)/\(s.now=0/\s.added=0/\∀ y,¬ s.u.has y)/\Turn (allR []) w w' (WW.R c wb s)):=by
 refine enter Tryz.func11 rfl Tryz.ntmps11 rfl ?_
 have hst0:=yaf w
 refine pPL hst0 2 ?_
 refine bx (v:=(Zay c.win c.edges c.verts c.draws)) (cs:=(Za6 c.win c.edges c.verts c.draws)) rfl rfl rfl hst0 (fun h e i j a=>pLL a 7 ?_)
 refine cl ent19 (wfrom_ok c e w1 wi e1 en v2 vn d0) ?_
 rintro _ k ⟨b,f,rfl,g,ht⟩
 have d:=(ya9 a ht)
 refine pLQ d 7 ?_
 refine ret2 (v:=(Zb b)) (v' := Zc) Tryz.results11 rfl rfl ?_
 exact⟨b,f,rfl,g,St.eM d⟩
end
section
open Go Go.Sx
end
end Go.Proofs.YtdopagghhibopaaGreat
namespace Go.Proofs
open Go.Shelf Go.Lib Go.Sort Go.RowKit in
def Tryz.sortLv_ren:Go.Shelf.Ren:=⟨fun|6=>59|15=>117|14=>116|28=>174|29=>175|20=>166|21=>167|22=>168|23=>169|24=>170|25=>171|26=>172|27=>173|46=>210|47=>211|48=>212|49=>213|50=>214|57=>236|n=>n,fun|22=>25|24=>34|25=>134|3=>3|39=>209|0=>0|53=>296|55=>30|4=>4|46=>290|45=>289|50=>120|5=>5|9=>9|66=>331|70=>334|76=>348|77=>349|n=>n,fun|n=>n⟩
open Go.Shelf Go.Lib Go.Sort Go.RowKit in
theorem Tryz.sortLv:Go.Proofs.SlLaysF0.n6 Proofs.Tryz.prog Tryz.sortLv_ren where
 mixed:=by kernel_rfl
 f6:=⟨Proofs.Tryz.f59.name,by(decide),Proofs.Tryz.func59.trans (congrArg some<|by kernel_rfl)⟩
 f14:=⟨Proofs.Tryz.f116.name,by(decide),Proofs.Tryz.func116.trans (congrArg some<|by kernel_rfl)⟩
 f15:=Proofs.Tryz.func117.trans (congrArg some<|by kernel_rfl)
 f20:=⟨Proofs.Tryz.f166.name,by(decide),Proofs.Tryz.func166.trans (congrArg some<|by kernel_rfl)⟩
 f21:=⟨Proofs.Tryz.f167.name,by(decide),Proofs.Tryz.func167.trans (congrArg some<|by kernel_rfl)⟩
 f22:=⟨Proofs.Tryz.f168.name,by(decide),Proofs.Tryz.func168.trans (congrArg some<|by kernel_rfl)⟩
 f23:=⟨Proofs.Tryz.f169.name,by(decide),Proofs.Tryz.func169.trans (congrArg some<|by kernel_rfl)⟩
 f24:=⟨Proofs.Tryz.f170.name,by(decide),Proofs.Tryz.func170.trans (congrArg some<|by kernel_rfl)⟩
 f25:=⟨Proofs.Tryz.f171.name,by(decide),Proofs.Tryz.func171.trans (congrArg some<|by kernel_rfl)⟩
 f26:=⟨Proofs.Tryz.f172.name,by(decide),Proofs.Tryz.func172.trans (congrArg some<|by kernel_rfl)⟩
 f27:=⟨Proofs.Tryz.f173.name,by(decide),Proofs.Tryz.func173.trans (congrArg some<|by kernel_rfl)⟩
 f28:=Proofs.Tryz.func174.trans (congrArg some<|by kernel_rfl)
 f29:=Proofs.Tryz.func175.trans (congrArg some<|by kernel_rfl)
 f46:=⟨Proofs.Tryz.f210.name,by(decide),Proofs.Tryz.func210.trans (congrArg some<|by kernel_rfl)⟩
 f47:=Proofs.Tryz.func211.trans (congrArg some<|by kernel_rfl)
 f48:=Proofs.Tryz.func212.trans (congrArg some<|by kernel_rfl)
 f49:=⟨Proofs.Tryz.f213.name,by(decide),Proofs.Tryz.func213.trans (congrArg some<|by kernel_rfl)⟩
 f50:=⟨Proofs.Tryz.f214.name,by(decide),Proofs.Tryz.func214.trans (congrArg some<|by kernel_rfl)⟩
 f57:=⟨Proofs.Tryz.f236.name,by(decide),Proofs.Tryz.func236.trans (congrArg some<|by kernel_rfl)⟩
 t0:=Proofs.Tryz.underlying0
 a0:=Proofs.Tryz.isAgg0
 z0:=Proofs.Tryz.sizeOf0
 v0:=Proofs.Tryz.zeroValue0
 t3:=Proofs.Tryz.underlying3
 a3:=Proofs.Tryz.isAgg3
 z3:=Proofs.Tryz.sizeOf3
 v3:=Proofs.Tryz.zeroValue3
 t4:=Proofs.Tryz.underlying4
 a4:=Proofs.Tryz.isAgg4
 z4:=Proofs.Tryz.sizeOf4
 v4:=Proofs.Tryz.zeroValue4
 t5:=Proofs.Tryz.underlying5
 a5:=Proofs.Tryz.isAgg5
 z5:=Proofs.Tryz.sizeOf5
 v5:=Proofs.Tryz.zeroValue5
 t9:=Proofs.Tryz.underlying9
 a9:=Proofs.Tryz.isAgg9
 z9:=Proofs.Tryz.sizeOf9
 v9:=Proofs.Tryz.zeroValue9
 t22:=Proofs.Tryz.underlying25
 a22:=Proofs.Tryz.isAgg25
 z22:=Proofs.Tryz.sizeOf25
 v22:=Proofs.Tryz.zeroValue25
 t25:=Proofs.Tryz.underlying134
 a25:=Proofs.Tryz.isAgg134
 z25:=Proofs.Tryz.sizeOf134
 v25:=Proofs.Tryz.zeroValue134
 t39:=Proofs.Tryz.underlying209
 a39:=Proofs.Tryz.isAgg209
 z39:=Proofs.Tryz.sizeOf209
 v39:=Proofs.Tryz.zeroValue209
 t45:=Proofs.Tryz.underlying289
 a45:=Proofs.Tryz.isAgg289
 z45:=Proofs.Tryz.sizeOf289
 v45:=Proofs.Tryz.zeroValue289
 t46:=Proofs.Tryz.underlying290
 a46:=Proofs.Tryz.isAgg290
 z46:=Proofs.Tryz.sizeOf290
 v46:=Proofs.Tryz.zeroValue290
 t50:=Proofs.Tryz.underlying120
 a50:=Proofs.Tryz.isAgg120
 z50:=Proofs.Tryz.sizeOf120
 v50:=Proofs.Tryz.zeroValue120
 t53:=Proofs.Tryz.underlying296
 a53:=Proofs.Tryz.isAgg296
 z53:=Proofs.Tryz.sizeOf296
 v53:=Proofs.Tryz.zeroValue296
 t55:=Proofs.Tryz.underlying30
 a55:=Proofs.Tryz.isAgg30
 z55:=Proofs.Tryz.sizeOf30
 v55:=Proofs.Tryz.zeroValue30
 t66:=Proofs.Tryz.underlying331
 a66:=Proofs.Tryz.isAgg331
 z66:=Proofs.Tryz.sizeOf331
 v66:=Proofs.Tryz.zeroValue331
 t70:=Proofs.Tryz.underlying334
 a70:=Proofs.Tryz.isAgg334
 z70:=Proofs.Tryz.sizeOf334
 v70:=Proofs.Tryz.zeroValue334
 t76:=Proofs.Tryz.underlying348
 a76:=Proofs.Tryz.isAgg348
 z76:=Proofs.Tryz.sizeOf348
 v76:=Proofs.Tryz.zeroValue348
 t77:=Proofs.Tryz.underlying349
 a77:=Proofs.Tryz.isAgg349
 z77:=Proofs.Tryz.sizeOf349
 v77:=Proofs.Tryz.zeroValue349
end Go.Proofs
namespace Go.Proofs.YtdopagghhibopaaGreat
section
open Go Go.Sx Go.Lib Go.Sort Go.RowKit
theorem nanU(x:Int)(w:World):Calls ya 118 #[.int .u64 x] w fun e w' => e = .returned Zp/\w' = w:=by
 go_enter Tryz.func118,Tryz.ntmps118
 go_wp2
 go_ret
 exact⟨s_,rfl⟩
theorem cmpU(x y:Int)(w:World):Calls ya 61 (Zbf x y) w fun e w' => e = .returned (Za (compareInt x y))/\w' = w:=by
 go_enter Tryz.func61,Tryz.ntmps61
 go_wp2_with (go_at_call 118;refine(nanU _ _).mono ?_;rintro e w' ⟨rfl,hw⟩;rw[hw])
 all_goals (go_ret;refine⟨?_,rfl⟩;unfold compareInt;(repeat' split)<;>first|rfl|(exfalso;omega))
def seqC(x y:Lv):Int:=compareInt x.seq y.seq
theorem closL(x y:Lv)(W:World):Calls ya 60 #[.agg x.cells.toArray,.agg y.cells.toArray] W fun e w' => e = .returned (Za (seqC x y))/\∃ q os', w' = grow (W.drewN q) os' := by
 have hcon:=fun W' => cmpU x.seq y.seq W'
 unfold seqC
 generalize compareInt x.seq y.seq=r at hcon ⊢
 obtain⟨x1,x2,x3,x4,x5,x6,x7⟩:=x
 obtain⟨y1,y2,y3,y4,y5,y6,y7⟩:=y
 simp only[Lv.cells]at hcon ⊢
 go_enter Tryz.func60,Tryz.ntmps60
 go_wp2_with (go_at_call 61;refine(hcon _).mono ?_;rintro e w' ⟨rfl,rfl⟩)
 go_ret
 exact⟨rfl,0,_,by rw[alloc_eq_grow,alloc_eq_grow,grow_grow];rfl⟩
theorem ltSeq(x y:Lv):ltOf seqC x y=decide (x.seq<y.seq):=by
 unfold ltOf seqC compareInt
 by_cases h1:x.seq<y.seq
 . simp[h1]
 . by_cases h2:y.seq<x.seq<;>simp[h1,h2]
theorem swoSeq:SWO (ltOf seqC) where
 irrefl x:=by rw[ltSeq];simp
 trans x y z h1 h2:=by rw[ltSeq]at *;simp at *;omega
 ntrans x y z h1 h2:=by rw[ltSeq]at *;simp at *;omega
theorem sortL_ok(v:Value)(xs:List Lv)(w:World)(hO:Own (Zca v xs) w)(hl:xs.length<=1000000) :
 CR ya 59 #[v,.func (.func 60) #[] #[]] w (fun r w' => ∃ ys:List Lv,r = .tuple #[]/\(ys.Perm xs/\ys.Pairwise fun a b=>a.seq<=b.seq)/\Turn (Zca v xs) w w' (Zca v ys)):=by
 refine CR.mono (sort_row (cf:=Lv.cells) (k:=7) (xs:=xs) (lt:=ltOf seqC) f_ d_ hO o_ (AnyF.slices_SortFunc_none (P:=ya) Tryz.sortLv none 0 _ w) fun blk cap d hH hb hsz=>?_) ?_
 . exact AnyQ.slices_SortFunc (P:=ya) Tryz.sortLv 7 Tryz.isAgg34 Tryz.sizeOf34 Lv.cells f_ (fun x v hv=>by simp[Lv.cells]at hv;rcases hv with rfl|rfl|rfl|rfl|rfl|rfl|rfl<;>rfl) seqC swoSeq 60 #[] blk 0 cap d w (enters_of Tryz.func60 k_ rfl) (fun _ _ _ _ x y=>closL x y _) hH hb hsz
 . rintro r w' ⟨rfl,ys,h1,h2,ht⟩
   exact⟨ys,rfl,⟨h1,h2.imp fun {a b} h=>by rw[ltSeq]at h;simpa using h⟩,ht⟩
end
section
open Go Go.Sx
theorem wlist_ok(ab:Nat)(v:AW)(w:World)(hO:Own (AW.R ab v) w) :
 CR ya 58 (Zk ab) w (fun r w' => ∃ lv,r=lv/\Turn (AW.R ab v) w w' (allR [AW.R ab v,rowR ncf lv 3 1 (v.A.list v.A.begun)])):=by
 refine CR.mono (alist_ok ab v.bv v.A w hO.un hO.fact) fun r w' ⟨lv,h1,ht⟩=>⟨lv,h1,?_⟩
 refine((Turn.flat2 (A:=(Zbi ab v.bv v.A)) (B:=[rowI .i64 lv 3 (natsI (v.A.list v.A.begun))]) ht).unL.mapR (by have e:∀ l:List Nat,l++[]=l:=zal;simp only[AW.R,facR,allR,feet,zac,List.flatMap_nil,e];rfl) fun h=>?_)
 intro Q hQ
 simp only[ze,zba,or_false]at hQ
 rcases hQ with rfl|rfl
 . exact⟨hO.fact,h _ s_⟩
 . rw[rowN_eq f_]
   exact h _ (zag _ zh) _ s_
theorem ulist_ok(verts edges ub:Nat)(s:Sto)(w:World)(hO:Own (Sto.R verts edges ub s) w) :
 CR ya 26 (Zk ub) w (fun r w' => ∃ (v:Value) (ys:List Lv),r=v/\s.Lst ys/\Turn (Sto.R verts edges ub s) w w' (allR [(Sto.R verts edges ub s),rowR Lv.cells v 34 7 ys])):=by
 have htu:s.t.A.used<=s.t.A.n:=hO.fact.tok.ul
 have hUn:=hO.fact.n
 have hUt:=hO.fact.tn
 have hUe:=hO.fact.en
 have hUv:=hO.fact.vn
 have hAu:s.A.used<=s.A.begun:=by have h7:=hO.fact.aok.used;omega
 have hAl:=hO.fact.aok.le
 have hll:s.live.length=s.A.begun:=hO.fact.ll
 have hLl:(s.A.list s.A.begun).length=s.A.used:=hO.fact.aok.list_used
 have hAn:s.A.n=edges:=hUn
 refine en Tryz.func26 Tryz.ntmps26 ?_
 have hst0:=Own.of hO.un
 have hU:s.ok verts edges:=hO.fact
 have e:=yw (p:=s.ok verts edges) (yc [_,_,_,_,_,_] _ hst0) hU
 refine pPL hst0 9 ?_
 refine cl ent57 (uvalid_ok verts edges ub s w (yd e (i:=0) rfl)) ?_
 rintro _ l ⟨rfl,ht⟩
 have o:=yu 0 e ht
 have b:=(yav o).unpack
 refine pLL b 18 ?_
 refine cl ent58 (wlist_ok s.aab s.aw l (yd b (i:=4) rfl)) ?_
 rintro a q ⟨_,rfl,ht⟩
 have u:=yj [4,0,1,2,3,5] b
 have c:=yan (yu 0 u ht)
 refine lenR (m:=(s.A.list s.A.begun).length) 1 rfl rfl yh c rfl ?_
 have y:St _ [rowR Lv.cells Zl 34 7 (((s.A.list s.A.begun).take 0).map (ndA s.live)),(Zau s),rowR ncf a 3 1 (s.A.list s.A.begun),blk ub 130 (Zaa verts edges s (some s.mb)),rowR Lv.cells s.lv 34 7 s.live,mapV s.mb .u64 p_ s.im,famR 3 s.im,(Z9 s)] q:=ybd c 34 7
 have z:=yj [3,4,5,6,1,7,2,0] y
 refine pLP c 4 ?_
 refine lp (α:=Nat×Value) (fun(k,xv)=>[(0,(Zb ub)),(3,xv),(13,a),(14,(Za ((s.A.list s.A.begun).length:Int))),(15,(Za k))]) (fun(k,xv) w1=>St [(w,(Sto.R verts edges ub s).foot)] [blk ub 130 (Zaa verts edges s (some s.mb)),rowR Lv.cells s.lv 34 7 s.live,mapV s.mb .u64 p_ s.im,famR 3 s.im,(Zau s),(Z9 s),rowR ncf a 3 1 (s.A.list s.A.begun),rowR Lv.cells xv 34 7 (((s.A.list s.A.begun).take k).map (ndA s.live))] w1/\k<=(s.A.list s.A.begun).length) (fun(k,xv)=>(s.A.list s.A.begun).length-k) (0,Zl) ⟨rfl,rfl,rfl,rfl,eqI (by first|rfl|omega),trivial⟩ (⟨z,o_⟩) ?_
 rintro⟨k,xv⟩ H B ⟨hst2,hk2⟩
 refine pPL hst2 2 ?_
 by_cases I:((k:Int):Int)<(((s.A.list s.A.begun).length:Int):Int)
 . have hkl:k<(s.A.list s.A.begun).length:=by omega
   have hil:ndA (s.A.list s.A.begun) k<s.live.length:=by rw[hll];exact((hU.aok.mem_list _).1 (mem_nd.2 ⟨k,hkl,rfl⟩)).1
   refine pLL hst2 11 ?_
   refine ixR (cf:=ncf) (k:=k) (i:=(k:Int)) rfl rfl rfl yh ti3 (yf hst2 (i:=6) rfl f_) o_ o_ (nd_get om) (ldR (cf:=ncf) rfl rfl ye rfl (yf hst2 (i:=6) rfl f_) (nd_get om) rfl (pLL hst2 10 ?_))
   refine ixR (cf:=Lv.cells) (k:=(ndA (s.A.list s.A.begun) k)) (i:=(((ndA (s.A.list s.A.begun) k):Nat):Int)) rfl rfl rfl y0 ti34 (yf hst2 (i:=1) rfl f_) o_ o_ (nd_get om) (ldRA (cf:=Lv.cells) (cs:=(Zr (ndA s.live (ndA (s.A.list s.A.begun) k)))) rfl rfl yy rfl ti34 (yf hst2 (i:=1) rfl f_) (nd_get om) rfl rfl (bsv (vs:=[(Zan (ndA s.live (ndA (s.A.list s.A.begun) k)))]) (cs:=(Zr (ndA s.live (ndA (s.A.list s.A.begun) k)))) rfl rfl y0 ti34 rfl (by simp[Value.cells]) rfl rfl rfl hst2 (fun C J K L f=>apdR (cf:=Lv.cells) (ys:=(((s.A.list s.A.begun).take k).map (ndA s.live))) (zs:=[(ndA s.live (ndA (s.A.list s.A.begun) k))]) (LL:=fun d=>[row (Zv C) 34 7 1 ((Zr (ndA s.live (ndA (s.A.list s.A.begun) k)))),blk ub 130 (Zaa verts edges s (some s.mb)),rowR Lv.cells s.lv 34 7 s.live,mapV s.mb .u64 p_ s.im,famR 3 s.im,(Zau s),(Z9 s),rowR ncf a 3 1 (s.A.list s.A.begun),rowR Lv.cells d 34 7 ((((s.A.list s.A.begun).take k).map (ndA s.live))++[(ndA s.live (ndA (s.A.list s.A.begun) k))])]) 8 rfl rfl rfl y0 ti34 rfl d_ f rfl (yaq f (i:=0) rfl) (fun x hx=>zz.1 (show List.all _ _=true from rfl) x hx) (by simp only[zo,zk,zq,zu,zaj,maxLen];omega) (by simp only[zo,zk,zq,zu,zaj,maxLen];omega) f_ ?_)))
   intro d M D N
   have g:=yj [1,2,3,4,5,6,7,8] D
   refine pLQ g 8 ?_
   refine tN (?_)
   exact again ((k+1),d) ⟨rfl,rfl,rfl,rfl,eqI (by first|rfl|omega),trivial⟩ (⟨by rw[takeM_succ _ hkl];exact g,o_⟩) (by show ((s.A.list s.A.begun).length-(k+1):Nat)<(s.A.list s.A.begun).length-k;omega)
 . refine pLL hst2 13 ?_
   refine cl ent59 (sortL_ok xv (((s.A.list s.A.begun).take k).map (ndA s.live)) B (yd hst2 (i:=7) rfl) (by rw[zu,zaj];omega)) ?_
   rintro _ O ⟨E,rfl,h,ht⟩
   have j:=yu 7 hst2 ht
   refine pLQ j 9 ?_
   refine ret1 (v:=xv) Tryz.results26 rfl ?_
   have G:=yj [0,1,2,3,4,5,7,6] j
   have hke:k=(s.A.list s.A.begun).length:=by omega
   subst hke
   have hl9:=Sto.lst_of hU (by have h7:=h.1;rwa [zdf]at h7) h.2
   have hp1:=yw (p:=Sto.ok verts edges s) (yc [_,_,_,_,_,_] _ G) hU
   exact⟨xv,E,rfl,hl9,yq (yc [_,_] _ hp1)⟩
end
section
open Go Go.Sx
theorem own_tA{verts edges ub:Nat}{s:Sto}{w:World}(h:Own (Sto.R verts edges ub s) w):s.t.A.ok :=
 (yac (Own.of (yd (Own.of h.un) (i:=5) rfl).un) (i:=3) rfl:s.t.w.A.ok)
theorem sdueN_ok(sb hb n:Nat)(s:QS)(w:World)(hO:Own (QS.SR sb hb n s) w)(now:Int)(hn:n<=65536) :
 CR ya 48 (Zn sb now) w (fun r w' => ∃ v ds t,v=r/\Dued n s t ds now/\Turn (QS.SR sb hb n s) w w' (allR [QS.SR sb hb n t,rowR ncf v 3 1 ds])):=by
 refine CR.mono (sdue_ok sb hb n s w hO now hn) fun r w' ⟨v,ds,t,h1,h2,ht⟩=>⟨v,ds,t,h1.symm,h2,?_⟩
 rw[rowN_eq f_]
 exact ht
theorem cadv0_ok(cb:Nat)(win now:Int)(w:World)(hO:Own (Zs cb win now) w)(h1:1<=win)(hwin:InK .i64 win)(t:Int)(htt:InK .i64 t)(h2:now<=t)(h3 : -9223372036854775808<=t+win/\t+win<=9223372036854775807) :
 CR ya 50 (Zn cb t) w (fun r w' => r = .int .i64 0/\Turn (Zs cb win now) w w' (Zs cb win t)):=by
 have h:=cadvance_ok cb win now w hO h1 hwin t htt
 rw[chkV_ok h2 h3,if_pos rfl]at h
 exact h
theorem wtick_ok(c:WC)(wb:Nat)(s:WW)(w:World)(hO:Own (WW.R c wb s) w)(T:Int)(hT:s.now<=T)(hT2:T<=1000000) :
 CR ya 23 (Zn wb T) w (fun r w' => ∃ (s2:WW),r = .int .i64 0/\(s2.now=T/\s2.added=s.added/\(∀ y,s2.u.has y↔s.u.has y/\T<y.exp)/\s2.u.last=s.u.last)/\Turn (WW.R c wb s) w w' (WW.R c wb s2)):=by
 refine en Tryz.func23 Tryz.ntmps23 ?_
 have hst0:=Own.of hO.un
 have hW:s.ok c:=hO.fact
 have hw1:=hW.w1
 have hw2:=hW.wi
 have hw3:=hW.n0
 have hw4:=hW.n1
 have huok:Sto.ok c.verts c.edges s.u:=(yac hst0 (i:=2) rfl)
 have hwen:=hW.en
 have hwe1:=hW.e1
 have hwv2:=hW.v2
 have hwvn:=hW.vn
 have hwa0:=hW.a0
 have hwa1:=hW.a1
 have hwla:=hW.la
 have hwl0:=huok.last0
 have n:=yw (p:=s.ok c) (yc [_,_,_,_,_] _ hst0) hW
 refine pPL hst0 9 ?_
 refine cl ent20 (wvalid_ok c wb s w (yd n (i:=0) rfl)) ?_
 rintro _ z ⟨rfl,ht⟩
 have A:=yu 0 n ht
 have f:=(yav A).unpack
 refine pLL f 14 ?_
 refine cl ent50 (cadv0_ok s.cb c.win s.now z (yd f (i:=1) rfl) hw1 (inkI o_) T (inkI o_) hT o_) ?_
 rintro _ B ⟨rfl,ht⟩
 have h:=yu 1 f ht
 refine pLL h 20 ?_
 refine cl ent48 (sdueN_ok s.sb s.hb c.edges s.q B (yd h (i:=3) rfl) T o_) ?_
 rintro _ K ⟨o,a,j,rfl,b,ht⟩
 have C:=yj [3,0,1,2,4] h
 have l:=yan (yu 0 C ht)
 have hdl:a.length<=c.edges:=b.len
 refine lenR (m:=a.length) 1 rfl rfl yh l rfl ?_
 have D:=yj [2,3,4,0,5,1] l
 refine pLP l 4 ?_
 refine lp (α:=Nat×Sto×GW×Int) (fun(k,u2,g2,ex)=>[(0,(Zb wb)),(25,o),(26,(Za a.length)),(27,(Za k))]) (fun(k,u2,g2,ex) w1=>St [(w,(WW.R c wb s).foot)] [blk wb 83 [(Za c.win),(Za c.edges),(Za c.verts),(Za c.draws),(Zb s.cb),(Zb s.ub),(Zb s.sb),(Zb s.ob),(Ze s.added),(Ze ex)],(Zs s.cb c.win T),(Sto.R c.verts c.edges s.ub u2),(QS.SR s.sb s.hb c.edges j),(GW.R c.verts c.edges s.ob g2),rowR ncf o 3 1 a] w1/\Rem s.u u2 (a.take k)/\InK .u64 ex/\k<=a.length) (fun(k,u2,g2,ex)=>a.length-k) (0,s.u,s.g,s.expired) ⟨rfl,rfl,rfl,eqI (by first|rfl|omega),trivial⟩ (⟨D,Rem.start _,hW.ex,o_⟩) ?_
 rintro⟨k,u2,g2,ex⟩ L E ⟨hst3,hR,hex,hk3⟩
 refine pPL hst3 2 ?_
 by_cases M:((k:Int):Int)<((a.length:Int):Int)
 . have hkl:k<a.length:=by omega
   refine pLL hst3 11 ?_
   refine ixR (cf:=ncf) (k:=k) (i:=(k:Int)) rfl rfl rfl yh ti3 (yf hst3 (i:=5) rfl f_) o_ o_ (nd_get om) (ldR (cf:=ncf) rfl rfl ye rfl (yf hst3 (i:=5) rfl f_) (nd_get om) rfl (pLL hst3 9 ?_))
   refine cl ent51 (gexpire_ok c.verts c.edges s.ob g2 E (yd hst3 (i:=4) rfl)) ?_
   rintro _ G ⟨H,N,O,rfl,ht⟩
   have d:=yu 4 hst3 ht
   have hu29:=(yac d (i:=2) rfl:Sto.ok c.verts c.edges u2)
   have hcan:=Rem.can hR hW.sch hu29 b (nd_get hkl)
   refine pLL d 9 ?_
   refine cl ent49 (uremove_ok c.verts c.edges s.ub u2 G (yd d (i:=2) rfl) (ndA a k) hcan) ?_
   rintro _ P ⟨I,rfl,t,ht⟩
   have x:=yu 2 d ht
   refine pLL x 7 ?_
   refine ar (e:=IntKind.u64.wrap (ex+1)) rfl rfl rfl rfl rfl (sLQ x 10 fun Q J=>?_)
   refine tN (?_)
   exact again ((k+1),I,H,IntKind.u64.wrap (ex+1)) ⟨rfl,rfl,rfl,eqI (by first|rfl|omega),trivial⟩ (⟨J,by rw[zbz,nd_get hkl];exact hR.next t.1 t.2,inU_wrap _,o_⟩) (by show (a.length-(k+1):Nat)<a.length-k;omega)
 . refine pLQ hst3 16 ?_
   refine ret1 (v:=Zc) Tryz.results23 rfl ?_
   have hke:k=a.length:=by omega
   rw[hke,zdf]at hR
   have hfin:=hR.fin hW.sch huok b
   have hok9:=hW.tick hT hT2 hex b hfin hR.last (g2:=g2)
   exact⟨(⟨s.cb,s.ub,s.sb,s.hb,s.ob,T,j,u2,g2,s.added,ex⟩:WW),rfl,⟨rfl,rfl,hfin,hR.last⟩,yv (yw (p:=WW.ok c (⟨s.cb,s.ub,s.sb,s.hb,s.ob,T,j,u2,g2,s.added,ex⟩:WW)) (yc [_,_,_,_,_] _ hst3) hok9) zh⟩
end
section
open Go Go.Sx
theorem cexp0_ok(cb:Nat)(win now:Int)(w:World)(hO:Own (Zs cb win now) w)(h1:1<=win)(hwin:InK .i64 win)(t:Int)(htt:InK .i64 t)(h3 : -9223372036854775808<=t+win/\t+win<=9223372036854775807) :
 CR ya 52 (Zn cb t) w (fun r w' => r = .tuple (Za8 (t+win))/\Turn (Zs cb win now) w w' (Zs cb win now)):=by
 have h:=cexpiry_ok cb win now w hO h1 hwin t htt
 rw[addV_ok h3]at h
 exact h
abbrev prl24_2:List (List Nat):=[[],[0],[0,1],[0,1,2],[],[],[0,1,2,3,4,5],[0,1,2,3,4,5,6],[0,1,2,3,4,5,6,7],[0,1,2,3,4,5,6,7],[],[0,1,2,3,4,5,6,7,8,10],[0,1,2,3,4,5,6,7,8,9,10,11]]
theorem winsert_ok(c:WC)(wb:Nat)(s:WW)(w:World)(hO:Own (WW.R c wb s) w)(x:Lv)(hxo:x.ok)(hxt:x.t=s.now)(hc:s.u.chk c.verts c.edges x.u x.v=0)(ha:s.added<1000000) :
 CR ya 24 (Zbn wb x) w (fun r w' => ∃ (s2:WW),r = .tuple #[]/\(s2.now=s.now/\s2.added=s.added+1/\∀ y,s2.u.has y->s.u.has y\/(y.u=x.u/\y.v=x.v))/\Turn (WW.R c wb s) w w' (WW.R c wb s2)):=by
 refine en Tryz.func24 Tryz.ntmps24 ?_
 have hst0:=Own.of hO.un
 have hW:s.ok c:=hO.fact
 have hw1:=hW.w1
 have hw2:=hW.wi
 have hw3:=hW.n0
 have hw4:=hW.n1
 have huok:Sto.ok c.verts c.edges s.u:=(yac hst0 (i:=2) rfl)
 have hwen:=hW.en
 have hwe1:=hW.e1
 have hwv2:=hW.v2
 have hwvn:=hW.vn
 have hwa0:=hW.a0
 have hwa1:=hW.a1
 have hwla:=hW.la
 have hwl0:=huok.last0
 have hl9:s.u.last<=9000000000000000000:=by omega
 have hxt9:=hxt
 have hxe:Lv.ok (Lv.mk x.slot x.seq x.u x.v x.wt x.t (x.t+c.win)):=⟨hxo.slot,hxo.seq,hxo.u,hxo.v,hxo.wt,hxo.t,inkI (by show _/\_;dsimp only;omega)⟩
 refine pPL hst0 2 ?_
 refine bx (v:=(Zam x)) (cs:=(Zo x)) rfl rfl rfl hst0 (fun f aa ab ac D=>pLP D 3 ?_)
 refine dr1 D 6 ?_
 intro wq hM
 refine mcl rfl rfl (clF_r rfl ent52) (cexp0_ok s.cb c.win s.now wq (yd hM (i:=2) rfl) hw1 (inkI o_) x.t hxo.t o_) ?_
 rintro _ _ ⟨rfl,ht1⟩
 refine aft (yu 2 hM ht1) (fun ad Q=>?_)
 have E:=yj [2,0,1,3,4,5] Q
 refine pQP tt none E 2 ?_
 refine rgs2 (Γ:=Nat×Sto×Nat) mixed prl24_2 [6,10,11] k_ [fun(a,b,d)=>(Zb wb),fun(a,b,d)=>(Zb wb),fun(a,b,d)=>(.pointer (some ⟨wb,5,none⟩)),fun(a,b,d)=>(Zb s.ub),fun(a,b,d)=>(Zam x),fun(a,b,d)=>(Za (x.t+c.win)),fun(a,b,d)=>(Zb5 ((a:Nat):Int) (s.u.last+1) x (x.t+c.win)),fun(a,b,d)=>(Zb5 ((a:Nat):Int) (s.u.last+1) x (x.t+c.win)),fun(a,b,d)=>(Zea ((a:Nat):Int) (s.u.last+1) x (x.t+c.win)),fun(a,b,d)=>Zc,fun(a,b,d)=>(Zb d),fun(a,b,d)=>undef,fun(a,b,d)=>Zc] [([],(fun(a,b,d)=>[(Zap s c.win),blk f 32 (Zo x),blk wb 83 (Za0 c.win c.edges c.verts c.draws s),(Sto.R c.verts c.edges s.ub s.u),(Za5 s c.edges),(Zec c.verts c.edges s)],fun _ _=>True)),([6],(fun(a,b,d)=>[(Zap s c.win),blk f 32 (Zo x),blk wb 83 (Za0 c.win c.edges c.verts c.draws s),facR ((∀ y,Sto.has b y↔s.u.has y\/y=(⟨((a:Nat):Int),s.u.last+1,x.u,x.v,x.wt,x.t,x.t+c.win⟩:Lv))/\Sto.last b=s.u.last+1) (Sto.R c.verts c.edges s.ub b),(Za5 s c.edges),(Zec c.verts c.edges s)],fun _ _=>True)),([10],(fun(a,b,d)=>[blk d 34 Zt,(Zap s c.win),blk f 32 (Zo x),blk wb 83 (Za0 c.win c.edges c.verts c.draws s),(Sto.R c.verts c.edges s.ub s.u),(Za5 s c.edges),(Zec c.verts c.edges s)],fun _ _=>True)),([6,10],(fun(a,b,d)=>[blk d 34 Zt,(Zap s c.win),blk f 32 (Zo x),blk wb 83 (Za0 c.win c.edges c.verts c.draws s),facR ((∀ y,Sto.has b y↔s.u.has y\/y=(⟨((a:Nat):Int),s.u.last+1,x.u,x.v,x.wt,x.t,x.t+c.win⟩:Lv))/\Sto.last b=s.u.last+1) (Sto.R c.verts c.edges s.ub b),(Za5 s c.edges),(Zec c.verts c.edges s)],fun _ _=>True)),([6,10,11],(fun(a,b,d)=>(Zc7 d ((a:Nat):Int) (s.u.last+1) x (x.t+c.win) s c.win f wb c.edges c.verts c.draws ((∀ y,Sto.has b y↔s.u.has y\/y=(⟨((a:Nat):Int),s.u.last+1,x.u,x.v,x.wt,x.t,x.t+c.win⟩:Lv))/\Sto.last b=s.u.last+1) b),fun _ _=>True))] (0,s.u,0) (fun(a,b,d)=>(7,Zc) :: (6,(Zb d)) :: (31,Zc) :: (30,(Zea ((a:Nat):Int) (s.u.last+1) x (x.t+c.win))) :: (22,(Zb5 ((a:Nat):Int) (s.u.last+1) x (x.t+c.win))) :: (29,(Zb5 ((a:Nat):Int) (s.u.last+1) x (x.t+c.win))) :: (28,(Za (x.t+c.win))) :: (27,(Zam x)) :: (26,(Zb s.ub)) :: (25,(.pointer (some ⟨wb,5,none⟩))) :: (24,(Zb wb)) :: (23,(Zb wb)) :: _) rfl E (fun _ _=>trivial) ?_ (fun(a,b,d)=>rfl) rfl ?_
 . skip
   refine ob2_p rfl (fun(a,b,d) _ _=>qv rfl rfl (mv_r (v:=(Zb wb)) rfl)) (ob2_p rfl (fun(a,b,d) _ _=>qv rfl rfl (nilc_r rfl)) (ob2_p rfl (fun(a,b,d) _ _=>qv rfl rfl (fa_r (o' := 5) rfl ybp rfl ti79 rfl)) (ob2_q rfl ⟨(fun(a,b,d) wq hM hF=>qv rfl rfl (ld_r rfl ybq rfl (yo hM (i:=2) rfl rfl))),trivial,(fun(a,b,d) wq hM hF=>qv rfl rfl (ld_r rfl ybq rfl (yo hM (i:=3) rfl rfl))),trivial,trivial,trivial⟩ (ob2_q rfl ⟨(fun(a,b,d) wq hM hF=>qv rfl rfl (ldA_r (cs:=(Zo x)) rfl yal rfl ti32 rfl (yab hM (i:=1) (o:=0) (vs:=(Zo x)) rfl rfl))),trivial,(fun(a,b,d) wq hM hF=>qv rfl rfl (ldA_r (cs:=(Zo x)) rfl yal rfl ti32 rfl (yab hM (i:=2) (o:=0) (vs:=(Zo x)) rfl rfl))),trivial,trivial,trivial⟩ (ob2_p rfl (fun(a,b,d) _ _=>qv rfl rfl (mv_r (v:=(Za (x.t+c.win))) rfl)) (ob2_m rfl ⟨⟨_,_,rfl,fun(a,b,d) wq hM hF=>mcl rfl rfl (clF_r rfl ent53) (uinsert_ok c.verts c.edges s.ub s.u wq (yd hM (i:=3) rfl) (Lv.mk x.slot x.seq x.u x.v x.wt x.t (x.t+c.win)) hxe hc hl9) (fun _ _ hz=>by obtain⟨n,z,rfl,hF1,ht1⟩:=hz;exact⟨(n,z,d),⟨(yu 3 hM (ht1.witr hF1)),trivial⟩,rfl,st_c rfl (st_c rfl (st_c rfl (st_c rfl (st_c rfl (st_c rfl (st_c trivial (st_c trivial (st_c trivial (st_c trivial (st_c rfl (st_c trivial (st_c trivial (st_n)))))))))))))⟩)⟩,trivial,⟨_,_,rfl,fun(a,b,d) wq hM hF=>mcl rfl rfl (clF_r rfl ent53) (uinsert_ok c.verts c.edges s.ub s.u wq (yd hM (i:=4) rfl) (Lv.mk x.slot x.seq x.u x.v x.wt x.t (x.t+c.win)) hxe hc hl9) (fun _ _ hz=>by obtain⟨n,z,rfl,hF1,ht1⟩:=hz;exact⟨(n,z,d),⟨(yu 4 hM (ht1.witr hF1)),trivial⟩,rfl,st_c rfl (st_c rfl (st_c rfl (st_c rfl (st_c rfl (st_c rfl (st_c trivial (st_c trivial (st_c trivial (st_c trivial (st_c rfl (st_c trivial (st_c trivial (st_n)))))))))))))⟩)⟩,trivial,trivial,trivial⟩ (ob2_p rfl (fun(a,b,d) _ _=>qv rfl rfl (mv_r (v:=(Zb5 ((a:Nat):Int) (s.u.last+1) x (x.t+c.win))) rfl)) ?_)))))))
   refine ob2_p rfl (fun(a,b,d) _ _=>qv rfl rfl (ex_r rfl rfl)) (ob2_p rfl (fun(a,b,d) _ _=>qv rfl rfl (ex_r rfl rfl)) (ob2_m rfl ⟨⟨_,_,rfl,fun(a,b,d) wq hM hF=>m_al (cs:=Zt) rfl ti34 rfl hM (fun A _ h=>⟨(a,b,A),⟨h,trivial⟩,rfl,st_c rfl (st_c rfl (st_c rfl (st_c rfl (st_c rfl (st_c rfl (st_c rfl (st_c rfl (st_c rfl (st_c rfl (st_c trivial (st_c trivial (st_c trivial (st_n)))))))))))))⟩)⟩,⟨_,_,rfl,fun(a,b,d) wq hM hF=>m_al (cs:=Zt) rfl ti34 rfl hM (fun A _ h=>⟨(a,b,A),⟨h,trivial⟩,rfl,st_c rfl (st_c rfl (st_c rfl (st_c rfl (st_c rfl (st_c rfl (st_c rfl (st_c rfl (st_c rfl (st_c rfl (st_c trivial (st_c trivial (st_c trivial (st_n)))))))))))))⟩)⟩,trivial,trivial,trivial,trivial⟩ (ob2_m rfl ⟨trivial,trivial,trivial,⟨_,_,rfl,fun(a,b,d) wq hM hF=>m_sto (L' := (Zc7 d ((a:Nat):Int) (s.u.last+1) x (x.t+c.win) s c.win f wb c.edges c.verts c.draws ((∀ y,Sto.has b y↔s.u.has y\/y=(⟨((a:Nat):Int),s.u.last+1,x.u,x.v,x.wt,x.t,x.t+c.win⟩:Lv))/\Sto.last b=s.u.last+1) b)) 0 rfl rfl rfl rfl ti34 rfl rfl hM rfl rfl rfl rfl (fun _ h=>⟨(a,b,d),⟨h,trivial⟩,rfl,Stab.refl _ _ _⟩)⟩,trivial,trivial⟩ (ob2_p rfl (fun(a,b,d) _ _=>qv rfl rfl (asg_r (v:=Zc) rfl)) ?_))))
   exact ob2_n
 rintro⟨a,b,d⟩ ae S -
 have G:=yj [4,0,1,2,3,5,6] S
 have k:=ya6 G
 have B:=yav G
 refine pQP tt none B 2 ?_
 have hu29:=(yac B (i:=0) rfl:Sto.ok c.verts c.edges b)
 have hfree:=hW.free huok hu29 (i:=a) (e:=(⟨((a:Nat):Int),s.u.last+1,x.u,x.v,x.wt,x.t,x.t+c.win⟩:Lv)) rfl rfl k.1
 have hieb:a<c.edges:=by obtain⟨j,h7,_,_,h8⟩:=hu29.has_slot ((k.1 _).2 (.inr rfl));have h9:((a:Nat):Int)=(j:Int):=h7;omega
 refine dr1 B 6 ?_
 intro wq hM
 refine mcl rfl rfl (clF_r rfl ent54) (uindex_ok c.verts c.edges s.ub b wq (yd hM (i:=0) rfl) x.u) ?_
 rintro _ _ ⟨H,af,rfl,hF1,ht1⟩
 refine aft (yu 0 hM (ht1.witr hF1)) (fun ag I=>?_)
 have U:=ya6 I
 have J:=yav I
 refine pQP tt none J 2 ?_
 have hza:H<c.verts:=by have h7:=TW.Got.lt U hu29.tok (by rw[hu29.tn];omega);rw[hu29.tn]at h7;exact h7
 refine dr1 J 6 ?_
 intro wq hM
 refine mcl rfl rfl (clF_r rfl ent54) (uindex_ok c.verts c.edges s.ub b wq (yd hM (i:=0) rfl) x.v) ?_
 rintro _ _ ⟨K,ah,rfl,hF1,ht1⟩
 refine aft (yu 0 hM (ht1.witr hF1)) (fun ai L=>?_)
 have V:=ya6 L
 have M:=yav L
 refine pQP tt none M 2 ?_
 have hzb:K<c.verts:=by have h7:=TW.Got.lt V hu29.tok (by rw[hu29.tn];omega);rw[hu29.tn]at h7;exact h7
 refine dr1 M 7 ?_
 intro wq hM
 refine mcl rfl rfl (clF_r rfl ent55) (sset_ok s.sb s.hb c.edges s.q wq (yd hM (i:=5) rfl) a hieb hfree (x.t+c.win) (inkI o_)) ?_
 rintro _ _ ⟨C,rfl,hF1,ht1⟩
 refine aft (yu 5 hM (ht1.witr hF1)) (fun aj W=>?_)
 have N:=yj [5,0,1,2,3,4,6] W
 have X:=ya6 N
 have O:=yav N
 refine pQP tt none O 2 ?_
 refine dr1 O 9 ?_
 intro wq hM
 refine mcl rfl rfl (clF_r rfl ent56) (gadd_ok c.verts c.edges s.ob s.g wq (yd hM (i:=6) rfl) a H K (x.t+c.win) hieb hza hzb (inkI o_)) ?_
 rintro _ _ ⟨l,ak,rfl,ht1⟩
 refine aft (yu 6 hM ht1) (fun al Y=>?_)
 have m:=yj [6,0,1,2,3,4,5] Y
 refine pQL tt none m 5 ?_
 refine ld rfl rfl yg rfl (yo m (i:=6) rfl rfl) (pLL m 3 ?_)
 refine sto (L' := [(GW.R c.verts c.edges s.ob l),(QS.SR s.sb s.hb c.edges C),(Sto.R c.verts c.edges s.ub b),blk d 34 [(Za ((a:Nat):Int)),(Ze (s.u.last+1)),(Ze x.u),(Ze x.v),(Za x.wt),(Za x.t),(Za (x.t+c.win))],(Zap s c.win),blk f 32 (Zo x),blk wb 83 [(Za c.win),(Za c.edges),(Za c.verts),(Za c.draws),(Zb s.cb),(Zb s.ub),(Zb s.sb),(Zb s.ob),(Ze (s.added+1)),(Ze s.expired)]]) 6 rfl rfl rfl rfl ti30 rfl rfl m rfl rfl rfl rfl (fun am P=>pLQ P 1 ?_)
 refine end0 Tryz.results24 ?_
 have Z:=yj [6,4,2,1,0,3,5] P
 have hok9:=hW.ins huok (i:=a) (e:=(⟨((a:Nat):Int),s.u.last+1,x.u,x.v,x.wt,x.t,x.t+c.win⟩:Lv)) rfl rfl hxt (by show x.t+c.win=_;rw[hxt]) k.1 k.2 X ha (g2:=l)
 exact⟨(⟨s.cb,s.ub,s.sb,s.hb,s.ob,s.now,C,b,l,s.added+1,s.expired⟩:WW),rfl,⟨rfl,rfl,fun y hy=>((k.1 y).1 hy).imp_right fun e=>by subst e;exact⟨rfl,rfl⟩⟩,yv (yw (p:=WW.ok c (⟨s.cb,s.ub,s.sb,s.hb,s.ob,s.now,C,b,l,s.added+1,s.expired⟩:WW)) (yc [_,_,_,_,_] _ Z) hok9) zh⟩
end
section
open Go Go.Sx
theorem sdueP_ok(sb hb n:Nat)(q:QS)(sb2 hb2:Nat)(q2:QS)(w:World)(hO:Own (facR (q2.its=q.its) (allR [(QS.SR sb hb n q),(QS.SR sb2 hb2 n q2)])) w)(now:Int)(hn:n<=65536) :
 CR ya 48 (Zn sb2 now) w (fun r w' => ∃ (p:Option Addr) (cp:Nat) (ds:List Nat) (t:QS),(.slice p ds.length cp)=r/\Dued n q t ds now/\Turn (facR (q2.its=q.its) (allR [(QS.SR sb hb n q),(QS.SR sb2 hb2 n q2)])) w w' (allR [(QS.SR sb hb n q),(QS.SR sb2 hb2 n t),rowR ncf (.slice p ds.length cp) 3 1 ds])):=by
 have hst:=Own.of hO.un
 refine CR.mono (sdueN_ok sb2 hb2 n q2 w (yd hst (i:=1) rfl) now hn) fun r w' ⟨v,ds,t,h1,h2,ht⟩=>?_
 have h3:=yu 1 hst ht
 have h4:=yan (ya7 h3 (List.Perm.swap _ _ _))
 have h5:=ya7 h4 (zau (l₁:=[_,_]) (l₂:=[_]))
 have h6:=(St.endAll h5 zh).unL (p:=(q2.its=q.its))
 have h7:w'.ownsRow 0 3 1 v ds.length (ds.flatMap ncf):=ht.holds _ (zag _ zh)
 subst h1
 rcases h7.2 with ⟨rfl,h8⟩|⟨b,cap,cur,rfl,_⟩
 . refine⟨none,0,ds,t,by rw[h8],h2.of_its hO.fact,?_⟩
   rw[h8]
   exact h6
 . exact⟨_,cap,ds,t,rfl,h2.of_its hO.fact,h6⟩
theorem wroom_ok(c:WC)(wb:Nat)(s:WW)(w:World)(hO:Own (WW.R c wb s) w)(x:Lv)(hxo:x.ok) :
 CR ya 22 (Zbn wb x) w (fun r w' => ∃ (e:Int),r = .int .i64 e/\(e=0->Room c s x)/\Turn (WW.R c wb s) w w' (WW.R c wb s)):=by
 refine en Tryz.func22 Tryz.ntmps22 ?_
 have hst0:=Own.of hO.un
 have hW:s.ok c:=hO.fact
 have hw1:=hW.w1
 have hw2:=hW.wi
 have hw3:=hW.n0
 have hw4:=hW.n1
 have huok:Sto.ok c.verts c.edges s.u:=(yac hst0 (i:=2) rfl)
 have hwen:=hW.en
 have hwe1:=hW.e1
 have hwv2:=hW.v2
 have hwvn:=hW.vn
 have hwa0:=hW.a0
 have hwa1:=hW.a1
 have hwla:=hW.la
 have hwl0:=huok.last0
 have htA:=own_tA (yd hst0 (i:=2) rfl)
 have hxt9:=hxo.t.i64
 refine pPL hst0 2 ?_
 refine bx (v:=(Zam x)) (cs:=(Zo x)) rfl rfl rfl hst0 (fun n ar au av J=>pLP J 4 ?_)
 refine dr1 J 5 ?_
 intro wq hM
 refine mcl rfl rfl (clF_r rfl ent44) (ucheck_ok c.verts c.edges s.ub s.u wq (yd hM (i:=3) rfl) x) ?_
 rintro _ _ ⟨rfl,ht1⟩
 refine aft (yu 3 hM ht1) (fun K L=>?_)
 have z:=yj [3,0,1,2,4,5] L
 refine pQL tt none z 5 ?_
 by_cases M:(Sto.chk s.u c.verts c.edges x.u x.v:Int)=(0:Int)
 . have hc0:=M
   refine pLQ z 11 ?_
   refine ret1 (v:=Zc) yby rfl ?_
   have W:=yj [1,2,3,4,5,0] L
   exact⟨0,rfl,(fun _=>Room.of huok htA hc0 fun y hy=>hy.1),yv (yw (p:=s.ok c) (yc [_,_,_,_,_] _ W) hW) zh⟩
 . have hc0:=M
   obtain⟨X,aw⟩:∃ q,zbo s.q.its.length=q:=⟨_,rfl⟩
   refine pLL z 13 ?_
   rcases X with h0|h0
   . skip
     refine cl ent45 (snext0_ok s.sb s.hb c.edges s.q K (yd z (i:=4) rfl) h0) ?_
     rintro _ ax ⟨rfl,ht⟩
     have N:=yu 4 z ht
     refine pLL N 3 ?_
     refine al (cs:=Z3) rfl ti111 rfl N (fun ay az aA aB Y=>sLQ Y 26 fun aC Z=>?_)
     refine ret1 (v:=(Za (Sto.chk s.u c.verts c.edges x.u x.v))) yby rfl ?_
     have aa:=yj [3,4,1,5,6,0,2] Z
     exact⟨Sto.chk s.u c.verts c.edges x.u x.v,rfl,(fun h7=>absurd h7 hc0),yv (yw (p:=s.ok c) (yc [_,_,_,_,_] _ aa) hW) zh⟩
   . skip
     refine cl ent45 (snext1_ok s.sb s.hb c.edges s.q K (yd z (i:=4) rfl) h0) ?_
     rintro _ aD ⟨rfl,ht⟩
     have O:=yu 4 z ht
     refine pLL O 3 ?_
     refine al (cs:=Z3) rfl ti111 rfl O (fun E aE aF aG ab=>sLL ab 13 fun ac C=>?_)
     by_cases aH:((ndA s.q.its 0).key:Int)>(x.t:Int)
     . refine pLQ C 13 ?_
       refine ret1 (v:=(Za (Sto.chk s.u c.verts c.edges x.u x.v))) yby rfl ?_
       have ad:=yj [3,4,1,5,6,0,2] C
       exact⟨Sto.chk s.u c.verts c.edges x.u x.v,rfl,(fun h7=>absurd h7 hc0),yv (yw (p:=s.ok c) (yc [_,_,_,_,_] _ ad) hW) zh⟩
     . refine pLL C 13 ?_
       refine cl ent46 (ucopy_ok c.verts c.edges s.ub s.u ac (yd C (i:=1) rfl)) ?_
       rintro _ aI ⟨A,B,rfl,G,ht⟩
       have ae:=yj [1,0,2,3,4,5,6] C
       have P:=yan (yu 0 ae ht)
       refine pLP P 5 ?_
       refine rgs (Γ:=Nat×Nat×QS×Option Addr×Nat×List Nat×QS) mixed [[],[0],[0,1],[0,1,2],[0,1,2,3],[],[5],[0,1,2,3,4,5,6],[0,1,2,3,4,5,6,7],[]] [4,7] d_ [fun _=>(Zb wb),fun _=>(Zb wb),fun _=>(Z4 wb),fun _=>(Zb s.sb),fun(g,h,j,d,f,b,l)=>(Zb g),fun _=>(Za4 n),fun _=>(Za x.t),fun(g,h,j,d,f,b,l)=>(.slice d b.length f),fun(g,h,j,d,f,b,l)=>(Za b.length),fun _=>Zc] [(fun(g,h,j,d,f,b,l)=>[(Sto.R c.verts c.edges s.ub s.u),(Sto.R c.verts c.edges A B),blk E 111 (Zi ((ndA s.q.its 0).ix:Int) ((ndA s.q.its 0).key)),blk n 32 (Zo x),blk wb 83 (Za0 c.win c.edges c.verts c.draws s),(Zap s c.win),(Za5 s c.edges),(Zec c.verts c.edges s)],fun _ _=>True),(fun(g,h,j,d,f,b,l)=>[(Sto.R c.verts c.edges s.ub s.u),(Sto.R c.verts c.edges A B),blk E 111 (Zi ((ndA s.q.its 0).ix:Int) ((ndA s.q.its 0).key)),blk n 32 (Zo x),blk wb 83 (Za0 c.win c.edges c.verts c.draws s),(Zap s c.win),facR (QS.its j=QS.its s.q) (allR [(Za5 s c.edges),(QS.SR g h c.edges j)]),(Zec c.verts c.edges s)],fun _ _=>True),(fun(g,h,j,d,f,b,l)=>[(Sto.R c.verts c.edges s.ub s.u),(Sto.R c.verts c.edges A B),blk E 111 (Zi ((ndA s.q.its 0).ix:Int) ((ndA s.q.its 0).key)),blk n 32 (Zo x),blk wb 83 (Za0 c.win c.edges c.verts c.draws s),(Zap s c.win),facR (Dued c.edges s.q l b x.t) (allR [(Za5 s c.edges),(QS.SR g h c.edges l),rowR ncf (.slice d b.length f) 3 1 b]),(Zec c.verts c.edges s)],fun _ _=>True)] (0,0,s.q,none,0,[],s.q) (fun(g,h,j,d,f,b,l)=>(51,Zc) :: (50,(Za b.length)) :: (49,(.slice d b.length f)) :: (48,(Za x.t)) :: (47,(Za4 n)) :: (46,(Zb g)) :: (45,(Zb s.sb)) :: (44,(Z4 wb)) :: (43,(Zb wb)) :: (42,(Zb wb)) :: _) rfl P (fun _ _=>trivial) ?_ (fun(g,h,j,d,f,b,l)=>rfl) rfl ?_
       . skip
         refine obv (fun(g,h,j,d,f,b,l) _=>mv_r (v:=(Zb wb)) rfl) ?_
         refine obv (fun(g,h,j,d,f,b,l) _=>nilc_r rfl) ?_
         refine obv (fun(g,h,j,d,f,b,l) _=>fa_r (o' := 6) rfl ybp rfl ti80 rfl) ?_
         refine ob_q1 rfl rfl rfl rfl (fun(g,h,j,d,f,b,l) wq hM hF=>qv rfl rfl (ld_r rfl Tryz.underlying80 rfl (yo hM (i:=4) rfl rfl))) (ob_m rfl rfl rfl rfl (fun(g,h,j,d,f,b,l) wq hM hF=>mcl rfl rfl (clF_r rfl ent47) (scopy_ok s.sb s.hb c.edges s.q wq (yd hM (i:=6) rfl)) (fun _ _ hz=>by obtain⟨af,ag,ah,rfl,hF1,ht1⟩:=hz;exact⟨(af,ag,ah,d,f,b,l),⟨(yu 6 hM (ht1.witr hF1)),trivial⟩,rfl,st_c rfl (st_c rfl (st_c rfl (st_c rfl (st_c trivial (st_c rfl (st_c rfl (st_c trivial (st_c trivial (st_c rfl (st_n))))))))))⟩)) (obv (fun(g,h,j,d,f,b,l) _=>fa_r (o' := 3) rfl yal rfl ti2 rfl) ?_))
         refine ob_q2 rfl rfl rfl rfl rfl (fun(g,h,j,d,f,b,l) wq hM hF=>qv rfl rfl (ld_r rfl yas rfl (yo hM (i:=3) rfl rfl))) (fun(g,h,j,d,f,b,l) wq hM hF=>qv rfl rfl (ld_r rfl yas rfl (yo hM (i:=3) rfl rfl))) (ob_m rfl rfl rfl rfl (fun(g,h,j,d,f,b,l) wq hM hF=>mcl rfl rfl (clF_r rfl ent48) (sdueP_ok s.sb s.hb c.edges s.q g h j wq (yd hM (i:=6) rfl) x.t o_) (fun _ _ hz=>by obtain⟨ai,aj,ak,am,rfl,hF1,ht1⟩:=hz;exact⟨(g,h,j,ai,aj,ak,am),⟨(yu 6 hM (ht1.witr hF1)),trivial⟩,rfl,st_c rfl (st_c rfl (st_c rfl (st_c rfl (st_c rfl (st_c rfl (st_c rfl (st_c trivial (st_c trivial (st_c rfl (st_n))))))))))⟩)) (obv (fun(g,h,j,d,f,b,l) _=>lenS_r (a:=d) (m:=b.length) (c:=f) rfl yh) ?_))
         refine obv (fun(g,h,j,d,f,b,l) _=>mv_r (v:=Zc) rfl) ?_
         exact ob_n
       rintro⟨g,h,j,d,f,b,l⟩ aJ an -
       have Q:=yj [6,0,1,2,3,4,5,7] an
       have H:=ya6 Q
       have ao:=yav Q
       have I:=yan ao
       have hdl:b.length<=c.edges:=H.len
       have hsch2:Sched B s.q:=fun e=>(hW.sch e).trans ⟨fun⟨y,h1,h2⟩=>⟨y,(G.1 y).2 h1,h2⟩,fun⟨y,h1,h2⟩=>⟨y,(G.1 y).1 h1,h2⟩⟩
       have hu39:=(yac I (i:=4) rfl:Sto.ok c.verts c.edges B)
       have ap:=yj [7,8,3,0,9,4,2,6] I
       refine pQP tt none I 2 ?_
       refine lp (α:=Nat×Sto) (fun(k,u2)=>[(3,(Zb n)),(8,(Zb A)),(49,(.slice d b.length f)),(50,(Za b.length)),(51,(Za k))]) (fun(k,u2) w1=>St [(w,(WW.R c wb s).foot)] [blk wb 83 (Za0 c.win c.edges c.verts c.draws s),(Zap s c.win),(Sto.R c.verts c.edges s.ub s.u),(Za5 s c.edges),(Zec c.verts c.edges s),(Sto.R c.verts c.edges A u2),rowR ncf (.slice d b.length f) 3 1 b,blk n 32 (Zo x)] w1/\Rem B u2 (b.take k)/\k<=b.length) (fun(k,u2)=>b.length-k) (0,B) ⟨rfl,rfl,rfl,rfl,eqI (by first|rfl|omega),trivial⟩ (⟨ap,Rem.start _,o_⟩) ?_
       rintro⟨k,u2⟩ aK S ⟨hst3,hR,hk3⟩
       refine pPL hst3 2 ?_
       by_cases aL:((k:Int):Int)<((b.length:Int):Int)
       . have hkl:k<b.length:=by omega
         refine pLL hst3 11 ?_
         refine ixR (cf:=ncf) (k:=k) (i:=(k:Int)) rfl rfl rfl yh ti3 (yf hst3 (i:=6) rfl f_) o_ o_ (nd_get om) (ldR (cf:=ncf) rfl rfl ye rfl (yf hst3 (i:=6) rfl f_) (nd_get om) rfl ?_)
         have hu29:=(yac hst3 (i:=5) rfl:Sto.ok c.verts c.edges u2)
         have hcan:=Rem.can hR hsch2 hu29 H (nd_get hkl)
         refine pLL hst3 6 ?_
         refine cl ent49 (uremove_ok c.verts c.edges A u2 S (yd hst3 (i:=5) rfl) (ndA b k) hcan) ?_
         rintro _ aM ⟨aq,rfl,U,ht⟩
         have V:=yu 5 hst3 ht
         refine pLQ V 7 ?_
         refine tN (?_)
         exact again ((k+1),aq) ⟨rfl,rfl,rfl,rfl,eqI (by first|rfl|omega),trivial⟩ (⟨V,by rw[zbz,nd_get hkl];exact hR.next U.1 U.2,o_⟩) (by show (b.length-(k+1):Nat)<b.length-k;omega)
       . refine pLL hst3 13 ?_
         refine ldA (cs:=(Zo x)) rfl rfl yal rfl ti32 rfl (yab hst3 (i:=7) (o:=0) (vs:=(Zo x)) rfl rfl) (cl ent44 (ucheck_ok c.verts c.edges A u2 S (yd hst3 (i:=5) rfl) x) ?_)
         rintro _ aN ⟨rfl,ht⟩
         have D:=yu 5 hst3 ht
         refine pLQ D 4 ?_
         refine ret1 (v:=(Za (Sto.chk u2 c.verts c.edges x.u x.v))) yby rfl ?_
         have hu49:=(yac D (i:=5) rfl:Sto.ok c.verts c.edges u2)
         have htA4:=own_tA (yd D (i:=5) rfl)
         have hke:k=b.length:=by omega
         rw[hke,zdf]at hR
         have hfin:=hR.fin hsch2 hu39 H
         exact⟨Sto.chk u2 c.verts c.edges x.u x.v,rfl,(fun h7=>Room.of hu49 htA4 h7 fun y hy=>(hfin y).2 ⟨(G.1 y).2 hy.1,hy.2⟩),yv (yw (p:=s.ok c) (yc [_,_,_,_,_] _ D) hW) zh⟩
end
section
open Go Go.Sx
theorem own_ww{c:WC}{wb:Nat}{s:WW}{w:World}(h:Own (WW.R c wb s) w):s.ok c/\s.u.ok c.verts c.edges/\s.u.t.A.ok :=
 ⟨h.fact,(yac (Own.of h.un) (i:=2) rfl:Sto.ok c.verts c.edges s.u),own_tA (yd (Own.of h.un) (i:=2) rfl)⟩
theorem cchk0_ok(cb:Nat)(win now:Int)(w:World)(hO:Own (Zs cb win now) w)(h1:1<=win)(hwin:InK .i64 win)(t:Int)(htt:InK .i64 t)(h2:now<=t)(h3 : -9223372036854775808<=t+win/\t+win<=9223372036854775807) :
 CR ya 21 (Zn cb t) w (fun r w' => r = .int .i64 0/\Turn (Zs cb win now) w w' (Zs cb win now)):=by
 have h:=ccheck_ok cb win now w hO h1 hwin t htt
 rw[chkV_ok h2 h3]at h
 exact h
theorem wadd_ok(c:WC)(wb:Nat)(s:WW)(w:World)(hO:Own (WW.R c wb s) w)(x:Lv)(hxo:x.ok)(hxt:s.now<=x.t)(hxt2:x.t<=1000000)(ha:s.added<1000000) :
 CR ya 12 (Zbn wb x) w (fun r w' => ∃ (e:Int) (s2:WW),r = .int .i64 e/\WW.Step s s2 x/\Turn (WW.R c wb s) w w' (WW.R c wb s2)):=by
 refine en Tryz.func12 Tryz.ntmps12 ?_
 have hst0:=Own.of hO.un
 have hW:s.ok c:=hO.fact
 have hw1:=hW.w1
 have hw2:=hW.wi
 have hw3:=hW.n0
 have hw4:=hW.n1
 have huok:Sto.ok c.verts c.edges s.u:=(yac hst0 (i:=2) rfl)
 have hwen:=hW.en
 have hwe1:=hW.e1
 have hwv2:=hW.v2
 have hwvn:=hW.vn
 have hwa0:=hW.a0
 have hwa1:=hW.a1
 have hwla:=hW.la
 have hwl0:=huok.last0
 refine pPL hst0 2 ?_
 refine bx (v:=(Zam x)) (cs:=(Zo x)) rfl rfl rfl hst0 ?_
 intro L z M N k
 have A:=yj [1,2,3,4,5,0] k
 have l:=yw (p:=s.ok c) (yc [_,_,_,_,_] _ A) hW
 refine pLL k 7 ?_
 refine cl ent20 (wvalid_ok c wb s z (yd l (i:=0) rfl)) ?_
 rintro _ O ⟨rfl,ht⟩
 have B:=yu 0 l ht
 have d:=(yav B).unpack
 refine pLL d 13 ?_
 by_cases P:(x.u:Int)=(x.v:Int)
 . refine pLQ d 11 ?_
   refine ret1 (v:=(.int .i64 9)) Tryz.results12 rfl ?_
   have C:=yw (p:=s.ok c) (yc [_,_,_,_,_] _ d) hW
   exact⟨9,s,rfl,WW.Step.same s x,yq C⟩
 . refine pLP d 8 ?_
   refine dr1 d 6 ?_
   intro wq hM
   refine mcl rfl rfl (clF_r rfl ent21) (cchk0_ok s.cb c.win s.now wq (yd hM (i:=1) rfl) hw1 (inkI o_) x.t hxo.t hxt o_) ?_
   rintro _ _ ⟨rfl,ht1⟩
   refine aft (yu 1 hM ht1) (fun D m=>?_)
   have n:=yj [1,0,2,3,4,5] m
   refine pQL tt none n 17 ?_
   refine cmp rfl rfl rfl (c_nge o_) ?_
   have E:=m
   have o:=yw (p:=s.ok c) (yc [_,_,_,_,_] _ E) hW
   refine pLL n 10 ?_
   refine cl ent22 (wroom_ok c wb s D (yd o (i:=0) rfl) x hxo) ?_
   rintro _ G ⟨f,rfl,H,ht⟩
   have a:=yu 0 o ht
   refine pLL a 6 ?_
   by_cases I:(f:Int)=(0:Int)
   . have hre:f=0:=by have h7:=@I;omega
     refine pLL a 11 ?_
     refine cl ent23 (wtick_ok c wb s G (yd a (i:=0) rfl) x.t hxt hxt2) ?_
     rintro _ J ⟨g,rfl,b,ht⟩
     have h:=yu 0 a ht
     have hww2:=own_ww (yd h (i:=0) rfl)
     have hc2:=H hre g.u hww2.2.1 hww2.2.2 b.2.2.1
     have hxs2:x.t=g.now:=b.1.symm
     have has2:g.added<1000000:=by rw[b.2.1];exact ha
     refine pLL h 6 ?_
     refine cl ent24 (winsert_ok c wb g J (yd h (i:=0) rfl) x hxo hxs2 hc2 has2) ?_
     rintro _ Q ⟨K,rfl,j,ht⟩
     have q:=yu 0 h ht
     refine pLQ q 8 ?_
     refine ret1 (v:=Zc) Tryz.results12 rfl ?_
     exact⟨0,K,rfl,⟨.inr (j.1.trans b.1),by rw[j.2.1,b.2.1];exact zdc _,fun y hy=>(j.2.2 y hy).imp_left fun h7=>((b.2.2.1 y).1 h7).1⟩,yq q⟩
   . refine pLQ a 12 ?_
     refine ret1 (v:=(Za f)) Tryz.results12 rfl ?_
     exact⟨f,s,rfl,WW.Step.same s x,yq a⟩
theorem ulistN_ok(verts edges ub:Nat)(s:Sto)(w:World)(hO:Own (Sto.R verts edges ub s) w) :
 CR ya 26 (Zk ub) w (fun r w' => ∃ (v:Value) (ys:List Lv),v=r/\s.Lst ys/\Turn (Sto.R verts edges ub s) w w' (allR [(Sto.R verts edges ub s),rowR Lv.cells v 34 7 ys])) :=
 CR.mono (ulist_ok verts edges ub s w hO) fun r w' ⟨v,ys,h1,h2,ht⟩=>⟨v,ys,h1.symm,h2,ht⟩
theorem wlive_ok(c:WC)(wb:Nat)(s:WW)(w:World)(hO:Own (WW.R c wb s) w) :
 CR ya 14 (Zk wb) w (fun r w' => ∃ (v:Value) (ys:List Lv),v=r/\s.u.Lst ys/\Turn (WW.R c wb s) w w' (allR [(WW.R c wb s),rowR Lv.cells v 34 7 ys])):=by
 refine en Tryz.func14 Tryz.ntmps14 ?_
 have hst0:=Own.of hO.un
 have hW:s.ok c:=hO.fact
 have hw1:=hW.w1
 have hw2:=hW.wi
 have hw3:=hW.n0
 have hw4:=hW.n1
 have huok:Sto.ok c.verts c.edges s.u:=(yac hst0 (i:=2) rfl)
 have hwen:=hW.en
 have hwe1:=hW.e1
 have hwv2:=hW.v2
 have hwvn:=hW.vn
 have hwa0:=hW.a0
 have hwa1:=hW.a1
 have hwla:=hW.la
 have hwl0:=huok.last0
 have b:=yw (p:=s.ok c) (yc [_,_,_,_,_] _ hst0) hW
 refine pPL hst0 9 ?_
 refine cl ent20 (wvalid_ok c wb s w (yd b (i:=0) rfl)) ?_
 rintro _ f ⟨rfl,ht⟩
 have g:=yu 0 b ht
 have a:=(yav g).unpack
 refine pLL a 12 ?_
 refine cl ent26 (ulistN_ok c.verts c.edges s.ub s.u f (yd a (i:=2) rfl)) ?_
 rintro _ n ⟨d,h,rfl,j,ht⟩
 have k:=yj [2,0,1,3,4] a
 have e:=yan (yu 0 k ht)
 refine pLQ e 4 ?_
 refine ret1 (v:=d) Tryz.results14 rfl ?_
 have l:=yj [2,3,0,4,5,1] e
 have m:=yw (p:=s.ok c) (yc [_,_,_,_,_] _ l) hW
 exact⟨d,h,rfl,j,yq (yc [_,_] _ m)⟩
end
section
open Go Go.Sx
abbrev prl6_8:List (List Nat):=[[],[],[],[1,2],[1,2,3],[1,2,3,4],[1,2,3,4,5],[1,2,3,4,5,6],[],[],[8,9],[8,9,10],[8,9,10,11],[8,9,10,11,12],[8,9,10,11,12,13],[],[],[15,16],[15,16,17],[15,16,17,18],[15,16,17,18,19],[],[21],[],[],[23,24],[23,24,25],[23,24,25,26],[23,24,25,26,27],[23,24,25,26,27,28],[21,22,23,24,25,26,27,28,29],[1,2,3,4,5,6,7,8,9,10,11,12,13,14,15,16,17,18,19,20,21,22,23,24,25,26,27,28,29,30],[0,1,2,3,4,5,6,7,8,9,10,11,12,13,14,15,16,17,18,19,20,21,22,23,24,25,26,27,28,29,30,31]]
theorem moved_ok(lv:Value)(xs:List Mv)(w:World)(hl:Recs 4 Mv.cells (fun _=>True) w lv xs)(hxs:∀ x∈xs,x.ok) :
 CR ya 6 #[lv] w (fun r w' => ∃ (v:Value) (ys:List Lv) (now:Int),r = .tuple #[Za7,.int .i64 now,v,.bool true]/\(WinL cfM now ys/\now<=150)/\Turn (allR []) w w' (Zca v ys)):=by
 have hlen:=hl.len
 refine en Tryz.func6 Tryz.ntmps6 ?_
 have hst0:=yaf w
 refine pPL hst0 2 ?_
 refine al (cs:=Zbj) rfl ti24 rfl hst0 (fun n Z aa ab z=>pLL z 7 ?_)
 refine bld (pvs:=[(0,(.int .i64 20)),(1,(.int .i64 30)),(2,(.int .i64 10))]) (v:=.agg #[(.int .i64 20),(.int .i64 30),(.int .i64 10),Zc]) rfl rfl (buildS [(0,[(.int .i64 20)]),(1,[(.int .i64 30)]),(2,[(.int .i64 10)])] ti24 pl24 rfl ⟨rfl,rfl,rfl,rfl,rfl,rfl,trivial⟩ rfl) (al (cs:=Zbj) rfl ti24 rfl z (fun p ac ad ae G=>sLL G 6 fun H I=>?_))
 refine cl ent11 (wnew2_ok cM H d_ d_ d_ d_ d_ d_ d_) ?_
 rintro _ ag ⟨f,J,rfl,y,ht⟩
 have A:=(ya9 I ht)
 refine pLP A 24 ?_
 refine lp (α:=Nat×WW) (fun(k,s)=>[(0,lv),(2,(Zb n)),(6,(Zb p)),(7,(Zb f)),(9,(Za k))]) (fun(k,s) w1=>St [(w,[])] (Zbr cM f s p n) w1/\WSum cM s k/\k<=xs.length/\k<=50) (fun(k,s)=>50-k) (0,J) ⟨rfl,rfl,rfl,rfl,eqI (by first|rfl|omega),trivial⟩ (⟨A,WSum.start y.1 y.2.1 y.2.2,o_,o_⟩) ?_
 rintro⟨k,s⟩ ah ai ⟨hst3,hS,hk1,hk2⟩
 have hok7:=(own_ww (yd hst3 (i:=0) rfl)).1
 have hn0:=hok7.n0
 have hs1:=hS.now
 have hs2:=hS.added
 refine pPL hst3 5 ?_
 refine lenI (v:=lv) rfl rfl ybf hl ?_
 by_cases aj:((k:Int):Int)<((xs.length:Int):Int)
 . refine pLL hst3 3 ?_
   by_cases ak:((k:Int):Int)<(50:Int)
   . refine pLP hst3 9 ?_
     obtain⟨el,hel⟩:=get_some' (show k<xs.length by omega)
     have hmo:=hxs _ (zg hel)
     have hmu:=hmo.u
     have hmv:=hmo.v
     have hmwt:=hmo.wt
     have hmaf:=hmo.af
     have hrok:=hmo.edge hn0 o_
     refine rgs (Γ:=Int×WW) mixed prl6_8 [22,32] k_ [fun _=>(Zb f),fun _=>lv,fun _=>(Za k),fun _=>(adrO 4 lv k 0),fun _=>(adrO 4 lv k 0),fun _=>(Z0 el.u),fun _=>(Z0 (el.u%12)),fun _=>(Ze (el.u%12)),fun _=>lv,fun _=>(Za k),fun _=>(adrO 4 lv k 0),fun _=>(adrO 4 lv k 1),fun _=>(Z0 el.v),fun _=>(Z0 (el.v%12)),fun _=>(Ze (el.v%12)),fun _=>lv,fun _=>(Za k),fun _=>(adrO 4 lv k 0),fun _=>(adrO 4 lv k 2),fun _=>(.int .i8 el.wt),fun _=>(Za el.wt),fun _=>(Zb f),fun _=>(Za s.now),fun _=>lv,fun _=>(Za k),fun _=>(adrO 4 lv k 0),fun _=>(adrO 4 lv k 3),fun _=>(Z0 el.af),fun _=>(Z0 (el.af%4)),fun _=>(Za (el.af%4)),fun _=>(Za (s.now+(el.af%4))),fun _=>(Zdm (el.u%12) (el.v%12) el.wt (s.now+(el.af%4))),fun(d,c)=>(Za d)] [(fun(d,c)=>(Zbr cM f s p n),fun _ _=>True),(fun(d,c)=>(Zbr cM f s p n),fun _ _=>True),(fun(d,c)=>[facR (WW.Step s c (el.edge s.now)) (WW.R cM f c),blk p 24 Zx,blk n 24 Zbj],fun _ _=>True)] (0,s) (fun(d,c)=>(61,(Za d)) :: (60,(Zdm (el.u%12) (el.v%12) el.wt (s.now+(el.af%4)))) :: (59,(Za (s.now+(el.af%4)))) :: (58,(Za (el.af%4))) :: (57,(Z0 (el.af%4))) :: (56,(Z0 el.af)) :: (55,(adrO 4 lv k 3)) :: (54,(adrO 4 lv k 0)) :: (53,(Za k)) :: (52,lv) :: (51,(Za s.now)) :: (50,(Zb f)) :: (49,(Za el.wt)) :: (48,(.int .i8 el.wt)) :: (47,(adrO 4 lv k 2)) :: (46,(adrO 4 lv k 0)) :: (45,(Za k)) :: (44,lv) :: (43,(Ze (el.v%12))) :: (42,(Z0 (el.v%12))) :: (41,(Z0 el.v)) :: (40,(adrO 4 lv k 1)) :: (39,(adrO 4 lv k 0)) :: (38,(Za k)) :: (37,lv) :: (36,(Ze (el.u%12))) :: (35,(Z0 (el.u%12))) :: (34,(Z0 el.u)) :: (33,(adrO 4 lv k 0)) :: (32,(adrO 4 lv k 0)) :: (31,(Za k)) :: (30,lv) :: (29,(Zb f)) :: _) rfl hst3 (fun _ _=>trivial) ?_ (fun(d,c)=>rfl) rfl ?_
     . skip
       refine obv (fun(d,c) _=>mv_r (v:=(Zb f)) rfl) ?_
       refine obv (fun(d,c) _=>mv_r (v:=lv) rfl) ?_
       refine obv (fun(d,c) _=>mv_r (v:=(Za k)) rfl) ?_
       refine obv (fun(d,c) _=>ixR_r (k:=k) (i:=(k:Int)) rfl rfl ybf ti52 hl o_ o_ hel) ?_
       refine obv (fun(d,c) _=>faR_r (off:=0) (off' := 0) rfl ybr rfl ti5 rfl hl hel) ?_
       refine ob_q2 rfl rfl rfl rfl rfl (fun(d,c) wq hM hF=>qv rfl rfl (ldR_r (u:=(Z0 el.u)) rfl yax rfl (yap hM s_ d_ hl) hel rfl)) (fun(d,c) wq hM hF=>qv rfl rfl (ldR_r (u:=(Z0 el.u)) rfl yax rfl (yap hM s_ d_ hl) hel rfl)) (obv (fun(d,c) _=>rem_r (a:=el.u) (b:=12) (e:=el.u%12) rfl rfl d_ (zbt hmu.1)) ?_)
       refine obv (fun(d,c) _=>cv_r (a:=el.u%12) (e:=el.u%12) rfl yax yg (w64u o_)) ?_
       refine obv (fun(d,c) _=>mv_r (v:=lv) rfl) ?_
       refine obv (fun(d,c) _=>mv_r (v:=(Za k)) rfl) ?_
       refine obv (fun(d,c) _=>ixR_r (k:=k) (i:=(k:Int)) rfl rfl ybf ti52 hl o_ o_ hel) ?_
       refine obv (fun(d,c) _=>faR_r (off:=0) (off' := 1) rfl ybr rfl ti5 rfl hl hel) ?_
       refine ob_q2 rfl rfl rfl rfl rfl (fun(d,c) wq hM hF=>qv rfl rfl (ldR_r (u:=(Z0 el.v)) rfl yax rfl (yap hM s_ d_ hl) hel rfl)) (fun(d,c) wq hM hF=>qv rfl rfl (ldR_r (u:=(Z0 el.v)) rfl yax rfl (yap hM s_ d_ hl) hel rfl)) (obv (fun(d,c) _=>rem_r (a:=el.v) (b:=12) (e:=el.v%12) rfl rfl d_ (zbt hmv.1)) ?_)
       refine obv (fun(d,c) _=>cv_r (a:=el.v%12) (e:=el.v%12) rfl yax yg (w64u o_)) ?_
       refine obv (fun(d,c) _=>mv_r (v:=lv) rfl) ?_
       refine obv (fun(d,c) _=>mv_r (v:=(Za k)) rfl) ?_
       refine obv (fun(d,c) _=>ixR_r (k:=k) (i:=(k:Int)) rfl rfl ybf ti52 hl o_ o_ hel) ?_
       refine obv (fun(d,c) _=>faR_r (off:=0) (off' := 2) rfl ybr rfl ti50 rfl hl hel) ?_
       refine ob_q2 rfl rfl rfl rfl rfl (fun(d,c) wq hM hF=>qv rfl rfl (ldR_r (u:=(.int .i8 el.wt)) rfl Tryz.underlying50 rfl (yap hM s_ d_ hl) hel rfl)) (fun(d,c) wq hM hF=>qv rfl rfl (ldR_r (u:=(.int .i8 el.wt)) rfl Tryz.underlying50 rfl (yap hM s_ d_ hl) hel rfl)) (obv (fun(d,c) _=>cv_r (a:=el.wt) (e:=el.wt) rfl Tryz.underlying50 yas (w64 o_)) ?_)
       refine obv (fun(d,c) _=>mv_r (v:=(Zb f)) rfl) ?_
       refine ob_m rfl rfl rfl rfl (fun(d,c) wq hM hF=>mcl rfl rfl (clF_r rfl ent13) (wnow_ok cM f s wq (yd hM (i:=0) rfl)) (fun _ _ hz=>by obtain⟨rfl,ht1⟩:=hz;exact⟨(d,c),⟨(yu 0 hM ht1),trivial⟩,rfl,Stab.refl _ _ _⟩)) (obv (fun(d,c) _=>mv_r (v:=lv) rfl) ?_)
       refine obv (fun(d,c) _=>mv_r (v:=(Za k)) rfl) ?_
       refine obv (fun(d,c) _=>ixR_r (k:=k) (i:=(k:Int)) rfl rfl ybf ti52 hl o_ o_ hel) ?_
       refine obv (fun(d,c) _=>faR_r (off:=0) (off' := 3) rfl ybr rfl ti5 rfl hl hel) ?_
       refine ob_q2 rfl rfl rfl rfl rfl (fun(d,c) wq hM hF=>qv rfl rfl (ldR_r (u:=(Z0 el.af)) rfl yax rfl (yap hM s_ d_ hl) hel rfl)) (fun(d,c) wq hM hF=>qv rfl rfl (ldR_r (u:=(Z0 el.af)) rfl yax rfl (yap hM s_ d_ hl) hel rfl)) (obv (fun(d,c) _=>rem_r (a:=el.af) (b:=4) (e:=el.af%4) rfl rfl d_ (zbt hmaf.1)) ?_)
       refine obv (fun(d,c) _=>cv_r (a:=el.af%4) (e:=el.af%4) rfl yax yas (w64 o_)) ?_
       refine obv (fun(d,c) _=>ar_r rfl rfl rfl (w64 o_)) ?_
       refine obv (fun(d,c) _=>bld_r (pvs:=[(0,(Ze (el.u%12))),(1,(Ze (el.v%12))),(2,(Za el.wt)),(3,(Za (s.now+(el.af%4))))]) (v:=.agg #[(Ze (el.u%12)),(Ze (el.v%12)),(Za el.wt),(Za (s.now+(el.af%4)))]) rfl (buildS [(0,(Zz (el.u%12))),(1,(Zz (el.v%12))),(2,(Zd el.wt)),(3,(Zd (s.now+(el.af%4))))] ti32 pl32 rfl ⟨rfl,rfl,rfl,rfl,rfl,rfl,rfl,rfl,trivial⟩ rfl)) ?_
       refine ob_m rfl rfl rfl rfl (fun(d,c) wq hM hF=>mcl rfl rfl (clF_r rfl ent12) (wadd_ok cM f s wq (yd hM (i:=0) rfl) (el.edge s.now) hrok (by show s.now<=s.now+el.af%4;omega) (by show s.now+el.af%4<=1000000;omega) o_) (fun _ _ hz=>by obtain⟨K,L,rfl,hF1,ht1⟩:=hz;exact⟨(K,L),⟨(yu 0 hM (ht1.witr hF1)),trivial⟩,rfl,st_c rfl (st_c rfl (st_c rfl (st_c rfl (st_c rfl (st_c rfl (st_c rfl (st_c rfl (st_c rfl (st_c rfl (st_c rfl (st_c rfl (st_c rfl (st_c rfl (st_c rfl (st_c rfl (st_c rfl (st_c rfl (st_c rfl (st_c rfl (st_c rfl (st_c rfl (st_c rfl (st_c rfl (st_c rfl (st_c rfl (st_c rfl (st_c rfl (st_c rfl (st_c rfl (st_c rfl (st_c rfl (st_c trivial (st_n)))))))))))))))))))))))))))))))))⟩)) ?_
       exact ob_n
     rintro⟨d,c⟩ am B -
     have M:=ya6 B
     have C:=yav B
     refine pQQ tt none C 7 ?_
     refine tN (?_)
     exact again ((k+1),c) ⟨rfl,rfl,rfl,rfl,eqI (by first|rfl|omega),trivial⟩ (⟨C,hS.next M (by show s.now+el.af%4<=s.now+3;omega) (by show 0<=el.u%12/\el.u%12<12;omega) (by show 0<=el.v%12/\el.v%12<12;omega),o_,o_⟩) (by show (50-(k+1):Nat)<50-k;omega)
   . refine pLP hst3 11 ?_
     refine rgs (Γ:=Value×List Lv) mixed [[],[],[1],[],[1,2,3],[0,1,2,3,4],[0,1,2,3,4,5],[0,1,2,3,4,5,6],[0,1,2,3,4,5,6,7]] [2,4,5] d_ [fun _=>Za7,fun _=>(Zb f),fun _=>(Za s.now),fun _=>(Zb f),fun(g,l)=>g,fun _=>undef,fun _=>(Za s.now),fun(g,l)=>g,fun _=>Zf] [(fun(g,l)=>(Zbr cM f s p n),fun _ _=>True),(fun(g,l)=>(Zbr cM f s p n),fun _ _=>True),(fun(g,l)=>(Zc1 (Sto.Lst s.u l) cM f s g l p n),fun _ _=>True),(fun(g,l)=>(Zcc (Sto.Lst s.u l) cM f s g l p n),fun _ _=>True)] (Zl,[]) (fun(g,l)=>(5,Zf) :: (4,g) :: (3,(Za s.now)) :: (66,g) :: (65,(Zb f)) :: (64,(Za s.now)) :: (63,(Zb f)) :: (62,Za7) :: _) rfl hst3 (fun _ _=>trivial) ?_ (fun(g,l)=>rfl) rfl ?_
     . skip
       refine ob_q3 rfl rfl rfl rfl rfl rfl (fun(g,l) wq hM hF=>qv rfl rfl (ldA_r (cs:=Zx) rfl yat rfl ti24 rfl (yab hM (i:=1) (o:=0) (vs:=Zx) rfl rfl))) (fun(g,l) wq hM hF=>qv rfl rfl (ldA_r (cs:=Zx) rfl yat rfl ti24 rfl (yab hM (i:=1) (o:=0) (vs:=Zx) rfl rfl))) (fun(g,l) wq hM hF=>qv rfl rfl (ldA_r (cs:=Zx) rfl yat rfl ti24 rfl (yab hM (i:=1) (o:=0) (vs:=Zx) rfl rfl))) (obv (fun(g,l) _=>mv_r (v:=(Zb f)) rfl) ?_)
       refine ob_m rfl rfl rfl rfl (fun(g,l) wq hM hF=>mcl rfl rfl (clF_r rfl ent13) (wnow_ok cM f s wq (yd hM (i:=0) rfl)) (fun _ _ hz=>by obtain⟨rfl,ht1⟩:=hz;exact⟨(g,l),⟨(yu 0 hM ht1),trivial⟩,rfl,Stab.refl _ _ _⟩)) (obv (fun(g,l) _=>mv_r (v:=(Zb f)) rfl) ?_)
       refine ob_m rfl rfl rfl rfl (fun(g,l) wq hM hF=>mcl rfl rfl (clF_r rfl ent14) (wlive_ok cM f s wq (yd hM (i:=0) rfl)) (fun _ _ hz=>by obtain⟨N,O,rfl,hF1,ht1⟩:=hz;exact⟨(N,O),⟨(yu 0 hM (ht1.witr hF1)),trivial⟩,rfl,st_c rfl (st_c rfl (st_c rfl (st_c rfl (st_c trivial (st_c trivial (st_c trivial (st_c trivial (st_c trivial (st_n)))))))))⟩)) (ob_m rfl rfl rfl rfl (fun(g,l) wq hM hF=>m_sto (L' := (Zcc (Sto.Lst s.u l) cM f s g l p n)) 2 rfl rfl rfl rfl ti24 rfl rfl hM rfl rfl rfl rfl (fun _ h=>⟨(g,l),⟨h,trivial⟩,rfl,Stab.refl _ _ _⟩)) (obv (fun(g,l) _=>asg_r (v:=(Za s.now)) rfl) ?_))
       refine obv (fun(g,l) _=>asg_r (v:=g) rfl) ?_
       refine obv (fun(g,l) _=>asg_r (v:=Zf) rfl) ?_
       exact ob_n
     rintro⟨g,l⟩ an D -
     have P:=ya6 D
     have Q:=yav D
     have q:=yan Q
     refine pQQ tt none q 2 ?_
     refine retL4 (v:=Za7) (v' := (Za s.now)) (v'' := g) (v''' := Zf) Tryz.results6 (rvA (cs:=Zx) rfl yat rfl ti24 rfl (yab q (i:=3) (o:=0) (vs:=Zx) rfl rfl)) (rvT rfl) (rvT rfl) (rvT rfl) ?_
     have hww:=own_ww (yd q (i:=0) rfl)
     have hwl:=hS.list hww.1 hww.2.1 hww.2.2 P
     have S:=yj [1,0,2,3] q
     exact⟨g,l,s.now,rfl,⟨hwl,o_⟩,St.eM S⟩
 . refine pLP hst3 14 ?_
   refine rgs (Γ:=Value×List Lv) mixed [[],[],[1],[],[1,2,3],[0,1,2,3,4],[0,1,2,3,4,5],[0,1,2,3,4,5,6],[0,1,2,3,4,5,6,7]] [2,4,5] d_ [fun _=>Za7,fun _=>(Zb f),fun _=>(Za s.now),fun _=>(Zb f),fun(j,m)=>j,fun _=>undef,fun _=>(Za s.now),fun(j,m)=>j,fun _=>Zf] [(fun(j,m)=>(Zbr cM f s p n),fun _ _=>True),(fun(j,m)=>(Zbr cM f s p n),fun _ _=>True),(fun(j,m)=>(Zc1 (Sto.Lst s.u m) cM f s j m p n),fun _ _=>True),(fun(j,m)=>(Zcc (Sto.Lst s.u m) cM f s j m p n),fun _ _=>True)] (Zl,[]) (fun(j,m)=>(5,Zf) :: (4,j) :: (3,(Za s.now)) :: (66,j) :: (65,(Zb f)) :: (64,(Za s.now)) :: (63,(Zb f)) :: (62,Za7) :: _) rfl hst3 (fun _ _=>trivial) ?_ (fun(j,m)=>rfl) rfl ?_
   . skip
     refine ob_q3 rfl rfl rfl rfl rfl rfl (fun(j,m) wq hM hF=>qv rfl rfl (ldA_r (cs:=Zx) rfl yat rfl ti24 rfl (yab hM (i:=1) (o:=0) (vs:=Zx) rfl rfl))) (fun(j,m) wq hM hF=>qv rfl rfl (ldA_r (cs:=Zx) rfl yat rfl ti24 rfl (yab hM (i:=1) (o:=0) (vs:=Zx) rfl rfl))) (fun(j,m) wq hM hF=>qv rfl rfl (ldA_r (cs:=Zx) rfl yat rfl ti24 rfl (yab hM (i:=1) (o:=0) (vs:=Zx) rfl rfl))) (obv (fun(j,m) _=>mv_r (v:=(Zb f)) rfl) ?_)
     refine ob_m rfl rfl rfl rfl (fun(j,m) wq hM hF=>mcl rfl rfl (clF_r rfl ent13) (wnow_ok cM f s wq (yd hM (i:=0) rfl)) (fun _ _ hz=>by obtain⟨rfl,ht1⟩:=hz;exact⟨(j,m),⟨(yu 0 hM ht1),trivial⟩,rfl,Stab.refl _ _ _⟩)) (obv (fun(j,m) _=>mv_r (v:=(Zb f)) rfl) ?_)
     refine ob_m rfl rfl rfl rfl (fun(j,m) wq hM hF=>mcl rfl rfl (clF_r rfl ent14) (wlive_ok cM f s wq (yd hM (i:=0) rfl)) (fun _ _ hz=>by obtain⟨U,V,rfl,hF1,ht1⟩:=hz;exact⟨(U,V),⟨(yu 0 hM (ht1.witr hF1)),trivial⟩,rfl,st_c rfl (st_c rfl (st_c rfl (st_c rfl (st_c trivial (st_c trivial (st_c trivial (st_c trivial (st_c trivial (st_n)))))))))⟩)) (ob_m rfl rfl rfl rfl (fun(j,m) wq hM hF=>m_sto (L' := (Zcc (Sto.Lst s.u m) cM f s j m p n)) 2 rfl rfl rfl rfl ti24 rfl rfl hM rfl rfl rfl rfl (fun _ h=>⟨(j,m),⟨h,trivial⟩,rfl,Stab.refl _ _ _⟩)) (obv (fun(j,m) _=>asg_r (v:=(Za s.now)) rfl) ?_))
     refine obv (fun(j,m) _=>asg_r (v:=j) rfl) ?_
     refine obv (fun(j,m) _=>asg_r (v:=Zf) rfl) ?_
     exact ob_n
   rintro⟨j,m⟩ ao E -
   have W:=ya6 E
   have X:=yav E
   have t:=yan X
   refine pQQ tt none t 2 ?_
   refine retL4 (v:=Za7) (v' := (Za s.now)) (v'' := j) (v''' := Zf) Tryz.results6 (rvA (cs:=Zx) rfl yat rfl ti24 rfl (yab t (i:=3) (o:=0) (vs:=Zx) rfl rfl)) (rvT rfl) (rvT rfl) (rvT rfl) ?_
   have hww:=own_ww (yd t (i:=0) rfl)
   have hwl:=hS.list hww.1 hww.2.1 hww.2.2 W
   have Y:=yj [1,0,2,3] t
   exact⟨j,m,s.now,rfl,⟨hwl,o_⟩,St.eM Y⟩
end
section
open Go Go.Sx
theorem clean_law(lv:Value)(xs:List Mv)(w:World)(hl:Recs 4 Mv.cells (fun _=>True) w lv xs)(hxs:∀ x∈xs,x.ok)(lt:Int)(hlt:0<=lt/\lt<=255) :
 CR ya 3 #[lv,(Z0 lt)] w (fun r w' => r = .bool true/\Chg [] w w'):=by
 refine en Tryz.func3 Tryz.ntmps3 ?_
 have hst0:=yaf w
 refine pPL hst0 8 ?_
 refine cl ent6 (moved_ok lv xs w hl hxs) ?_
 rintro _ U ⟨f,c,d,rfl,I,ht⟩
 have p:=(ya9 hst0 ht)
 have hWL:=I.1
 have hn0:=hWL.n0
 have hyl:(c.length:Int)<=30:=hWL.len
 refine pLL p 5 ?_
 refine al (cs:=Zbj) rfl ti24 rfl p (fun g V W X J=>sLL J 15 fun K q=>?_)
 refine cl ent7 (Look_ok cfM ⟨⟨d_,d_⟩,⟨d_,d_⟩,⟨d_,d_⟩,⟨d_,d_⟩⟩ d f c K (yf q (i:=1) rfl f_).any hWL.ok o_) ?_
 rintro s u y
 have h:St _ [rowR flC s 36 2 (flawsS cfM d c),blk g 24 Zx,rowR Lv.cells f 34 7 c] u:=ya8 q y.2 y.1
 refine lenR (m:=(flawsS cfM d c).length) 0 rfl rfl y8 h rfl (cmp rfl rfl rfl (c_nne (by rw[hWL.clean];rfl)) (pLL h 10 ?_))
 refine rem (a:=lt) (b:=32) (e:=lt%32) rfl rfl rfl d_ (zbt hlt.1) (cv (a:=lt%32) (e:=lt%32) rfl rfl yax yas (w64 o_) ?_)
 have L:St _ [rowR flC Zl 36 2 (wnt 2 (expP c (d+lt%32)) 0),rowR flC s 36 2 (flawsS cfM d c),blk g 24 Zx,rowR Lv.cells f 34 7 c] u:=ybd h 36 2
 have M:=yj [0,3,2] L
 refine pLP h 16 ?_
 refine lp (α:=Nat×Value) (fun(i,wv)=>[(5,(Zb g)),(7,f),(9,(Za (d+lt%32))),(10,wv),(11,(Za i))]) (fun(i,wv) w1=>St [(w,[])] [rowR flC wv 36 2 (wnt 2 (expP c (d+lt%32)) i),rowR Lv.cells f 34 7 c,blk g 24 Zx] w1/\i<=c.length) (fun(i,wv)=>c.length-i) (0,Zl) ⟨rfl,rfl,eqI (by first|rfl|omega),rfl,eqI (by first|rfl|omega),trivial⟩ (⟨M,o_⟩) ?_
 rintro⟨i,wv⟩ Y N ⟨hst3,hi⟩
 refine pPL hst3 5 ?_
 refine lenR (m:=c.length) 1 rfl rfl y0 hst3 rfl ?_
 by_cases Z:((i:Int):Int)<((c.length:Int):Int)
 . refine pLL hst3 12 ?_
   refine ixR (cf:=Lv.cells) (k:=i) (i:=(i:Int)) rfl rfl rfl y0 ti34 (yf hst3 (i:=1) rfl f_) o_ o_ (nd_get om) (faR (cf:=Lv.cells) (off:=0) (off' := 6) rfl rfl yy rfl ti2 rfl (yf hst3 (i:=1) rfl f_) (nd_get om) (ldR (cf:=Lv.cells) rfl rfl yas rfl (yf hst3 (i:=1) rfl f_) (nd_get om) rfl (pLL hst3 1 ?_)))
   by_cases z:((ndA c i).exp:Int)<=(d+lt%32:Int)
   . refine pLL hst3 7 ?_
     refine bld (pvs:=[(0,Zar),(1,(Za i))]) (v:=.agg (Zcj i)) rfl rfl (buildS [(0,[Zar]),(1,(Zd i))] ti36 pl36 rfl ⟨rfl,rfl,rfl,rfl,trivial⟩ rfl) (bsv (vs:=(Zcy i)) (cs:=(Zbs i)) rfl rfl y8 ti36 rfl (by simp[Value.cells]) rfl rfl rfl hst3 (fun O aa ab ac A=>apdR (cf:=flC) (ys:=wnt 2 (expP c (d+lt%32)) i) (zs:=[(2,(i:Int))]) (LL:=fun l=>[row (Zv O) 36 2 1 ((Zbs i)),rowR flC l 36 2 ((wnt 2 (expP c (d+lt%32)) i)++([(2,(i:Int))])),rowR Lv.cells f 34 7 c,blk g 24 Zx]) 1 rfl rfl rfl y8 ti36 rfl d_ A rfl (yaq A (i:=0) rfl) (fl_one _) (by have h7:=wnt_len 2 (expP c (d+lt%32)) i;simp only[zo,zk,zq];omega) (by have h7:=wnt_len 2 (expP c (d+lt%32)) i;simp only[zo,zk,zq];omega) f_ ?_))
     intro l ad P ae
     have B:=yj [1,2,3] P
     refine pLQ B 9 ?_
     refine tN (?_)
     have hpe:expP c (d+lt%32) i=true:=decide_eq_true z
     have hwn:wnt 2 (expP c (d+lt%32)) (i+1)=(wnt 2 (expP c (d+lt%32)) i)++([(2,(i:Int))]):=by rw[wnt,hpe];simp
     exact again ((i+1),l) ⟨rfl,rfl,rfl,rfl,eqI (by first|rfl|omega),trivial⟩ (⟨by rw[hwn];exact B,o_⟩) (by show (c.length-(i+1):Nat)<c.length-i;omega)
   . refine pLQ hst3 12 ?_
     refine tN (?_)
     have hpe:expP c (d+lt%32) i=false:=decide_eq_false z
     have hwn:wnt 2 (expP c (d+lt%32)) (i+1)=wnt 2 (expP c (d+lt%32)) i:=by rw[wnt,hpe];simp
     exact again ((i+1),wv) ⟨rfl,rfl,rfl,rfl,eqI (by first|rfl|omega),trivial⟩ (⟨by rw[hwn];exact hst3,o_⟩) (by show (c.length-(i+1):Nat)<c.length-i;omega)
 . refine pLL hst3 14 ?_
   refine cl ent7 (Look_ok cfM ⟨⟨d_,d_⟩,⟨d_,d_⟩,⟨d_,d_⟩,⟨d_,d_⟩⟩ (d+lt%32) f c N (yf hst3 (i:=1) rfl f_).any hWL.ok o_) ?_
   rintro n o C
   have D:St _ [rowR flC n 36 2 (flawsS cfM (d+lt%32) c),rowR flC wv 36 2 (wnt 2 (expP c (d+lt%32)) i),rowR Lv.cells f 34 7 c,blk g 24 Zx] o:=ya8 hst3 C.2 C.1
   have hie:i=c.length:=by omega
   have j:=D
   refine pLL D 1 ?_
   rw[hie]at j
   have E:Recs 2 flC (fun _=>True) o n (flawsS cfM (d+lt%32) c):=Sl.any (yf j (i:=0) rfl f_)
   rw[hWL.later (t:=(d+lt%32)) o_]at E
   refine cl ent8 (same_ok n wv (wnt 2 (expP c (d+lt%32)) c.length) o E (Sl.any (yf j (i:=1) rfl f_)) (by have:=wnt_len 2 (expP c (d+lt%32)) c.length;omega)) ?_
   rintro _ Q ⟨rfl,R⟩
   have G:=yaa j R
   refine pLL G 1 ?_
   refine cl ent9 (works_ok Q) ?_
   rintro _ af ⟨rfl,S⟩
   have H:=yaa G S
   refine pLQ H 5 ?_
   refine ret1 (v:=Zf) Tryz.results3 rfl ?_
   exact⟨rfl,H.chg s_⟩
end
end Go.Proofs.YtdopagghhibopaaGreat
