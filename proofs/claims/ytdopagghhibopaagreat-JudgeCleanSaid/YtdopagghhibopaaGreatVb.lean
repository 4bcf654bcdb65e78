/- What the functions that the statements reach do: walks through the code of the program and of the references, one theorem a function; under what is said of its arguments. -/
import Derived.Test.YtdopagghhibopaaGreatFc
import Derived.Test.YtdopagghhibopaaGreatVa
import Derived.Test.YtdopagghhibopaaGreatFa
import Derived.Test.YtdopagghhibopaaGreatFd
import Derived.Ground.Names2Prog
import Derived.Shelf.Slices.Delete
import Derived.Test.YtdopagghhibopaaGreatFb
set_option linter.unusedVariables false
set_option linter.unusedSimpArgs false
set_option maxRecDepth 100000
set_option maxHeartbeats 4000000
namespace Go.Proofs.YtdopagghhibopaaGreat
section
open Go Go.Sx
theorem tdel_ok(tb ab:Nat)(t:TW)(w:World)(hO:Own (TW.R tb ab t) w)(id:Int)(i:Nat)(hi:t.A.inU i)(hid:ndA t.ids i=id) :
 CR ya 101 (Zad tb id) w (fun r w' => ∃ (t2:TW),r = .int .i64 0/\((∀ x,t2.mem x↔t.mem x/\x≠id)/\t2.A.n=t.A.n/\t2.A.used=t.A.used-1/\0<t.A.used)/\Turn (TW.R tb ab t) w w' (TW.R tb ab t2)):=by
 have hnl:t.cs.length=t.n:=rfl
 have htop:=hO.fact.top
 obtain⟨p,hp,hc,hf⟩:=hO.fact.find_in hi
 rw[hid]at hf
 have hin:=(hO.fact.val hp hc).2.2.2
 have hin2:i<65536:=z6 hin hO.fact.an
 have hil:=(hO.fact.val hp hc).2.2.1
 refine en Tryz.func101 Tryz.ntmps101 ?_
 have hst0:=Own.of hO.un
 have hT:t.ok:=hO.fact
 have j:=yc [_,_,_] _ hst0
 refine pPL hst0 9 ?_
 refine cl ent146 (tvalid_ok tb ab t w (yd j (i:=0) rfl) hT) ?_
 rintro _ s ⟨rfl,ht⟩
 have l:=(yp j ht)
 have m:=yc [_,_,_] _ l
 refine pLL l 10 ?_
 refine cl ent147 (tfindat_ok tb ab t s (yd m (i:=0) rfl) hT id p true hf) ?_
 rintro _ u ⟨rfl,ht⟩
 have a:=(yp m ht)
 refine pLL a 24 ?_
 refine ixR (cf:=ncf) (k:=p) (i:=(p:Int)) rfl rfl rfl yh ti3 (yf a (i:=2) rfl f_) o_ o_ (nd_get om) (ldR (cf:=ncf) rfl rfl ye rfl (yf a (i:=2) rfl f_) (nd_get om) rfl (ar (e:=((i:Nat):Int)) rfl rfl rfl rfl (by rw[w64 o_];omega) (pLL a 11 ?_)))
 refine cl ent98 (wfree_ok ab t.w u (yd a (i:=3) rfl) i hi) ?_
 rintro _ y ⟨b,rfl,c,ht⟩
 have d:=yu 3 a ht
 have hA9:=(yac d (i:=3) rfl:b.A.ok)
 have o:=yc [_,_,_] _ d
 refine pLL d 16 ?_
 refine cl ent153 (tclear_ok tb ab t y (yd o (i:=0) rfl) hT p i hp hc) ?_
 rintro _ z ⟨rfl,g,hnl9,hcd9,ht⟩
 have h:=(yp o ht)
 refine pLL h 9 ?_
 refine ixR (cf:=ucf) (k:=i) (i:=((i:Nat):Int)) rfl rfl rfl yad ti30 (yf h (i:=1) rfl f_) o_ o_ (nd_get om) (stoR (f:=(fun _=>0)) (L' := (Zcz tb ab t (updA t.ids i (fun _=>0)) g b)) 1 rfl rfl rfl rfl ti30 rfl rfl h rfl f_ om rfl rfl rfl (fun B q=>pLQ q 8 ?_))
 refine ret1 (v:=Zc) Tryz.results101 rfl ?_
 have hpo:=hT.del hi hA9 c hnl9 hcd9 t.iv t.cv (is2:=updA t.ids i (fun _=>0)) rfl
 rw[hid]at hpo
 exact⟨⟨t.iv,t.cv,b,updA t.ids i (fun _=>0),g⟩,rfl,⟨hpo.2,c.n,c.used,c.pos⟩,yv (yw (p:=(⟨t.iv,t.cv,b,updA t.ids i (fun _=>0),g⟩:TW).ok) (yc [_,_,_,_] _ q) hpo.1) zh⟩
theorem cloneU_ok(v:Value)(xs:List Int)(w:World)(hv:Recs 1 ucf (fun _=>True) w v xs)(hl0:xs.length<=1000000) :
 CR ya 142 #[v] w (fun r w' => FreshR 1 ucf w w' r 30 xs/\Chg [] w w'):=by
 refine en Tryz.func142 Tryz.ntmps142 ?_
 have hst0:=yaf w
 refine pPL hst0 9 ?_
 refine eqNilR (v:=v) rfl rfl rfl yad hv (pLP hst0 2 ?_)
 cases e:(nilR v:Bool)
 . skip
   refine pPL hst0 5 ?_
   refine bsv (vs:=[]) (cs:=[]) rfl rfl yad ti30 rfl (by intro v hv;simp at hv) rfl rfl rfl hst0 ?_
   intro f g h i c
   have d:=c
   refine pLL c 1 ?_
   refine apdR (cf:=ucf) (ys:=[]) (zs:=xs) (LL:=fun a=>[rowR ucf a 30 1 xs]) 0 rfl rfl rfl yad ti30 rfl d_ d rfl (Recs.src (yap d s_ d_ hv) f_) (flat_one f_ _) (by simp only[zq];omega) (by simp only[zq];omega) f_ (fun a j b k=>pLQ b 4 ?_)
   refine ret1 (v:=a) Tryz.results142 rfl ?_
   exact⟨ybk b s_,b.chg s_⟩
 . skip
   refine pPQ hst0 8 ?_
   refine ret1 (v:=Zl) Tryz.results142 rfl ?_
   obtain rfl:=nil_nil e hv
   exact⟨FreshR.nil', hst0.chg s_⟩
theorem cloneN_ok(v:Value)(xs:List Nat)(w:World)(hv:Recs 1 ncf (fun _=>True) w v xs)(hl0:xs.length<=1000000) :
 CR ya 95 #[v] w (fun r w' => FreshR 1 ncf w w' r 3 xs/\Chg [] w w'):=by
 refine en Tryz.func95 Tryz.ntmps95 ?_
 have hst0:=yaf w
 refine pPL hst0 9 ?_
 refine eqNilR (v:=v) rfl rfl rfl yh hv (pLP hst0 2 ?_)
 cases e:(nilR v:Bool)
 . skip
   refine pPL hst0 5 ?_
   refine bsv (vs:=[]) (cs:=[]) rfl rfl yh ti3 rfl (by intro v hv;simp at hv) rfl rfl rfl hst0 ?_
   intro f g h i c
   have d:=c
   refine pLL c 1 ?_
   refine apdR (cf:=ncf) (ys:=[]) (zs:=xs) (LL:=fun a=>[rowR ncf a 3 1 xs]) 0 rfl rfl rfl yh ti3 rfl d_ d rfl (Recs.src (yap d s_ d_ hv) f_) (flat_one f_ _) (by simp only[zq];omega) (by simp only[zq];omega) f_ (fun a j b k=>pLQ b 4 ?_)
   refine ret1 (v:=a) Tryz.results95 rfl ?_
   exact⟨ybk b s_,b.chg s_⟩
 . skip
   refine pPQ hst0 8 ?_
   refine ret1 (v:=Zl) Tryz.results95 rfl ?_
   obtain rfl:=nil_nil e hv
   exact⟨FreshR.nil', hst0.chg s_⟩
theorem tcopy_ok(tb ab:Nat)(t:TW)(w:World)(hO:Own (TW.R tb ab t) w) :
 CR ya 92 (Zk tb) w (fun r w' => ∃ (tb2 ab2:Nat) (t2:TW),r = .pointer (some ⟨tb2,0,none⟩)/\((∀ x,t2.mem x↔t.mem x)/\t2.A.n=t.A.n/\t2.A.used=t.A.used)/\Turn (TW.R tb ab t) w w' (allR [(TW.R tb ab t),(TW.R tb2 ab2 t2)])):=by
 have hnl:t.cs.length=t.n:=rfl
 have htop:=hO.fact.top
 have hil:t.ids.length=t.w.A.begun:=hO.fact.idl
 have hbeg:t.w.A.begun<=t.w.A.n:=hO.fact.beg
 have han:t.w.A.n<=65536:=hO.fact.an
 refine en Tryz.func92 Tryz.ntmps92 ?_
 have hst0:=Own.of hO.un
 have hT:t.ok:=hO.fact
 have f:=yc [_,_,_] _ hst0
 refine pPL hst0 9 ?_
 refine cl ent146 (tvalid_ok tb ab t w (yd f (i:=0) rfl) hT) ?_
 rintro _ D ⟨rfl,ht⟩
 have g:=(yp f ht)
 refine pLP g 7 ?_
 refine rgs (Γ:=Nat×AW×Value×Value×Nat) mixed [[],[0],[0,1],[0,1,2],[0,1,2,3],[],[5],[5,6],[5,6,7],[0,1,2,3,4,5,6,7,8],[],[10],[10,11],[10,11,12],[0,1,2,3,4,5,6,7,8,9,10,11,12,13],[0,1,2,3,4,5,6,7,8,9,10,11,12,13,14],[0,1,2,3,4,5,6,7,8,9,10,11,12,13,14,15],[0,1,2,3,4,5,6,7,8,9,10,11,12,13,14,15,16]] [4,9,14,16] d_ [fun _=>(Zb tb),fun _=>(Zb tb),fun _=>(Zbg tb),fun _=>(Zb ab),fun(c,d,a,b,e)=>(Zb c),fun _=>(Zb tb),fun _=>(Zb tb),fun _=>(Zab tb),fun _=>t.iv,fun(c,d,a,b,e)=>a,fun _=>(Zb tb),fun _=>(Zb tb),fun _=>(Za4 tb),fun _=>t.cv,fun(c,d,a,b,e)=>b,fun(c,d,a,b,e)=>(Zcg c a b),fun(c,d,a,b,e)=>(Zb e),fun(c,d,a,b,e)=>(Zb e)] [(fun(c,d,a,b,e)=>[blk tb 258 (Zaf tb ab t),rowR ucf t.iv 30 1 t.ids,rowR ncf t.cv 3 1 t.cs,(AW.R ab t.w)],fun _ _=>True),(fun(c,d,a,b,e)=>[blk tb 258 (Zaf tb ab t),rowR ucf t.iv 30 1 t.ids,rowR ncf t.cv 3 1 t.cs,facR (∃ qs,d.A={ t.w.A with ps:=qs }) (Zed ab t.w c d)],fun _ _=>True),(fun(c,d,a,b,e)=>[rowR ucf a 30 1 t.ids,blk tb 258 (Zaf tb ab t),rowR ucf t.iv 30 1 t.ids,rowR ncf t.cv 3 1 t.cs,facR (∃ qs,d.A={ t.w.A with ps:=qs }) (Zed ab t.w c d)],fun _ _=>True),(fun(c,d,a,b,e)=>[rowR ncf b 3 1 t.cs,rowR ucf a 30 1 t.ids,blk tb 258 (Zaf tb ab t),rowR ucf t.iv 30 1 t.ids,rowR ncf t.cv 3 1 t.cs,facR (∃ qs,d.A={ t.w.A with ps:=qs }) (Zed ab t.w c d)],fun _ _=>True),(fun(c,d,a,b,e)=>[blk e 258 [Z6,(Zb c),a,b],rowR ncf b 3 1 t.cs,rowR ucf a 30 1 t.ids,blk tb 258 (Zaf tb ab t),rowR ucf t.iv 30 1 t.ids,rowR ncf t.cv 3 1 t.cs,facR (∃ qs,d.A={ t.w.A with ps:=qs }) (Zed ab t.w c d)],fun _ _=>True)] (ab,t.w,Zl,Zl,0) (fun(c,d,a,b,e)=>(3,(Zb e)) :: (23,(Zb e)) :: (22,(Zcg c a b)) :: (21,b) :: (20,t.cv) :: (19,(Za4 tb)) :: (18,(Zb tb)) :: (17,(Zb tb)) :: (16,a) :: (15,t.iv) :: (14,(Zab tb)) :: (13,(Zb tb)) :: (12,(Zb tb)) :: (11,(Zb c)) :: (10,(Zb ab)) :: (9,(Zbg tb)) :: (8,(Zb tb)) :: (7,(Zb tb)) :: _) rfl g (fun _ _=>trivial) ?_ (fun(c,d,a,b,e)=>rfl) rfl ?_
 . skip
   refine obv (fun(c,d,a,b,e) _=>mv_r (v:=(Zb tb)) rfl) ?_
   refine obv (fun(c,d,a,b,e) _=>nilc_r rfl) ?_
   refine obv (fun(c,d,a,b,e) _=>fa_r (o' := 1) rfl ya5 rfl ti126 rfl) ?_
   refine ob_q1 rfl rfl rfl rfl (fun(c,d,a,b,e) wq hM hF=>qv rfl rfl (ld_r rfl ybj rfl (yo hM (i:=0) rfl rfl))) (ob_m rfl rfl rfl rfl (fun(c,d,a,b,e) wq hM hF=>mcl rfl rfl (clF_r rfl ent91) (wcopy_ok ab t.w wq (yd hM (i:=3) rfl)) (fun _ _ hz=>by obtain⟨k,l,rfl,hF1,ht1⟩:=hz;exact⟨(k,l,a,b,e),⟨(yu 3 hM (ht1.witr hF1)),trivial⟩,rfl,st_c rfl (st_c rfl (st_c rfl (st_c rfl (st_c trivial (st_c rfl (st_c rfl (st_c rfl (st_c rfl (st_c trivial (st_c rfl (st_c rfl (st_c rfl (st_c rfl (st_c trivial (st_c trivial (st_c trivial (st_c trivial (st_n))))))))))))))))))⟩)) (obv (fun(c,d,a,b,e) _=>mv_r (v:=(Zb tb)) rfl) ?_))
   refine obv (fun(c,d,a,b,e) _=>nilc_r rfl) ?_
   refine obv (fun(c,d,a,b,e) _=>fa_r (o' := 2) rfl ya5 rfl ti44 rfl) ?_
   refine ob_q2 rfl rfl rfl rfl rfl (fun(c,d,a,b,e) wq hM hF=>qv rfl rfl (ld_r rfl yad rfl (yo hM (i:=0) rfl rfl))) (fun(c,d,a,b,e) wq hM hF=>qv rfl rfl (ld_r rfl yad rfl (yo hM (i:=0) rfl rfl))) (ob_m rfl rfl rfl rfl (fun(c,d,a,b,e) wq hM hF=>mcl rfl rfl (clF_r rfl ent142) (cloneU_ok t.iv t.ids wq (yf hM (i:=1) rfl f_).any (by first|omega|(simp;omega))) (fun m _ hz=>⟨(c,d,m,b,e),⟨(ya8 hM hz.2 hz.1),trivial⟩,rfl,st_c rfl (st_c rfl (st_c rfl (st_c rfl (st_c rfl (st_c rfl (st_c rfl (st_c rfl (st_c rfl (st_c trivial (st_c rfl (st_c rfl (st_c rfl (st_c rfl (st_c trivial (st_c trivial (st_c trivial (st_c trivial (st_n))))))))))))))))))⟩)) (obv (fun(c,d,a,b,e) _=>mv_r (v:=(Zb tb)) rfl) ?_))
   refine obv (fun(c,d,a,b,e) _=>nilc_r rfl) ?_
   refine obv (fun(c,d,a,b,e) _=>fa_r (o' := 3) rfl ya5 rfl ti115 rfl) ?_
   refine ob_q3 rfl rfl rfl rfl rfl rfl (fun(c,d,a,b,e) wq hM hF=>qv rfl rfl (ld_r rfl yh rfl (yo hM (i:=0) rfl rfl))) (fun(c,d,a,b,e) wq hM hF=>qv rfl rfl (ld_r rfl yh rfl (yo hM (i:=0) rfl rfl))) (fun(c,d,a,b,e) wq hM hF=>qv rfl rfl (ld_r rfl yh rfl (yo hM (i:=1) rfl rfl))) (ob_m rfl rfl rfl rfl (fun(c,d,a,b,e) wq hM hF=>mcl rfl rfl (clF_r rfl ent95) (cloneN_ok t.cv t.cs wq (yf hM (i:=3) rfl f_).any (by first|omega|(simp;omega))) (fun o _ hz=>⟨(c,d,a,o,e),⟨(ya8 hM hz.2 hz.1),trivial⟩,rfl,st_c rfl (st_c rfl (st_c rfl (st_c rfl (st_c rfl (st_c rfl (st_c rfl (st_c rfl (st_c rfl (st_c rfl (st_c rfl (st_c rfl (st_c rfl (st_c rfl (st_c trivial (st_c trivial (st_c trivial (st_c trivial (st_n))))))))))))))))))⟩)) (ob_q1 rfl rfl rfl rfl (fun(c,d,a,b,e) wq hM hF=>qv rfl rfl (bld_r (pvs:=[(1,(Zb c)),(2,a),(3,b)]) (v:=.agg #[Z6,(Zb c),a,b]) rfl (buildS [(1,(Zj c)),(2,[a]),(3,[b])] ti258 pl258 rfl ⟨rfl,rfl,rfl,(cells_one (ya0 hM (i:=1) rfl)),rfl,(cells_one (ya0 hM (i:=0) rfl)),trivial⟩ rfl))) (ob_m rfl rfl rfl rfl (fun(c,d,a,b,e) wq hM hF=>m_bx (v:=(Zcg c a b)) (cs:=[Z6,(Zb c),a,b]) rfl rfl rfl hM (fun q _ h=>⟨(c,d,a,b,q),⟨h,trivial⟩,rfl,st_c rfl (st_c rfl (st_c rfl (st_c rfl (st_c rfl (st_c rfl (st_c rfl (st_c rfl (st_c rfl (st_c rfl (st_c rfl (st_c rfl (st_c rfl (st_c rfl (st_c rfl (st_c rfl (st_c trivial (st_c trivial (st_n))))))))))))))))))⟩)) (obv (fun(c,d,a,b,e) _=>asg_r (v:=(Zb e)) rfl) ?_))))
   exact ob_n
 rintro⟨c,d,a,b,e⟩ E s -
 have j:=yj [6,0,1,2,3,4,5] s
 have u:=ya6 j
 have y:=yav j
 have z:=yan y
 refine sQQ tt none z 17 fun G B=>?_
 refine ret1 (v:=(Zb e)) Tryz.results92 rfl ?_
 have C:=yj [5,6,7,0,2,4,3,1] B
 obtain⟨qs9,hq9⟩:=u
 have hpo:=hT.copy hq9 a b
 have hs9:=yw (p:=t.ok) (yc [_,_,_,_] _ C) hT
 have hs10:=yw (p:=(⟨a,b,d,t.ids,t.cs⟩:TW).ok) (yc [_,_,_,_] _ (ya7 hs9 (zau (l₁:=[_]) (l₂:=[_,_,_,_]) |>.append_right _))) hpo.1
 have hs11:=ya7 hs10 (List.Perm.swap _ _ _)
 exact⟨e,c,⟨a,b,d,t.ids,t.cs⟩,rfl,⟨hpo.2,by rw[show TW.A ⟨a,b,d,t.ids,t.cs⟩=_ from hq9],by rw[show TW.A ⟨a,b,d,t.ids,t.cs⟩=_ from hq9]⟩,yq (yc [_,_] _ hs11)⟩
theorem tnew_ok(m:Nat)(w:World)(hm:m<=65536) :
 CR ya 81 (Zai ((m:Nat):Int)) w (fun r w' => ∃ (tb ab:Nat) (t:TW),r = .tuple (Zae tb)/\((∀ x,¬ t.mem x)/\t.A.n=m/\t.A.used=0)/\Turn (allR []) w w' (TW.R tb ab t)):=by
 refine en Tryz.func81 Tryz.ntmps81 ?_
 have hst0:=yaf w
 refine pPL hst0 9 ?_
 refine cl ent80 (wnew_ok m w hm) ?_
 rintro _ z ⟨b,d,rfl,g,ht⟩
 have h:=(ya9 hst0 ht)
 refine pLP h 24 ?_
 refine lp (α:=Nat) (fun k=>[(0,(Za ((m:Nat):Int))),(2,Z6),(3,Zc),(4,(Zb b)),(5,Zc),(6,(Za ((k:Nat):Int)))]) (fun k w1=>St [(w,[])] [(AW.R b d)] w1/\P2 k/\2<=k/\(k=2\/k<4*m)) (fun k=>4*m-k) 2 ⟨rfl,rfl,rfl,rfl,rfl,eqI (by first|rfl|omega),trivial⟩ (⟨h,P2.two,o_,.inl rfl⟩) ?_
 rintro k B C ⟨hst3,hp2,hk2,hk3⟩
 have hk5:k<=262144:=by omega
 refine pPL hst3 6 ?_
 by_cases D:(((k:Nat):Int):Int)<(2*((m:Nat):Int):Int)
 . refine pLL hst3 9 ?_
   refine ar (e:=((k*2:Nat):Int)) rfl rfl rfl rfl (by rw[w64 o_];omega) (pLQ hst3 3 ?_)
   refine tN (?_)
   exact again (k*2) ⟨rfl,rfl,rfl,rfl,rfl,eqI (by first|rfl|omega),trivial⟩ (⟨hst3,hp2.dbl o_,o_,o_⟩) o_
 . refine pLL hst3 13 ?_
   refine mksB (cf:=ncf) (z0:=0) (m:=k) (c:=k) rfl rfl rfl yh ti3 rfl f_ d_ (zp _) o_ o_ hst3 (fun a E G H j=>bld (pvs:=[(1,(Zb b)),(3,(Zu a k))]) (v:=.agg (Zdy b a k)) rfl rfl (buildS [(1,(Zj b)),(3,(Zcd a k))] ti258 pl258 rfl ⟨rfl,rfl,rfl,rfl,trivial⟩ rfl) (bx (v:=(.agg (Zdy b a k))) (cs:=[Z6,(Zb b),Zl,(Zu a k)]) rfl rfl rfl j (fun f I J K l=>sLQ l 20 fun o q=>?_)))
   refine ret2 (v:=(Zb f)) (v' := Zc) Tryz.results81 rfl rfl ?_
   have s:=St.blkRow (cf:=ncf) q (i:=1) rfl f_ (zp _) (by simp only[maxLen];omega)
   have u:St _ [rowR ucf Zl 30 1 ([]),blk f 258 [(Zb f),(Zb b),Zl,(Zu a k)],rowR ncf (Zu a k) 3 1 (List.replicate k 0),(AW.R b d)] o:=ybd s 30 1
   have y:=yj [1,0,2,3] u
   have hpo:=TW.new_ok g hm hp2 hk2 o_ o_ Zl (Zu a k)
   exact⟨f,b,⟨.slice none 0 0,(Zu a k),d,[],List.replicate k 0⟩,rfl,⟨hpo.2,by rw[show TW.A ⟨.slice none 0 0,(Zu a k),d,[],List.replicate k 0⟩=_ from g];rfl,by rw[show TW.A ⟨.slice none 0 0,(Zu a k),d,[],List.replicate k 0⟩=_ from g];rfl⟩,St.endMade (yw (p:=(⟨.slice none 0 0,(Zu a k),d,[],List.replicate k 0⟩:TW).ok) (yc [_,_,_,_] _ y) hpo.1) s_⟩
end
section
open Go Go.Sx
def Sto.R(verts edges ub:Nat)(s:Sto):Res:=facR (s.ok verts edges) (allR [blk ub 130 (Zaa verts edges s (some s.mb)),rowR Lv.cells s.lv 34 7 s.live,mapV s.mb .u64 p_ s.im,famR 3 s.im,(AW.R s.aab s.aw),(TW.R s.tb s.ab s.t)])
theorem uvalid_ok(verts edges ub:Nat)(s:Sto)(w:World)(hO:Own (Sto.R verts edges ub s) w) :
 CR ya 57 (Zk ub) w (fun r w' => r = .bool true/\Turn (Sto.R verts edges ub s) w w' (Sto.R verts edges ub s)):=by
 refine en Tryz.func57 Tryz.ntmps57 ?_
 have hst0:=Own.of hO.un
 have hU:s.ok verts edges:=hO.fact
 refine pPL hst0 8 ?_
 refine neP (a:=some ⟨ub,0,none⟩) (c:=true) rfl rfl rfl ybq rfl (pLL hst0 5 ?_)
 refine neM (a:=some s.mb) (c:=true) rfl rfl rfl ym rfl (pLQ hst0 5 ?_)
 refine ret1 (v:=Zf) Tryz.results57 rfl ?_
 exact⟨rfl,yv (yw (p:=Sto.ok verts edges s) (yc [_,_,_,_,_,_] _ hst0) hU) zh⟩
theorem uindex_ok(verts edges ub:Nat)(s:Sto)(w:World)(hO:Own (Sto.R verts edges ub s) w)(id:Int) :
 CR ya 54 (Zad ub id) w (fun r w' => ∃ (z:Nat) (b:Bool),r = .tuple (Zaq z b)/\s.t.Got id z b/\Turn (Sto.R verts edges ub s) w w' (Sto.R verts edges ub s)):=by
 refine en Tryz.func54 Tryz.ntmps54 ?_
 have hst0:=Own.of hO.un
 have hU:s.ok verts edges:=hO.fact
 have c:=yw (p:=s.ok verts edges) (yc [_,_,_,_,_,_] _ hst0) hU
 refine pPL hst0 10 ?_
 refine cl ent57 (uvalid_ok verts edges ub s w (yd c (i:=0) rfl)) ?_
 rintro _ g ⟨rfl,ht⟩
 have h:=yu 0 c ht
 have a:=(yav h).unpack
 refine pLL a 13 ?_
 refine cl ent88 (tget_ok s.tb s.ab s.t g (yd a (i:=5) rfl) id) ?_
 rintro _ k ⟨d,e,rfl,j,ht⟩
 have f:=yu 5 a ht
 refine pLQ f 7 ?_
 refine ret2 (v:=(Za d)) (v' := (.bool e)) Tryz.results54 rfl rfl ?_
 exact⟨d,e,rfl,j,yv (yw (p:=Sto.ok verts edges s) (yc [_,_,_,_,_,_] _ f) hU) zh⟩
end
section
open Go Go.Sx
theorem ucheck_ok(verts edges ub:Nat)(s:Sto)(w:World)(hO:Own (Sto.R verts edges ub s) w)(x:Lv) :
 CR ya 44 (Zbn ub x) w (fun r w' => r = .int .i64 (s.chk verts edges x.u x.v)/\Turn (Sto.R verts edges ub s) w w' (Sto.R verts edges ub s)):=by
 have htu:s.t.A.used<=s.t.A.n:=hO.fact.tok.ul
 have hUn:=hO.fact.n
 have hUt:=hO.fact.tn
 have hUe:=hO.fact.en
 have hUv:=hO.fact.vn
 have hAu:s.A.used<=s.A.begun:=by have h7:=hO.fact.aok.used;omega
 have hAl:=hO.fact.aok.le
 refine en Tryz.func44 Tryz.ntmps44 ?_
 have hst0:=Own.of hO.un
 have hU:s.ok verts edges:=hO.fact
 refine pPL hst0 2 ?_
 refine bx (v:=(Zam x)) (cs:=(Zo x)) rfl rfl rfl hst0 ?_
 intro X B Y Z k
 have C:=yj [1,2,3,4,5,6,0] k
 have l:=yw (p:=s.ok verts edges) (yc [_,_,_,_,_,_] _ C) hU
 refine pLL k 7 ?_
 refine cl ent57 (uvalid_ok verts edges ub s B (yd l (i:=0) rfl)) ?_
 rintro _ aa ⟨rfl,ht⟩
 have D:=yu 0 l ht
 have d:=(yav D).unpack
 refine pLL d 10 ?_
 refine ld rfl rfl yg rfl (yo d (i:=6) rfl rfl) (pLL d 1 ?_)
 refine ld rfl rfl yg rfl (yo d (i:=6) rfl rfl) ?_
 by_cases ac:(x.u:Int)=(x.v:Int)
 . refine pLQ d 11 ?_
   refine ret1 (v:=(.int .i64 9)) ya2 rfl ?_
   exact⟨eqI (Sto.chk_loop o_).symm,yv (yw (p:=Sto.ok verts edges s) (yc [_,_,_,_,_,_] _ d) hU) zh⟩
 . refine pLP d 8 ?_
   by_cases ad:((s.A.used:Int):Int)≥((edges:Int):Int)
   . skip
     refine dr1 d 4 ?_
     intro wq hM
     refine mcl rfl rfl (clF_r rfl ent86) (wlen_ok s.aab s.aw wq (yd hM (i:=4) rfl)) ?_
     rintro _ _ ⟨rfl,ht1⟩
     refine aft (yu 4 hM ht1) (fun ae m=>?_)
     have E:=yj [4,0,1,2,3,5,6] m
     refine pQQ tt none E 9 ?_
     refine ret1 (v:=(.int .i64 12)) ya2 rfl ?_
     have G:=m
     exact⟨eqI (Sto.chk_edges o_ o_).symm,yv (yw (p:=Sto.ok verts edges s) (yc [_,_,_,_,_,_] _ G) hU) zh⟩
   . skip
     refine dr1 d 4 ?_
     intro wq hM
     refine mcl rfl rfl (clF_r rfl ent86) (wlen_ok s.aab s.aw wq (yd hM (i:=4) rfl)) ?_
     rintro _ _ ⟨rfl,ht1⟩
     refine aft (yu 4 hM ht1) (fun H I=>?_)
     have j:=yj [4,0,1,2,3,5,6] I
     refine pQL tt none j 10 ?_
     refine cl ent87 (tlen_ok s.tb s.ab s.t H (yd j (i:=5) rfl)) ?_
     rintro _ J ⟨rfl,ht⟩
     have e:=yu 5 j ht
     refine pLL e 7 ?_
     refine ld rfl rfl yg rfl (yo e (i:=6) rfl rfl) (pLL e 1 ?_)
     refine ld rfl rfl yg rfl (yo e (i:=6) rfl rfl) (bld (pvs:=[(0,(Ze x.u)),(1,(Ze x.v))]) (v:=.agg (Zbf x.u x.v)) rfl rfl (buildA [(0,(Zz x.u)),(1,(Zz x.v))] ti177 yah ti30 rfl ⟨rfl,rfl,rfl,rfl,trivial⟩ rfl s_) (pLP e 4 ?_))
     refine unr 3 (rds (pPL e 13 ?_))
     refine idxAgg (i:=0) rfl rfl rfl yah yg rfl ti30 d_ rfl (pLL e 10 ?_)
     refine cl ent88 (tget_ok s.tb s.ab s.t J (yd e (i:=5) rfl) x.u) ?_
     rintro _ o ⟨af,K,rfl,f,ht⟩
     have c:=yu 5 e ht
     refine pLP c 13 ?_
     cases q:(K:Bool)
     . skip
       subst q
       refine pPQ c 12 ?_
       refine tN (?_)
       refine rds (pPL c 13 ?_)
       refine idxAgg (i:=1) rfl rfl rfl yah yg rfl ti30 d_ rfl (pLL c 10 ?_)
       refine cl ent88 (tget_ok s.tb s.ab s.t o (yd c (i:=5) rfl) x.v) ?_
       rintro _ ag ⟨ah,L,rfl,g,ht⟩
       have a:=yu 5 c ht
       refine pLP a 13 ?_
       cases y:(L:Bool)
       . skip
         subst y
         refine pPQ a 12 ?_
         refine tN (?_)
         refine rds (pPL a 20 ?_)
         by_cases ai:(((s.t.A.used:Int)+1)+1:Int)>((verts:Int):Int)
         . refine pLQ a 11 ?_
           refine ret1 (v:=(.int .i64 11)) ya2 rfl ?_
           have M:=yj [1,2,3,4,0,5,6] a
           have c0:=f.cnt
           simp at c0
           have c1:=g.cnt
           simp at c1
           exact⟨eqI (Sto.chk_verts o_ o_ o_).symm,yv (yw (p:=Sto.ok verts edges s) (yc [_,_,_,_,_,_] _ M) hU) zh⟩
         . refine pLQ a 12 ?_
           refine ret1 (v:=Zc) ya2 rfl ?_
           have N:=yj [1,2,3,4,0,5,6] a
           have c0:=f.cnt
           simp at c0
           have c1:=g.cnt
           simp at c1
           exact⟨eqI (Sto.chk_ok o_ o_ o_).symm,yv (yw (p:=Sto.ok verts edges s) (yc [_,_,_,_,_,_] _ N) hU) zh⟩
       . skip
         subst y
         refine pPQ a 8 ?_
         refine tN (?_)
         refine rds (pPL a 20 ?_)
         by_cases aj:((s.t.A.used:Int)+1:Int)>((verts:Int):Int)
         . refine pLQ a 11 ?_
           refine ret1 (v:=(.int .i64 11)) ya2 rfl ?_
           have O:=yj [1,2,3,4,0,5,6] a
           have c0:=f.cnt
           simp at c0
           have c1:=g.cnt
           simp at c1
           exact⟨eqI (Sto.chk_verts o_ o_ o_).symm,yv (yw (p:=Sto.ok verts edges s) (yc [_,_,_,_,_,_] _ O) hU) zh⟩
         . refine pLQ a 12 ?_
           refine ret1 (v:=Zc) ya2 rfl ?_
           have P:=yj [1,2,3,4,0,5,6] a
           have c0:=f.cnt
           simp at c0
           have c1:=g.cnt
           simp at c1
           exact⟨eqI (Sto.chk_ok o_ o_ o_).symm,yv (yw (p:=Sto.ok verts edges s) (yc [_,_,_,_,_,_] _ P) hU) zh⟩
     . skip
       subst q
       refine pPQ c 8 ?_
       refine tN (?_)
       refine rds (pPL c 13 ?_)
       refine idxAgg (i:=1) rfl rfl rfl yah yg rfl ti30 d_ rfl (pLL c 10 ?_)
       refine cl ent88 (tget_ok s.tb s.ab s.t o (yd c (i:=5) rfl) x.v) ?_
       rintro _ ak ⟨al,Q,rfl,h,ht⟩
       have b:=yu 5 c ht
       refine pLP b 13 ?_
       cases z:(Q:Bool)
       . skip
         subst z
         refine pPQ b 12 ?_
         refine tN (?_)
         refine rds (pPL b 20 ?_)
         by_cases am:((s.t.A.used:Int)+1:Int)>((verts:Int):Int)
         . refine pLQ b 11 ?_
           refine ret1 (v:=(.int .i64 11)) ya2 rfl ?_
           have S:=yj [1,2,3,4,0,5,6] b
           have c0:=f.cnt
           simp at c0
           have c1:=h.cnt
           simp at c1
           exact⟨eqI (Sto.chk_verts o_ o_ o_).symm,yv (yw (p:=Sto.ok verts edges s) (yc [_,_,_,_,_,_] _ S) hU) zh⟩
         . refine pLQ b 12 ?_
           refine ret1 (v:=Zc) ya2 rfl ?_
           have U:=yj [1,2,3,4,0,5,6] b
           have c0:=f.cnt
           simp at c0
           have c1:=h.cnt
           simp at c1
           exact⟨eqI (Sto.chk_ok o_ o_ o_).symm,yv (yw (p:=Sto.ok verts edges s) (yc [_,_,_,_,_,_] _ U) hU) zh⟩
       . skip
         subst z
         refine pPQ b 8 ?_
         refine tN (?_)
         refine rds (pPL b 20 ?_)
         by_cases an:((s.t.A.used:Int):Int)>((verts:Int):Int)
         . refine pLQ b 11 ?_
           refine ret1 (v:=(.int .i64 11)) ya2 rfl ?_
           have V:=yj [1,2,3,4,0,5,6] b
           have c0:=f.cnt
           simp at c0
           have c1:=h.cnt
           simp at c1
           exact⟨eqI (Sto.chk_verts o_ o_ o_).symm,yv (yw (p:=Sto.ok verts edges s) (yc [_,_,_,_,_,_] _ V) hU) zh⟩
         . refine pLQ b 12 ?_
           refine ret1 (v:=Zc) ya2 rfl ?_
           have W:=yj [1,2,3,4,0,5,6] b
           have c0:=f.cnt
           simp at c0
           have c1:=h.cnt
           simp at c1
           exact⟨eqI (Sto.chk_ok o_ o_ o_).symm,yv (yw (p:=Sto.ok verts edges s) (yc [_,_,_,_,_,_] _ W) hU) zh⟩
end
section
open Go Go.Sx
theorem ucheck0_ok(verts edges ub:Nat)(s:Sto)(w:World)(hO:Own (Sto.R verts edges ub s) w)(x:Lv)(hc:s.chk verts edges x.u x.v=0) :
 CR ya 44 (Zbn ub x) w (fun r w' => r = .int .i64 0/\Turn (Sto.R verts edges ub s) w w' (Sto.R verts edges ub s)):=by
 have h:=ucheck_ok verts edges ub s w hO x
 rw[hc]at h
 exact h
theorem tputc_ok(tb ab:Nat)(t:TW)(w:World)(hO:Own (TW.R tb ab t) w)(id:Int)(hr:t.mem id\/t.A.used<t.A.n)(hid:InK .u64 id) :
 CR ya 106 (Zad tb id) w (fun r w' => ∃ (z:Nat) (b:Bool) (t2:TW),r = .tuple #[.int .i64 (z:Int),.bool b,.int .i64 0]/\TW.Put t t2 id/\Turn (TW.R tb ab t) w w' (TW.R tb ab t2)):=by
 by_cases hm:t.mem id
 . obtain⟨i,hi,hx⟩:=hm
   exact CR.mono (tput1_ok tb ab t w hO id i hi hx) fun r w' ⟨h1,h2⟩=>⟨i,false,t,h1,⟨fun x=>⟨.inl,fun h=>h.elim (fun h=>h) (fun h=>h▸⟨i,hi,hx⟩)⟩,rfl,by rw[TW.cnt_in ⟨i,hi,hx⟩];rfl⟩,h2⟩
 . exact CR.mono (tput0_ok tb ab t w hO id hm hid (hr.resolve_left hm)) fun r w' ⟨i,t2,h1,⟨h2,h3,h4⟩,h5⟩=>⟨i,true,t2,h1,⟨h2,h3,by rw[TW.cnt_out hm];exact h4⟩,h5⟩
theorem uinsert_ok(verts edges ub:Nat)(s:Sto)(w:World)(hO:Own (Sto.R verts edges ub s) w)(x:Lv)(hxo:x.ok)(hc:s.chk verts edges x.u x.v=0)(hl1:s.last<=9000000000000000000) :
 CR ya 53 #[(Zb ub),(Zam x),(Za x.exp)] w (fun r w' => ∃ (i:Nat) (s2:Sto),r = .tuple #[(Zbx i (s.last+1) x),.int .i64 0]/\((∀ y,s2.has y↔s.has y\/y=⟨(i:Int),s.last+1,x.u,x.v,x.wt,x.t,x.exp⟩)/\s2.last=s.last+1)/\Turn (Sto.R verts edges ub s) w w' (Sto.R verts edges ub s2)):=by
 have htu:s.t.A.used<=s.t.A.n:=hO.fact.tok.ul
 have hUn:=hO.fact.n
 have hUt:=hO.fact.tn
 have hUe:=hO.fact.en
 have hUv:=hO.fact.vn
 have hAu:s.A.used<=s.A.begun:=by have h7:=hO.fact.aok.used;omega
 have hAl:=hO.fact.aok.le
 have hAw1:s.aw.A.used=s.A.used:=rfl
 have hAw2:s.aw.A.n=s.A.n:=rfl
 have hAw3:s.aw.A.begun=s.A.begun:=rfl
 have hla:(s.live++[(⟨0,0,0,0,0,0,0⟩:Lv)]).length=s.live.length+1:=by simp
 have hc3:=Sto.chk_zero hc
 have hl0:=hO.fact.last0
 have hll:=hO.fact.ll
 have hnl2:∀ id,(mgt s.im id).2.length<=65536:=fun id=>hO.fact.incl id
 refine en Tryz.func53 Tryz.ntmps53 ?_
 have hst0:=Own.of hO.un
 have hU:s.ok verts edges:=hO.fact
 refine pPL hst0 2 ?_
 refine bx (v:=(Zam x)) (cs:=(Zo x)) rfl rfl rfl hst0 (fun H a7 a8 a9 av=>al (cs:=Zt) rfl ti34 rfl av ?_)
 intro I ax ba bb ak
 have ay:=yj [2,3,4,5,6,7,0,1] ak
 have am:=yw (p:=s.ok verts edges) (yc [_,_,_,_,_,_] _ ay) hU
 refine pLL ak 8 ?_
 refine cl ent44 (ucheck0_ok verts edges ub s ax (yd am (i:=0) rfl) x hc) ?_
 rintro _ az ⟨rfl,ht⟩
 have aA:=yu 0 am ht
 have X:=(yav aA).unpack
 refine pLL X 18 ?_
 refine cl ent105 (walloc_ok s.aab s.aw az (yd X (i:=4) rfl) o_) ?_
 rintro _ bc ⟨b,B,rfl,Y,ht⟩
 have an:=yu 4 X ht
 have hA9:=(yac an (i:=4) rfl:B.A.ok)
 have hib:b<=s.live.length:=by rcases Y.beg with h9|h9<;>omega
 have hib2:b<=65536:=by omega
 refine sLP an 30 fun bd aB=>?_
 refine rgs (Γ:=Nat) mixed [[],[],[1],[1,2],[1,2,3],[],[],[0,1,2,3,4,5,6],[],[0,1,2,3,4,5,6,7,8]] [8,9] d_ [fun _=>(Za ((b:Nat):Int)),fun _=>(Zb ub),fun _=>(Zb ub),fun _=>(Zab ub),fun _=>(Ze (s.last+1)),fun _=>(Zam x),fun _=>(Za x.exp),fun _=>(Zbx ((b:Nat):Int) (s.last+1) x),fun j=>(Zb j),fun _=>undef] [(fun j=>[blk ub 130 (Zax verts edges (s.last+1) s (some s.mb)),rowR Lv.cells s.lv 34 7 s.live,mapV s.mb .u64 p_ s.im,famR 3 s.im,(AW.R s.aab B),(Z9 s),blk I 34 Zt,blk H 32 (Zo x)],fun _ _=>True),(fun j=>[blk j 34 Zt,blk ub 130 (Zax verts edges (s.last+1) s (some s.mb)),rowR Lv.cells s.lv 34 7 s.live,mapV s.mb .u64 p_ s.im,famR 3 s.im,(AW.R s.aab B),(Z9 s),blk I 34 Zt,blk H 32 (Zo x)],fun _ _=>True),(fun j=>(Zeq j ((b:Nat):Int) (s.last+1) x ub verts edges s (some s.mb) B I H),fun _ _=>True)] 0 _ rfl aB (fun _ _=>trivial) ?_ (fun j=>rfl) rfl ?_
 . skip
   refine obv (fun j _=>mv_r (v:=(Za ((b:Nat):Int))) rfl) ?_
   refine obv (fun j _=>mv_r (v:=(Zb ub)) rfl) ?_
   refine obv (fun j _=>nilc_r rfl) ?_
   refine obv (fun j _=>fa_r (o' := 2) rfl yai rfl ti30 rfl) ?_
   refine ob_q2 rfl rfl rfl rfl rfl (fun j wq hM hF=>qv rfl rfl (ld_r rfl yg rfl (yo hM (i:=0) rfl rfl))) (fun j wq hM hF=>qv rfl rfl (ld_r rfl yg rfl (yo hM (i:=1) rfl rfl))) (ob_q2 rfl rfl rfl rfl rfl (fun j wq hM hF=>qv rfl rfl (ldA_r (cs:=(Zo x)) rfl yal rfl ti32 rfl (yab hM (i:=7) (o:=0) (vs:=(Zo x)) rfl rfl))) (fun j wq hM hF=>qv rfl rfl (ldA_r (cs:=(Zo x)) rfl yal rfl ti32 rfl (yab hM (i:=8) (o:=0) (vs:=(Zo x)) rfl rfl))) (obv (fun j _=>mv_r (v:=(Za x.exp)) rfl) ?_))
   refine obv (fun j _=>bld_r (pvs:=[(0,(Za ((b:Nat):Int))),(1,(Ze (s.last+1))),(2,(Zam x)),(3,(Za x.exp))]) (v:=.agg #[(Za ((b:Nat):Int)),(Ze (s.last+1)),(Ze x.u),(Ze x.v),(Za x.wt),(Za x.t),(Za x.exp)]) rfl (buildS [(0,(Zd ((b:Nat):Int))),(1,(Zz (s.last+1))),(2,(Zo x)),(3,(Zd x.exp))] ti34 pl34 rfl ⟨rfl,rfl,rfl,rfl,rfl,rfl,rfl,rfl,trivial⟩ rfl)) ?_
   refine ob_m rfl rfl rfl rfl (fun j wq hM hF=>m_al (cs:=Zt) rfl ti34 rfl hM (fun aC _ h=>⟨aC,⟨h,trivial⟩,rfl,st_c rfl (st_c rfl (st_c rfl (st_c rfl (st_c rfl (st_c rfl (st_c rfl (st_c rfl (st_c trivial (st_c trivial (st_n))))))))))⟩)) (ob_m rfl rfl rfl rfl (fun j wq hM hF=>m_sto (L' := (Zeq j ((b:Nat):Int) (s.last+1) x ub verts edges s (some s.mb) B I H)) 0 rfl rfl rfl rfl ti34 rfl rfl hM rfl rfl rfl rfl (fun _ h=>⟨j,⟨h,trivial⟩,rfl,Stab.refl _ _ _⟩)) ?_)
   exact ob_n
 rintro j be O -
 refine pQP tt none O 3 ?_
 refine unr 3 (rds (pPL O 7 ?_))
 refine lenR (m:=s.live.length) 2 rfl rfl y0 O rfl (pLL O 1 ?_)
 by_cases bf:((s.live.length:Int):Int)<=(((b:Nat):Int):Int)
 . refine pLL O 13 ?_
   refine bld (pvs:=[]) (v:=.agg Zcl) rfl rfl (buildS [] ti34 pl34 rfl trivial rfl) (bsv (vs:=[(.agg Zcl)]) (cs:=Zt) rfl rfl y0 ti34 rfl (by simp[Value.cells]) rfl rfl rfl O (fun aD bg bh bi ao=>apdR (cf:=Lv.cells) (ys:=s.live) (zs:=[(⟨0,0,0,0,0,0,0⟩:Lv)]) (LL:=fun J=>[row (Zv aD) 34 7 1 (Zt),blk j 34 (Z8 ((b:Nat):Int) (s.last+1) x),blk ub 130 (Zax verts edges (s.last+1) s (some s.mb)),rowR Lv.cells J 34 7 (s.live++[(⟨0,0,0,0,0,0,0⟩:Lv)]),mapV s.mb .u64 p_ s.im,famR 3 s.im,(AW.R s.aab B),(Z9 s),blk I 34 Zt,blk H 32 (Zo x)]) 3 rfl rfl rfl y0 ti34 rfl d_ ao rfl (yaq ao (i:=0) rfl) (fun x hx=>zz.1 (show List.all _ _=true from rfl) x hx) (by simp only[zo,zk,zq,maxLen];omega) (by simp only[zo,zk,zq,maxLen];omega) f_ ?_))
   intro J bj aE bl
   have W:=yj [1,2,3,4,5,6,7,8,9] aE
   refine pLL W 2 ?_
   refine sto (L' := (Zeo j ((b:Nat):Int) (s.last+1) x ub verts edges s J (some s.mb) (s.live++[(⟨0,0,0,0,0,0,0⟩:Lv)]) B I H)) 1 rfl rfl rfl (cells_one (ya0 W (i:=2) rfl)) ti25 rfl (all1 (ya0 W (i:=2) rfl) all0) W rfl rfl rfl rfl (fun bm S=>pLQ S 2 ?_)
   refine tN (?_)
   refine rds (pPL S 7 ?_)
   refine lenR (m:=(s.live++[(⟨0,0,0,0,0,0,0⟩:Lv)]).length) 2 rfl rfl y0 S rfl (pLL S 1 ?_)
   refine cmp rfl rfl rfl (c_nle (by simp only[zo,zk,zq];omega)) (pLP S 9 ?_)
   refine dr1 S 7 ?_
   intro wq hM
   refine m_stoR (f:=(fun _=>(⟨((b:Nat):Int),s.last+1,x.u,x.v,x.wt,x.t,x.exp⟩:Lv))) (L' := (Zeo j ((b:Nat):Int) (s.last+1) x ub verts edges s J (some s.mb) (updA (s.live++[(⟨0,0,0,0,0,0,0⟩:Lv)]) b (fun _=>(⟨((b:Nat):Int),s.last+1,x.u,x.v,x.wt,x.t,x.exp⟩:Lv))) B I H)) 2 rfl rfl rfl rfl ti34 rfl rfl hM rfl f_ om rfl rfl rfl (fun _ h=>(aft h (fun aF M=>?_)))
   refine pQL tt none M 5 ?_
   refine ld rfl rfl yg rfl (yo M (i:=8) rfl rfl) (pLL M 1 ?_)
   refine ld rfl rfl yg rfl (yo M (i:=8) rfl rfl) (bld (pvs:=[(0,(Ze x.u)),(1,(Ze x.v))]) (v:=.agg (Zbf x.u x.v)) rfl rfl (buildA [(0,(Zz x.u)),(1,(Zz x.v))] ti177 yah ti30 rfl ⟨rfl,rfl,rfl,rfl,trivial⟩ rfl s_) (pLP M 4 ?_))
   refine unr 3 (rds (pPL M 13 ?_))
   refine idxAgg (i:=0) rfl rfl rfl yah yg rfl ti30 d_ rfl (pLL M 10 ?_)
   refine cl ent106 (tputc_ok s.tb s.ab s.t aF (yd M (i:=6) rfl) x.u (TW.room1 o_) hxo.u) ?_
   rintro _ bn ⟨bo,bp,P,rfl,Z,ht⟩
   have aa:=yu 6 M ht
   have hT9:=(yac aa (i:=6) rfl:P.ok)
   refine pLP aa 2 ?_
   have aG:=yj [4,0,1,2,3,5,6,7,8] aa
   have aH:=ybn x.u aG
   refine rgs (Γ:=Nat×Value) mixed [[],[0],[0,1],[0,1,2],[],[],[5],[5,6],[5,6,7],[],[5,6,7,8,9],[],[11],[5,6,7,8,9,10,11,12],[0,1,2,3,4,5,6,7,8,9,10,11,12,13]] [12,13,14] d_ [fun _=>(Zb ub),fun _=>(Zb ub),fun _=>(Z4 ub),fun _=>(.map (some s.mb)),fun _=>(Ze x.u),fun _=>(Zb ub),fun _=>(Zb ub),fun _=>(Z4 ub),fun _=>(.map (some s.mb)),fun _=>(Ze x.u),fun _=>((mgt s.im x.u).1),fun _=>(Za ((b:Nat):Int)),fun(C,d)=>(Zv C),fun(C,d)=>d,fun _=>undef] [(fun(C,d)=>[rowI .i64 ((mgt s.im x.u).1) 3 (natsI (mgt s.im x.u).2),famR 3 (mdel s.im x.u),blk j 34 (Z8 ((b:Nat):Int) (s.last+1) x),blk ub 130 (Zb4 verts edges (s.last+1) s J (some s.mb)),rowR Lv.cells J 34 7 (updA (s.live++[(⟨0,0,0,0,0,0,0⟩:Lv)]) b (fun _=>(⟨((b:Nat):Int),s.last+1,x.u,x.v,x.wt,x.t,x.exp⟩:Lv))),mapV s.mb .u64 p_ s.im,(AW.R s.aab B),(Zal s P),blk I 34 Zt,blk H 32 (Zo x)],fun _ _=>True),(fun(C,d)=>(Zev C ([((b:Nat):Int)]) ((mgt s.im x.u).1) (natsI (mgt s.im x.u).2) (mdel s.im x.u) j ((b:Nat):Int) (s.last+1) x ub verts edges s J (some s.mb) (updA (s.live++[(⟨0,0,0,0,0,0,0⟩:Lv)]) b (fun _=>(⟨((b:Nat):Int),s.last+1,x.u,x.v,x.wt,x.t,x.exp⟩:Lv))) B P I H),fun _ _=>True),(fun(C,d)=>(Zev C ([((b:Nat):Int)]) d ((natsI (mgt s.im x.u).2)++([((b:Nat):Int)])) (mdel s.im x.u) j ((b:Nat):Int) (s.last+1) x ub verts edges s J (some s.mb) (updA (s.live++[(⟨0,0,0,0,0,0,0⟩:Lv)]) b (fun _=>(⟨((b:Nat):Int),s.last+1,x.u,x.v,x.wt,x.t,x.exp⟩:Lv))) B P I H),fun _ _=>True),(fun(C,d)=>(Zel C ([((b:Nat):Int)]) d ((natsI (mgt s.im x.u).2)++([((b:Nat):Int)])) (mdel s.im x.u) j ((b:Nat):Int) (s.last+1) x ub verts edges s J (some s.mb) (updA (s.live++[(⟨0,0,0,0,0,0,0⟩:Lv)]) b (fun _=>(⟨((b:Nat):Int),s.last+1,x.u,x.v,x.wt,x.t,x.exp⟩:Lv))) (mput s.im x.u (d,(mgt s.im x.u).2++[b])) B P I H),fun _ _=>True)] (0,Zl) (fun(C,d)=>(99,d) :: (98,(Zv C)) :: (97,(Za ((b:Nat):Int))) :: (96,((mgt s.im x.u).1)) :: (95,(Ze x.u)) :: (94,(.map (some s.mb))) :: (93,(Z4 ub)) :: (92,(Zb ub)) :: (91,(Zb ub)) :: (90,(Ze x.u)) :: (89,(.map (some s.mb))) :: (88,(Z4 ub)) :: (87,(Zb ub)) :: (86,(Zb ub)) :: _) rfl aH (fun _ _=>trivial) ?_ (fun(C,d)=>rfl) rfl ?_
   . skip
     refine obv (fun(C,d) _=>mv_r (v:=(Zb ub)) rfl) ?_
     refine obv (fun(C,d) _=>nilc_r rfl) ?_
     refine obv (fun(C,d) _=>fa_r (o' := 6) rfl yai rfl ti128 rfl) ?_
     refine ob_q3 rfl rfl rfl rfl rfl rfl (fun(C,d) wq hM hF=>qv rfl rfl (ld_r rfl ym rfl (yo hM (i:=3) rfl rfl))) (fun(C,d) wq hM hF=>qv rfl rfl (ld_r rfl ym rfl (yo hM (i:=4) rfl rfl))) (fun(C,d) wq hM hF=>qv rfl rfl (ld_r rfl ym rfl (yo hM (i:=4) rfl rfl))) (obv (fun(C,d) _=>mv_r (v:=(Ze x.u)) rfl) ?_)
     refine obv (fun(C,d) _=>mv_r (v:=(Zb ub)) rfl) ?_
     refine obv (fun(C,d) _=>nilc_r rfl) ?_
     refine obv (fun(C,d) _=>fa_r (o' := 6) rfl yai rfl ti128 rfl) ?_
     refine ob_q2 rfl rfl rfl rfl rfl (fun(C,d) wq hM hF=>qv rfl rfl (ld_r rfl ym rfl (yo hM (i:=3) rfl rfl))) (fun(C,d) wq hM hF=>qv rfl rfl (ld_r rfl ym rfl (yo hM (i:=4) rfl rfl))) (obv (fun(C,d) _=>mv_r (v:=(Ze x.u)) rfl) ?_)
     refine ob_q2 rfl rfl rfl rfl rfl (fun(C,d) wq hM hF=>qv rfl rfl (lkV_r (a:=x.u) (mm:=s.im) (enc:=p_) (k:=.u64) 5 rfl rfl ym yg ti115 rfl hM rfl)) (fun(C,d) wq hM hF=>qv rfl rfl (lkV_r (a:=x.u) (mm:=s.im) (enc:=p_) (k:=.u64) 6 rfl rfl ym yg ti115 rfl hM rfl)) (obv (fun(C,d) _=>mv_r (v:=(Za ((b:Nat):Int))) rfl) ?_)
     refine ob_m rfl rfl rfl rfl (fun(C,d) wq hM hF=>m_bsv (vs:=(Zd ((b:Nat):Int))) (cs:=(Zd ((b:Nat):Int))) rfl rfl yh ti3 rfl (by simp[Value.cells]) rfl rfl rfl hM (fun aI _ h=>⟨(aI,d),⟨h,trivial⟩,rfl,st_c rfl (st_c rfl (st_c rfl (st_c rfl (st_c rfl (st_c rfl (st_c rfl (st_c rfl (st_c rfl (st_c rfl (st_c rfl (st_c rfl (st_c trivial (st_c trivial (st_c trivial (st_n)))))))))))))))⟩)) (ob_m rfl rfl rfl rfl (fun(C,d) wq hM hF=>m_apdI (k:=.i64) (ys:=natsI (mgt s.im x.u).2) (zs:=[((b:Nat):Int)]) 1 rfl rfl rfl yh ti3 rfl hM rfl (yaq hM (i:=0) rfl) (by simp only[zo,zk,zq,natsI,zu,maxLen];have h7:=hnl2 x.u;have h8:=hnl2 x.v;first|omega|(rw[mgt_mput_ne hc3.1];omega)) (by simp only[zo,zk,zq,natsI,zu,maxLen];have h7:=hnl2 x.u;have h8:=hnl2 x.v;first|omega|(rw[mgt_mput_ne hc3.1];omega)) (fun aJ _ h=>⟨(C,aJ),⟨h,trivial⟩,rfl,st_c rfl (st_c rfl (st_c rfl (st_c rfl (st_c rfl (st_c rfl (st_c rfl (st_c rfl (st_c rfl (st_c rfl (st_c rfl (st_c rfl (st_c rfl (st_c trivial (st_c trivial (st_n)))))))))))))))⟩)) (ob_m rfl rfl rfl rfl (fun(C,d) wq hM hF=>m_muV (a:=x.u) (c:=(d,(mgt s.im x.u).2++[b])) (mm:=s.im) (enc:=p_) (k:=.u64) (L' := (Zel C ([((b:Nat):Int)]) d ((natsI (mgt s.im x.u).2)++([((b:Nat):Int)])) (mdel s.im x.u) j ((b:Nat):Int) (s.last+1) x ub verts edges s J (some s.mb) (updA (s.live++[(⟨0,0,0,0,0,0,0⟩:Lv)]) b (fun _=>(⟨((b:Nat):Int),s.last+1,x.u,x.v,x.wt,x.t,x.exp⟩:Lv))) (mput s.im x.u (d,(mgt s.im x.u).2++[b])) B P I H)) 6 rfl rfl rfl rfl ym yg hM rfl rfl (fun _ h=>⟨(C,d),⟨h,trivial⟩,rfl,Stab.refl _ _ _⟩)) ?_))
     exact ob_n
   rintro⟨C,d⟩ ap aK -
   have aL:=yj [1,2,3,4,5,6,7,8,9,10] aK
   have U:St _ (Zew (mput s.im x.u (d,(mgt s.im x.u).2++[b])) j ((b:Nat):Int) (s.last+1) x ub verts edges s J (some s.mb) (updA (s.live++[(⟨0,0,0,0,0,0,0⟩:Lv)]) b (fun _=>(⟨((b:Nat):Int),s.last+1,x.u,x.v,x.wt,x.t,x.exp⟩:Lv))) B P I H) ap:=ybs (by have h9:=aL;rw[<-natsI_app]at h9;exact h9)
   refine pQQ tt none U 6 ?_
   refine tN (?_)
   refine rds (pPL U 13 ?_)
   refine idxAgg (i:=1) rfl rfl rfl yah yg rfl ti30 d_ rfl (pLL U 10 ?_)
   refine cl ent106 (tputc_ok s.tb s.ab P ap (yd U (i:=6) rfl) x.v (Z.room o_) hxo.v) ?_
   rintro _ bq ⟨br,bs,K,rfl,aq,ht⟩
   have ac:=yu 6 U ht
   have hT9:=(yac ac (i:=6) rfl:K.ok)
   refine pLP ac 2 ?_
   have aM:=ybn x.v ac
   refine rgs (Γ:=Nat×Value) mixed [[],[0],[0,1],[0,1,2],[],[],[5],[5,6],[5,6,7],[],[5,6,7,8,9],[],[11],[5,6,7,8,9,10,11,12],[0,1,2,3,4,5,6,7,8,9,10,11,12,13]] [12,13,14] d_ [fun _=>(Zb ub),fun _=>(Zb ub),fun _=>(Z4 ub),fun _=>(.map (some s.mb)),fun _=>(Ze x.v),fun _=>(Zb ub),fun _=>(Zb ub),fun _=>(Z4 ub),fun _=>(.map (some s.mb)),fun _=>(Ze x.v),fun _=>((mgt (mput s.im x.u (d,(mgt s.im x.u).2++[b])) x.v).1),fun _=>(Za ((b:Nat):Int)),fun(D,l)=>(Zv D),fun(D,l)=>l,fun _=>undef] [(fun(D,l)=>[rowI .i64 ((mgt (mput s.im x.u (d,(mgt s.im x.u).2++[b])) x.v).1) 3 (natsI (mgt (mput s.im x.u (d,(mgt s.im x.u).2++[b])) x.v).2),famR 3 (mdel (mput s.im x.u (d,(mgt s.im x.u).2++[b])) x.v),blk j 34 (Z8 ((b:Nat):Int) (s.last+1) x),blk ub 130 (Zb4 verts edges (s.last+1) s J (some s.mb)),rowR Lv.cells J 34 7 (updA (s.live++[(⟨0,0,0,0,0,0,0⟩:Lv)]) b (fun _=>(⟨((b:Nat):Int),s.last+1,x.u,x.v,x.wt,x.t,x.exp⟩:Lv))),mapV s.mb .u64 p_ (mput s.im x.u (d,(mgt s.im x.u).2++[b])),(AW.R s.aab B),(Zal s K),blk I 34 Zt,blk H 32 (Zo x)],fun _ _=>True),(fun(D,l)=>(Zel D ([((b:Nat):Int)]) ((mgt (mput s.im x.u (d,(mgt s.im x.u).2++[b])) x.v).1) (natsI (mgt (mput s.im x.u (d,(mgt s.im x.u).2++[b])) x.v).2) (mdel (mput s.im x.u (d,(mgt s.im x.u).2++[b])) x.v) j ((b:Nat):Int) (s.last+1) x ub verts edges s J (some s.mb) (updA (s.live++[(⟨0,0,0,0,0,0,0⟩:Lv)]) b (fun _=>(⟨((b:Nat):Int),s.last+1,x.u,x.v,x.wt,x.t,x.exp⟩:Lv))) (mput s.im x.u (d,(mgt s.im x.u).2++[b])) B K I H),fun _ _=>True),(fun(D,l)=>(Zel D ([((b:Nat):Int)]) l ((natsI (mgt (mput s.im x.u (d,(mgt s.im x.u).2++[b])) x.v).2)++([((b:Nat):Int)])) (mdel (mput s.im x.u (d,(mgt s.im x.u).2++[b])) x.v) j ((b:Nat):Int) (s.last+1) x ub verts edges s J (some s.mb) (updA (s.live++[(⟨0,0,0,0,0,0,0⟩:Lv)]) b (fun _=>(⟨((b:Nat):Int),s.last+1,x.u,x.v,x.wt,x.t,x.exp⟩:Lv))) (mput s.im x.u (d,(mgt s.im x.u).2++[b])) B K I H),fun _ _=>True),(fun(D,l)=>(Zel D ([((b:Nat):Int)]) l ((natsI (mgt (mput s.im x.u (d,(mgt s.im x.u).2++[b])) x.v).2)++([((b:Nat):Int)])) (mdel (mput s.im x.u (d,(mgt s.im x.u).2++[b])) x.v) j ((b:Nat):Int) (s.last+1) x ub verts edges s J (some s.mb) (updA (s.live++[(⟨0,0,0,0,0,0,0⟩:Lv)]) b (fun _=>(⟨((b:Nat):Int),s.last+1,x.u,x.v,x.wt,x.t,x.exp⟩:Lv))) (mput (mput s.im x.u (d,(mgt s.im x.u).2++[b])) x.v (l,(mgt (mput s.im x.u (d,(mgt s.im x.u).2++[b])) x.v).2++[b])) B K I H),fun _ _=>True)] (0,Zl) (fun(D,l)=>(99,l) :: (98,(Zv D)) :: (97,(Za ((b:Nat):Int))) :: (96,((mgt (mput s.im x.u (d,(mgt s.im x.u).2++[b])) x.v).1)) :: (95,(Ze x.v)) :: (94,(.map (some s.mb))) :: (93,(Z4 ub)) :: (92,(Zb ub)) :: (91,(Zb ub)) :: (90,(Ze x.v)) :: (89,(.map (some s.mb))) :: (88,(Z4 ub)) :: (87,(Zb ub)) :: (86,(Zb ub)) :: _) rfl aM (fun _ _=>trivial) ?_ (fun(D,l)=>rfl) rfl ?_
   . skip
     refine obv (fun(D,l) _=>mv_r (v:=(Zb ub)) rfl) ?_
     refine obv (fun(D,l) _=>nilc_r rfl) ?_
     refine obv (fun(D,l) _=>fa_r (o' := 6) rfl yai rfl ti128 rfl) ?_
     refine ob_q3 rfl rfl rfl rfl rfl rfl (fun(D,l) wq hM hF=>qv rfl rfl (ld_r rfl ym rfl (yo hM (i:=3) rfl rfl))) (fun(D,l) wq hM hF=>qv rfl rfl (ld_r rfl ym rfl (yo hM (i:=4) rfl rfl))) (fun(D,l) wq hM hF=>qv rfl rfl (ld_r rfl ym rfl (yo hM (i:=4) rfl rfl))) (obv (fun(D,l) _=>mv_r (v:=(Ze x.v)) rfl) ?_)
     refine obv (fun(D,l) _=>mv_r (v:=(Zb ub)) rfl) ?_
     refine obv (fun(D,l) _=>nilc_r rfl) ?_
     refine obv (fun(D,l) _=>fa_r (o' := 6) rfl yai rfl ti128 rfl) ?_
     refine ob_q2 rfl rfl rfl rfl rfl (fun(D,l) wq hM hF=>qv rfl rfl (ld_r rfl ym rfl (yo hM (i:=3) rfl rfl))) (fun(D,l) wq hM hF=>qv rfl rfl (ld_r rfl ym rfl (yo hM (i:=4) rfl rfl))) (obv (fun(D,l) _=>mv_r (v:=(Ze x.v)) rfl) ?_)
     refine ob_q2 rfl rfl rfl rfl rfl (fun(D,l) wq hM hF=>qv rfl rfl (lkV_r (a:=x.v) (mm:=(mput s.im x.u (d,(mgt s.im x.u).2++[b]))) (enc:=p_) (k:=.u64) 5 rfl rfl ym yg ti115 rfl hM rfl)) (fun(D,l) wq hM hF=>qv rfl rfl (lkV_r (a:=x.v) (mm:=(mput s.im x.u (d,(mgt s.im x.u).2++[b]))) (enc:=p_) (k:=.u64) 6 rfl rfl ym yg ti115 rfl hM rfl)) (obv (fun(D,l) _=>mv_r (v:=(Za ((b:Nat):Int))) rfl) ?_)
     refine ob_m rfl rfl rfl rfl (fun(D,l) wq hM hF=>m_bsv (vs:=(Zd ((b:Nat):Int))) (cs:=(Zd ((b:Nat):Int))) rfl rfl yh ti3 rfl (by simp[Value.cells]) rfl rfl rfl hM (fun aN _ h=>⟨(aN,l),⟨h,trivial⟩,rfl,st_c rfl (st_c rfl (st_c rfl (st_c rfl (st_c rfl (st_c rfl (st_c rfl (st_c rfl (st_c rfl (st_c rfl (st_c rfl (st_c rfl (st_c trivial (st_c trivial (st_c trivial (st_n)))))))))))))))⟩)) (ob_m rfl rfl rfl rfl (fun(D,l) wq hM hF=>m_apdI (k:=.i64) (ys:=natsI (mgt (mput s.im x.u (d,(mgt s.im x.u).2++[b])) x.v).2) (zs:=[((b:Nat):Int)]) 1 rfl rfl rfl yh ti3 rfl hM rfl (yaq hM (i:=0) rfl) (by simp only[zo,zk,zq,natsI,zu,maxLen];have h7:=hnl2 x.u;have h8:=hnl2 x.v;first|omega|(rw[mgt_mput_ne hc3.1];omega)) (by simp only[zo,zk,zq,natsI,zu,maxLen];have h7:=hnl2 x.u;have h8:=hnl2 x.v;first|omega|(rw[mgt_mput_ne hc3.1];omega)) (fun aO _ h=>⟨(D,aO),⟨h,trivial⟩,rfl,st_c rfl (st_c rfl (st_c rfl (st_c rfl (st_c rfl (st_c rfl (st_c rfl (st_c rfl (st_c rfl (st_c rfl (st_c rfl (st_c rfl (st_c rfl (st_c trivial (st_c trivial (st_n)))))))))))))))⟩)) (ob_m rfl rfl rfl rfl (fun(D,l) wq hM hF=>m_muV (a:=x.v) (c:=(l,(mgt (mput s.im x.u (d,(mgt s.im x.u).2++[b])) x.v).2++[b])) (mm:=(mput s.im x.u (d,(mgt s.im x.u).2++[b]))) (enc:=p_) (k:=.u64) (L' := (Zel D ([((b:Nat):Int)]) l ((natsI (mgt (mput s.im x.u (d,(mgt s.im x.u).2++[b])) x.v).2)++([((b:Nat):Int)])) (mdel (mput s.im x.u (d,(mgt s.im x.u).2++[b])) x.v) j ((b:Nat):Int) (s.last+1) x ub verts edges s J (some s.mb) (updA (s.live++[(⟨0,0,0,0,0,0,0⟩:Lv)]) b (fun _=>(⟨((b:Nat):Int),s.last+1,x.u,x.v,x.wt,x.t,x.exp⟩:Lv))) (mput (mput s.im x.u (d,(mgt s.im x.u).2++[b])) x.v (l,(mgt (mput s.im x.u (d,(mgt s.im x.u).2++[b])) x.v).2++[b])) B K I H)) 6 rfl rfl rfl rfl ym yg hM rfl rfl (fun _ h=>⟨(D,l),⟨h,trivial⟩,rfl,Stab.refl _ _ _⟩)) ?_))
     exact ob_n
   rintro⟨D,l⟩ aP aQ -
   have aR:=yj [1,2,3,4,5,6,7,8,9,10] aQ
   have ad:St _ (Zew (mput (mput s.im x.u (d,(mgt s.im x.u).2++[b])) x.v (l,(mgt (mput s.im x.u (d,(mgt s.im x.u).2++[b])) x.v).2++[b])) j ((b:Nat):Int) (s.last+1) x ub verts edges s J (some s.mb) (updA (s.live++[(⟨0,0,0,0,0,0,0⟩:Lv)]) b (fun _=>(⟨((b:Nat):Int),s.last+1,x.u,x.v,x.wt,x.t,x.exp⟩:Lv))) B K I H) aP:=ybs (by have h9:=aR;rw[<-natsI_app]at h9;exact h9)
   refine pQQ tt none ad 6 ?_
   refine tN (?_)
   refine rds (pPL ad 15 ?_)
   refine sto (L' := [famR 3 (mput (mput s.im x.u (d,(mgt s.im x.u).2++[b])) x.v (l,(mgt (mput s.im x.u (d,(mgt s.im x.u).2++[b])) x.v).2++[b])),blk j 34 (Z8 ((b:Nat):Int) (s.last+1) x),blk ub 130 (Zb4 verts edges (s.last+1) s J (some s.mb)),rowR Lv.cells J 34 7 (updA (s.live++[(⟨0,0,0,0,0,0,0⟩:Lv)]) b (fun _=>(⟨((b:Nat):Int),s.last+1,x.u,x.v,x.wt,x.t,x.exp⟩:Lv))),mapV s.mb .u64 p_ (mput (mput s.im x.u (d,(mgt s.im x.u).2++[b])) x.v (l,(mgt (mput s.im x.u (d,(mgt s.im x.u).2++[b])) x.v).2++[b])),(AW.R s.aab B),(Zal s K),blk I 34 (Z8 ((b:Nat):Int) (s.last+1) x),blk H 32 (Zo x)]) 7 rfl rfl rfl rfl ti34 rfl rfl ad rfl rfl rfl rfl (fun bt ae=>pLQ ae 4 ?_)
   refine retL2 (v:=(Zbx ((b:Nat):Int) (s.last+1) x)) (v' := Zc) Tryz.results53 (rvA (cs:=(Z8 ((b:Nat):Int) (s.last+1) x)) rfl yy rfl ti34 rfl (yab ae (i:=7) (o:=0) (vs:=(Z8 ((b:Nat):Int) (s.last+1) x)) rfl rfl)) (rvT rfl) ?_
   have aS:=yj [2,3,4,0,5,6,1,7,8] ae
   have hins:=hU.ins (e:=(⟨(b:Int),s.last+1,x.u,x.v,x.wt,x.t,x.exp⟩:Lv)) Y hA9 hT9 rfl rfl ⟨inkI (by show _/\_;dsimp only;omega),inkU (by show _/\_;dsimp only;omega),hxo.u,hxo.v,hxo.wt,hxo.t,hxo.exp⟩ hc3.1 (fun z=>by rw[aq.mem,Z.mem]) (by rw[aq.n,Z.n]) (lv2:=J) (ls:=updA (s.live++[(⟨0,0,0,0,0,0,0⟩:Lv)]) b (fun _=>(⟨((b:Nat):Int),s.last+1,x.u,x.v,x.wt,x.t,x.exp⟩:Lv))) (by unfold putL;rw[if_pos o_]<;>rfl) (im2:=(mput (mput s.im x.u (d,(mgt s.im x.u).2++[b])) x.v (l,(mgt (mput s.im x.u (d,(mgt s.im x.u).2++[b])) x.v).2++[b]))) (by rw[mgt_mput_ne hc3.1];rfl)
   exact⟨b,(⟨s.aab,s.tb,s.ab,s.mb,J,s.last+1,B,K,updA (s.live++[(⟨0,0,0,0,0,0,0⟩:Lv)]) b (fun _=>(⟨((b:Nat):Int),s.last+1,x.u,x.v,x.wt,x.t,x.exp⟩:Lv)),(mput (mput s.im x.u (d,(mgt s.im x.u).2++[b])) x.v (l,(mgt (mput s.im x.u (d,(mgt s.im x.u).2++[b])) x.v).2++[b]))⟩:Sto),rfl,⟨hins.2,rfl⟩,yv (yw (p:=Sto.ok verts edges (⟨s.aab,s.tb,s.ab,s.mb,J,s.last+1,B,K,updA (s.live++[(⟨0,0,0,0,0,0,0⟩:Lv)]) b (fun _=>(⟨((b:Nat):Int),s.last+1,x.u,x.v,x.wt,x.t,x.exp⟩:Lv)),(mput (mput s.im x.u (d,(mgt s.im x.u).2++[b])) x.v (l,(mgt (mput s.im x.u (d,(mgt s.im x.u).2++[b])) x.v).2++[b]))⟩:Sto)) (yc [_,_,_,_,_,_] _ aS) hins.1) zh⟩
 . refine pLP O 10 ?_
   refine dr1 O 7 ?_
   intro wq hM
   refine m_stoR (f:=(fun _=>(⟨((b:Nat):Int),s.last+1,x.u,x.v,x.wt,x.t,x.exp⟩:Lv))) (L' := [blk j 34 (Z8 ((b:Nat):Int) (s.last+1) x),blk ub 130 (Zax verts edges (s.last+1) s (some s.mb)),rowR Lv.cells s.lv 34 7 (updA s.live b (fun _=>(⟨((b:Nat):Int),s.last+1,x.u,x.v,x.wt,x.t,x.exp⟩:Lv))),mapV s.mb .u64 p_ s.im,famR 3 s.im,(AW.R s.aab B),(Z9 s),blk I 34 Zt,blk H 32 (Zo x)]) 2 rfl rfl rfl rfl ti34 rfl rfl hM rfl f_ om rfl rfl rfl (fun _ h=>(aft h (fun aT N=>?_)))
   refine pQL tt none N 5 ?_
   refine ld rfl rfl yg rfl (yo N (i:=8) rfl rfl) (pLL N 1 ?_)
   refine ld rfl rfl yg rfl (yo N (i:=8) rfl rfl) (bld (pvs:=[(0,(Ze x.u)),(1,(Ze x.v))]) (v:=.agg (Zbf x.u x.v)) rfl rfl (buildA [(0,(Zz x.u)),(1,(Zz x.v))] ti177 yah ti30 rfl ⟨rfl,rfl,rfl,rfl,trivial⟩ rfl s_) (pLP N 4 ?_))
   refine unr 3 (rds (pPL N 13 ?_))
   refine idxAgg (i:=0) rfl rfl rfl yah yg rfl ti30 d_ rfl (pLL N 10 ?_)
   refine cl ent106 (tputc_ok s.tb s.ab s.t aT (yd N (i:=6) rfl) x.u (TW.room1 o_) hxo.u) ?_
   rintro _ bu ⟨bv,bw,Q,rfl,af,ht⟩
   have ag:=yu 6 N ht
   have hT9:=(yac ag (i:=6) rfl:Q.ok)
   refine pLP ag 2 ?_
   have aU:=yj [4,0,1,2,3,5,6,7,8] ag
   have aV:=ybn x.u aU
   refine rgs (Γ:=Nat×Value) mixed [[],[0],[0,1],[0,1,2],[],[],[5],[5,6],[5,6,7],[],[5,6,7,8,9],[],[11],[5,6,7,8,9,10,11,12],[0,1,2,3,4,5,6,7,8,9,10,11,12,13]] [12,13,14] d_ [fun _=>(Zb ub),fun _=>(Zb ub),fun _=>(Z4 ub),fun _=>(.map (some s.mb)),fun _=>(Ze x.u),fun _=>(Zb ub),fun _=>(Zb ub),fun _=>(Z4 ub),fun _=>(.map (some s.mb)),fun _=>(Ze x.u),fun _=>((mgt s.im x.u).1),fun _=>(Za ((b:Nat):Int)),fun(E,g)=>(Zv E),fun(E,g)=>g,fun _=>undef] [(fun(E,g)=>[rowI .i64 ((mgt s.im x.u).1) 3 (natsI (mgt s.im x.u).2),famR 3 (mdel s.im x.u),blk j 34 (Z8 ((b:Nat):Int) (s.last+1) x),blk ub 130 (Zax verts edges (s.last+1) s (some s.mb)),rowR Lv.cells s.lv 34 7 (updA s.live b (fun _=>(⟨((b:Nat):Int),s.last+1,x.u,x.v,x.wt,x.t,x.exp⟩:Lv))),mapV s.mb .u64 p_ s.im,(AW.R s.aab B),(Zal s Q),blk I 34 Zt,blk H 32 (Zo x)],fun _ _=>True),(fun(E,g)=>(Zep E ([((b:Nat):Int)]) ((mgt s.im x.u).1) (natsI (mgt s.im x.u).2) (mdel s.im x.u) j ((b:Nat):Int) (s.last+1) x ub verts edges s (some s.mb) (updA s.live b (fun _=>(⟨((b:Nat):Int),s.last+1,x.u,x.v,x.wt,x.t,x.exp⟩:Lv))) B Q I H),fun _ _=>True),(fun(E,g)=>(Zep E ([((b:Nat):Int)]) g ((natsI (mgt s.im x.u).2)++([((b:Nat):Int)])) (mdel s.im x.u) j ((b:Nat):Int) (s.last+1) x ub verts edges s (some s.mb) (updA s.live b (fun _=>(⟨((b:Nat):Int),s.last+1,x.u,x.v,x.wt,x.t,x.exp⟩:Lv))) B Q I H),fun _ _=>True),(fun(E,g)=>(Zek E ([((b:Nat):Int)]) g ((natsI (mgt s.im x.u).2)++([((b:Nat):Int)])) (mdel s.im x.u) j ((b:Nat):Int) (s.last+1) x ub verts edges s (some s.mb) (updA s.live b (fun _=>(⟨((b:Nat):Int),s.last+1,x.u,x.v,x.wt,x.t,x.exp⟩:Lv))) (mput s.im x.u (g,(mgt s.im x.u).2++[b])) B Q I H),fun _ _=>True)] (0,Zl) (fun(E,g)=>(99,g) :: (98,(Zv E)) :: (97,(Za ((b:Nat):Int))) :: (96,((mgt s.im x.u).1)) :: (95,(Ze x.u)) :: (94,(.map (some s.mb))) :: (93,(Z4 ub)) :: (92,(Zb ub)) :: (91,(Zb ub)) :: (90,(Ze x.u)) :: (89,(.map (some s.mb))) :: (88,(Z4 ub)) :: (87,(Zb ub)) :: (86,(Zb ub)) :: _) rfl aV (fun _ _=>trivial) ?_ (fun(E,g)=>rfl) rfl ?_
   . skip
     refine obv (fun(E,g) _=>mv_r (v:=(Zb ub)) rfl) ?_
     refine obv (fun(E,g) _=>nilc_r rfl) ?_
     refine obv (fun(E,g) _=>fa_r (o' := 6) rfl yai rfl ti128 rfl) ?_
     refine ob_q3 rfl rfl rfl rfl rfl rfl (fun(E,g) wq hM hF=>qv rfl rfl (ld_r rfl ym rfl (yo hM (i:=3) rfl rfl))) (fun(E,g) wq hM hF=>qv rfl rfl (ld_r rfl ym rfl (yo hM (i:=4) rfl rfl))) (fun(E,g) wq hM hF=>qv rfl rfl (ld_r rfl ym rfl (yo hM (i:=4) rfl rfl))) (obv (fun(E,g) _=>mv_r (v:=(Ze x.u)) rfl) ?_)
     refine obv (fun(E,g) _=>mv_r (v:=(Zb ub)) rfl) ?_
     refine obv (fun(E,g) _=>nilc_r rfl) ?_
     refine obv (fun(E,g) _=>fa_r (o' := 6) rfl yai rfl ti128 rfl) ?_
     refine ob_q2 rfl rfl rfl rfl rfl (fun(E,g) wq hM hF=>qv rfl rfl (ld_r rfl ym rfl (yo hM (i:=3) rfl rfl))) (fun(E,g) wq hM hF=>qv rfl rfl (ld_r rfl ym rfl (yo hM (i:=4) rfl rfl))) (obv (fun(E,g) _=>mv_r (v:=(Ze x.u)) rfl) ?_)
     refine ob_q2 rfl rfl rfl rfl rfl (fun(E,g) wq hM hF=>qv rfl rfl (lkV_r (a:=x.u) (mm:=s.im) (enc:=p_) (k:=.u64) 5 rfl rfl ym yg ti115 rfl hM rfl)) (fun(E,g) wq hM hF=>qv rfl rfl (lkV_r (a:=x.u) (mm:=s.im) (enc:=p_) (k:=.u64) 6 rfl rfl ym yg ti115 rfl hM rfl)) (obv (fun(E,g) _=>mv_r (v:=(Za ((b:Nat):Int))) rfl) ?_)
     refine ob_m rfl rfl rfl rfl (fun(E,g) wq hM hF=>m_bsv (vs:=(Zd ((b:Nat):Int))) (cs:=(Zd ((b:Nat):Int))) rfl rfl yh ti3 rfl (by simp[Value.cells]) rfl rfl rfl hM (fun aW _ h=>⟨(aW,g),⟨h,trivial⟩,rfl,st_c rfl (st_c rfl (st_c rfl (st_c rfl (st_c rfl (st_c rfl (st_c rfl (st_c rfl (st_c rfl (st_c rfl (st_c rfl (st_c rfl (st_c trivial (st_c trivial (st_c trivial (st_n)))))))))))))))⟩)) (ob_m rfl rfl rfl rfl (fun(E,g) wq hM hF=>m_apdI (k:=.i64) (ys:=natsI (mgt s.im x.u).2) (zs:=[((b:Nat):Int)]) 1 rfl rfl rfl yh ti3 rfl hM rfl (yaq hM (i:=0) rfl) (by simp only[zo,zk,zq,natsI,zu,maxLen];have h7:=hnl2 x.u;have h8:=hnl2 x.v;first|omega|(rw[mgt_mput_ne hc3.1];omega)) (by simp only[zo,zk,zq,natsI,zu,maxLen];have h7:=hnl2 x.u;have h8:=hnl2 x.v;first|omega|(rw[mgt_mput_ne hc3.1];omega)) (fun aX _ h=>⟨(E,aX),⟨h,trivial⟩,rfl,st_c rfl (st_c rfl (st_c rfl (st_c rfl (st_c rfl (st_c rfl (st_c rfl (st_c rfl (st_c rfl (st_c rfl (st_c rfl (st_c rfl (st_c rfl (st_c trivial (st_c trivial (st_n)))))))))))))))⟩)) (ob_m rfl rfl rfl rfl (fun(E,g) wq hM hF=>m_muV (a:=x.u) (c:=(g,(mgt s.im x.u).2++[b])) (mm:=s.im) (enc:=p_) (k:=.u64) (L' := (Zek E ([((b:Nat):Int)]) g ((natsI (mgt s.im x.u).2)++([((b:Nat):Int)])) (mdel s.im x.u) j ((b:Nat):Int) (s.last+1) x ub verts edges s (some s.mb) (updA s.live b (fun _=>(⟨((b:Nat):Int),s.last+1,x.u,x.v,x.wt,x.t,x.exp⟩:Lv))) (mput s.im x.u (g,(mgt s.im x.u).2++[b])) B Q I H)) 6 rfl rfl rfl rfl ym yg hM rfl rfl (fun _ h=>⟨(E,g),⟨h,trivial⟩,rfl,Stab.refl _ _ _⟩)) ?_))
     exact ob_n
   rintro⟨E,g⟩ ar aY -
   have aZ:=yj [1,2,3,4,5,6,7,8,9,10] aY
   have V:St _ (Zer (mput s.im x.u (g,(mgt s.im x.u).2++[b])) j ((b:Nat):Int) (s.last+1) x ub verts edges s (some s.mb) (updA s.live b (fun _=>(⟨((b:Nat):Int),s.last+1,x.u,x.v,x.wt,x.t,x.exp⟩:Lv))) B Q I H) ar:=ybs (by have h9:=aZ;rw[<-natsI_app]at h9;exact h9)
   refine pQQ tt none V 6 ?_
   refine tN (?_)
   refine rds (pPL V 13 ?_)
   refine idxAgg (i:=1) rfl rfl rfl yah yg rfl ti30 d_ rfl (pLL V 10 ?_)
   refine cl ent106 (tputc_ok s.tb s.ab Q ar (yd V (i:=6) rfl) x.v (af.room o_) hxo.v) ?_
   rintro _ bz ⟨bA,bB,L,rfl,au,ht⟩
   have ah:=yu 6 V ht
   have hT9:=(yac ah (i:=6) rfl:L.ok)
   refine pLP ah 2 ?_
   have a0:=ybn x.v ah
   refine rgs (Γ:=Nat×Value) mixed [[],[0],[0,1],[0,1,2],[],[],[5],[5,6],[5,6,7],[],[5,6,7,8,9],[],[11],[5,6,7,8,9,10,11,12],[0,1,2,3,4,5,6,7,8,9,10,11,12,13]] [12,13,14] d_ [fun _=>(Zb ub),fun _=>(Zb ub),fun _=>(Z4 ub),fun _=>(.map (some s.mb)),fun _=>(Ze x.v),fun _=>(Zb ub),fun _=>(Zb ub),fun _=>(Z4 ub),fun _=>(.map (some s.mb)),fun _=>(Ze x.v),fun _=>((mgt (mput s.im x.u (g,(mgt s.im x.u).2++[b])) x.v).1),fun _=>(Za ((b:Nat):Int)),fun(G,q)=>(Zv G),fun(G,q)=>q,fun _=>undef] [(fun(G,q)=>[rowI .i64 ((mgt (mput s.im x.u (g,(mgt s.im x.u).2++[b])) x.v).1) 3 (natsI (mgt (mput s.im x.u (g,(mgt s.im x.u).2++[b])) x.v).2),famR 3 (mdel (mput s.im x.u (g,(mgt s.im x.u).2++[b])) x.v),blk j 34 (Z8 ((b:Nat):Int) (s.last+1) x),blk ub 130 (Zax verts edges (s.last+1) s (some s.mb)),rowR Lv.cells s.lv 34 7 (updA s.live b (fun _=>(⟨((b:Nat):Int),s.last+1,x.u,x.v,x.wt,x.t,x.exp⟩:Lv))),mapV s.mb .u64 p_ (mput s.im x.u (g,(mgt s.im x.u).2++[b])),(AW.R s.aab B),(Zal s L),blk I 34 Zt,blk H 32 (Zo x)],fun _ _=>True),(fun(G,q)=>(Zek G ([((b:Nat):Int)]) ((mgt (mput s.im x.u (g,(mgt s.im x.u).2++[b])) x.v).1) (natsI (mgt (mput s.im x.u (g,(mgt s.im x.u).2++[b])) x.v).2) (mdel (mput s.im x.u (g,(mgt s.im x.u).2++[b])) x.v) j ((b:Nat):Int) (s.last+1) x ub verts edges s (some s.mb) (updA s.live b (fun _=>(⟨((b:Nat):Int),s.last+1,x.u,x.v,x.wt,x.t,x.exp⟩:Lv))) (mput s.im x.u (g,(mgt s.im x.u).2++[b])) B L I H),fun _ _=>True),(fun(G,q)=>(Zek G ([((b:Nat):Int)]) q ((natsI (mgt (mput s.im x.u (g,(mgt s.im x.u).2++[b])) x.v).2)++([((b:Nat):Int)])) (mdel (mput s.im x.u (g,(mgt s.im x.u).2++[b])) x.v) j ((b:Nat):Int) (s.last+1) x ub verts edges s (some s.mb) (updA s.live b (fun _=>(⟨((b:Nat):Int),s.last+1,x.u,x.v,x.wt,x.t,x.exp⟩:Lv))) (mput s.im x.u (g,(mgt s.im x.u).2++[b])) B L I H),fun _ _=>True),(fun(G,q)=>(Zek G ([((b:Nat):Int)]) q ((natsI (mgt (mput s.im x.u (g,(mgt s.im x.u).2++[b])) x.v).2)++([((b:Nat):Int)])) (mdel (mput s.im x.u (g,(mgt s.im x.u).2++[b])) x.v) j ((b:Nat):Int) (s.last+1) x ub verts edges s (some s.mb) (updA s.live b (fun _=>(⟨((b:Nat):Int),s.last+1,x.u,x.v,x.wt,x.t,x.exp⟩:Lv))) (mput (mput s.im x.u (g,(mgt s.im x.u).2++[b])) x.v (q,(mgt (mput s.im x.u (g,(mgt s.im x.u).2++[b])) x.v).2++[b])) B L I H),fun _ _=>True)] (0,Zl) (fun(G,q)=>(99,q) :: (98,(Zv G)) :: (97,(Za ((b:Nat):Int))) :: (96,((mgt (mput s.im x.u (g,(mgt s.im x.u).2++[b])) x.v).1)) :: (95,(Ze x.v)) :: (94,(.map (some s.mb))) :: (93,(Z4 ub)) :: (92,(Zb ub)) :: (91,(Zb ub)) :: (90,(Ze x.v)) :: (89,(.map (some s.mb))) :: (88,(Z4 ub)) :: (87,(Zb ub)) :: (86,(Zb ub)) :: _) rfl a0 (fun _ _=>trivial) ?_ (fun(G,q)=>rfl) rfl ?_
   . skip
     refine obv (fun(G,q) _=>mv_r (v:=(Zb ub)) rfl) ?_
     refine obv (fun(G,q) _=>nilc_r rfl) ?_
     refine obv (fun(G,q) _=>fa_r (o' := 6) rfl yai rfl ti128 rfl) ?_
     refine ob_q3 rfl rfl rfl rfl rfl rfl (fun(G,q) wq hM hF=>qv rfl rfl (ld_r rfl ym rfl (yo hM (i:=3) rfl rfl))) (fun(G,q) wq hM hF=>qv rfl rfl (ld_r rfl ym rfl (yo hM (i:=4) rfl rfl))) (fun(G,q) wq hM hF=>qv rfl rfl (ld_r rfl ym rfl (yo hM (i:=4) rfl rfl))) (obv (fun(G,q) _=>mv_r (v:=(Ze x.v)) rfl) ?_)
     refine obv (fun(G,q) _=>mv_r (v:=(Zb ub)) rfl) ?_
     refine obv (fun(G,q) _=>nilc_r rfl) ?_
     refine obv (fun(G,q) _=>fa_r (o' := 6) rfl yai rfl ti128 rfl) ?_
     refine ob_q2 rfl rfl rfl rfl rfl (fun(G,q) wq hM hF=>qv rfl rfl (ld_r rfl ym rfl (yo hM (i:=3) rfl rfl))) (fun(G,q) wq hM hF=>qv rfl rfl (ld_r rfl ym rfl (yo hM (i:=4) rfl rfl))) (obv (fun(G,q) _=>mv_r (v:=(Ze x.v)) rfl) ?_)
     refine ob_q2 rfl rfl rfl rfl rfl (fun(G,q) wq hM hF=>qv rfl rfl (lkV_r (a:=x.v) (mm:=(mput s.im x.u (g,(mgt s.im x.u).2++[b]))) (enc:=p_) (k:=.u64) 5 rfl rfl ym yg ti115 rfl hM rfl)) (fun(G,q) wq hM hF=>qv rfl rfl (lkV_r (a:=x.v) (mm:=(mput s.im x.u (g,(mgt s.im x.u).2++[b]))) (enc:=p_) (k:=.u64) 6 rfl rfl ym yg ti115 rfl hM rfl)) (obv (fun(G,q) _=>mv_r (v:=(Za ((b:Nat):Int))) rfl) ?_)
     refine ob_m rfl rfl rfl rfl (fun(G,q) wq hM hF=>m_bsv (vs:=(Zd ((b:Nat):Int))) (cs:=(Zd ((b:Nat):Int))) rfl rfl yh ti3 rfl (by simp[Value.cells]) rfl rfl rfl hM (fun a1 _ h=>⟨(a1,q),⟨h,trivial⟩,rfl,st_c rfl (st_c rfl (st_c rfl (st_c rfl (st_c rfl (st_c rfl (st_c rfl (st_c rfl (st_c rfl (st_c rfl (st_c rfl (st_c rfl (st_c trivial (st_c trivial (st_c trivial (st_n)))))))))))))))⟩)) (ob_m rfl rfl rfl rfl (fun(G,q) wq hM hF=>m_apdI (k:=.i64) (ys:=natsI (mgt (mput s.im x.u (g,(mgt s.im x.u).2++[b])) x.v).2) (zs:=[((b:Nat):Int)]) 1 rfl rfl rfl yh ti3 rfl hM rfl (yaq hM (i:=0) rfl) (by simp only[zo,zk,zq,natsI,zu,maxLen];have h7:=hnl2 x.u;have h8:=hnl2 x.v;first|omega|(rw[mgt_mput_ne hc3.1];omega)) (by simp only[zo,zk,zq,natsI,zu,maxLen];have h7:=hnl2 x.u;have h8:=hnl2 x.v;first|omega|(rw[mgt_mput_ne hc3.1];omega)) (fun a2 _ h=>⟨(G,a2),⟨h,trivial⟩,rfl,st_c rfl (st_c rfl (st_c rfl (st_c rfl (st_c rfl (st_c rfl (st_c rfl (st_c rfl (st_c rfl (st_c rfl (st_c rfl (st_c rfl (st_c rfl (st_c trivial (st_c trivial (st_n)))))))))))))))⟩)) (ob_m rfl rfl rfl rfl (fun(G,q) wq hM hF=>m_muV (a:=x.v) (c:=(q,(mgt (mput s.im x.u (g,(mgt s.im x.u).2++[b])) x.v).2++[b])) (mm:=(mput s.im x.u (g,(mgt s.im x.u).2++[b]))) (enc:=p_) (k:=.u64) (L' := (Zek G ([((b:Nat):Int)]) q ((natsI (mgt (mput s.im x.u (g,(mgt s.im x.u).2++[b])) x.v).2)++([((b:Nat):Int)])) (mdel (mput s.im x.u (g,(mgt s.im x.u).2++[b])) x.v) j ((b:Nat):Int) (s.last+1) x ub verts edges s (some s.mb) (updA s.live b (fun _=>(⟨((b:Nat):Int),s.last+1,x.u,x.v,x.wt,x.t,x.exp⟩:Lv))) (mput (mput s.im x.u (g,(mgt s.im x.u).2++[b])) x.v (q,(mgt (mput s.im x.u (g,(mgt s.im x.u).2++[b])) x.v).2++[b])) B L I H)) 6 rfl rfl rfl rfl ym yg hM rfl rfl (fun _ h=>⟨(G,q),⟨h,trivial⟩,rfl,Stab.refl _ _ _⟩)) ?_))
     exact ob_n
   rintro⟨G,q⟩ a3 a4 -
   have a5:=yj [1,2,3,4,5,6,7,8,9,10] a4
   have ai:St _ (Zer (mput (mput s.im x.u (g,(mgt s.im x.u).2++[b])) x.v (q,(mgt (mput s.im x.u (g,(mgt s.im x.u).2++[b])) x.v).2++[b])) j ((b:Nat):Int) (s.last+1) x ub verts edges s (some s.mb) (updA s.live b (fun _=>(⟨((b:Nat):Int),s.last+1,x.u,x.v,x.wt,x.t,x.exp⟩:Lv))) B L I H) a3:=ybs (by have h9:=a5;rw[<-natsI_app]at h9;exact h9)
   refine pQQ tt none ai 6 ?_
   refine tN (?_)
   refine rds (pPL ai 15 ?_)
   refine sto (L' := [famR 3 (mput (mput s.im x.u (g,(mgt s.im x.u).2++[b])) x.v (q,(mgt (mput s.im x.u (g,(mgt s.im x.u).2++[b])) x.v).2++[b])),blk j 34 (Z8 ((b:Nat):Int) (s.last+1) x),blk ub 130 (Zax verts edges (s.last+1) s (some s.mb)),rowR Lv.cells s.lv 34 7 (updA s.live b (fun _=>(⟨((b:Nat):Int),s.last+1,x.u,x.v,x.wt,x.t,x.exp⟩:Lv))),mapV s.mb .u64 p_ (mput (mput s.im x.u (g,(mgt s.im x.u).2++[b])) x.v (q,(mgt (mput s.im x.u (g,(mgt s.im x.u).2++[b])) x.v).2++[b])),(AW.R s.aab B),(Zal s L),blk I 34 (Z8 ((b:Nat):Int) (s.last+1) x),blk H 32 (Zo x)]) 7 rfl rfl rfl rfl ti34 rfl rfl ai rfl rfl rfl rfl (fun bC aj=>pLQ aj 4 ?_)
   refine retL2 (v:=(Zbx ((b:Nat):Int) (s.last+1) x)) (v' := Zc) Tryz.results53 (rvA (cs:=(Z8 ((b:Nat):Int) (s.last+1) x)) rfl yy rfl ti34 rfl (yab aj (i:=7) (o:=0) (vs:=(Z8 ((b:Nat):Int) (s.last+1) x)) rfl rfl)) (rvT rfl) ?_
   have a6:=yj [2,3,4,0,5,6,1,7,8] aj
   have hins:=hU.ins (e:=(⟨(b:Int),s.last+1,x.u,x.v,x.wt,x.t,x.exp⟩:Lv)) Y hA9 hT9 rfl rfl ⟨inkI (by show _/\_;dsimp only;omega),inkU (by show _/\_;dsimp only;omega),hxo.u,hxo.v,hxo.wt,hxo.t,hxo.exp⟩ hc3.1 (fun z=>by rw[au.mem,af.mem]) (by rw[au.n,af.n]) (lv2:=s.lv) (ls:=updA s.live b (fun _=>(⟨((b:Nat):Int),s.last+1,x.u,x.v,x.wt,x.t,x.exp⟩:Lv))) (by unfold putL;rw[if_neg o_]<;>rfl) (im2:=(mput (mput s.im x.u (g,(mgt s.im x.u).2++[b])) x.v (q,(mgt (mput s.im x.u (g,(mgt s.im x.u).2++[b])) x.v).2++[b]))) (by rw[mgt_mput_ne hc3.1];rfl)
   exact⟨b,(⟨s.aab,s.tb,s.ab,s.mb,s.lv,s.last+1,B,L,updA s.live b (fun _=>(⟨((b:Nat):Int),s.last+1,x.u,x.v,x.wt,x.t,x.exp⟩:Lv)),(mput (mput s.im x.u (g,(mgt s.im x.u).2++[b])) x.v (q,(mgt (mput s.im x.u (g,(mgt s.im x.u).2++[b])) x.v).2++[b]))⟩:Sto),rfl,⟨hins.2,rfl⟩,yv (yw (p:=Sto.ok verts edges (⟨s.aab,s.tb,s.ab,s.mb,s.lv,s.last+1,B,L,updA s.live b (fun _=>(⟨((b:Nat):Int),s.last+1,x.u,x.v,x.wt,x.t,x.exp⟩:Lv)),(mput (mput s.im x.u (g,(mgt s.im x.u).2++[b])) x.v (q,(mgt (mput s.im x.u (g,(mgt s.im x.u).2++[b])) x.v).2++[b]))⟩:Sto)) (yc [_,_,_,_,_,_] _ a6) hins.1) zh⟩
end
section
open Go Go.Sx
end
end Go.Proofs.YtdopagghhibopaaGreat
namespace Go.Proofs
open Go.Shelf Go.Lib Go.Sort Go.RowKit in
def Tryz.laysDel_ren:Go.Shelf.Ren:=⟨fun|23=>100|n=>n,fun|22=>115|3=>3|4=>4|0=>0|n=>n,fun|n=>n⟩
open Go.Shelf Go.Lib Go.Sort Go.RowKit in
theorem Tryz.laysDel:Go.Proofs.Lays2.n23 Proofs.Tryz.prog Tryz.laysDel_ren where
 mixed:=by kernel_rfl
 f23:=Proofs.Tryz.func100.trans (congrArg some<|by kernel_rfl)
 t0:=Proofs.Tryz.underlying0
 a0:=Proofs.Tryz.isAgg0
 z0:=Proofs.Tryz.sizeOf0
 v0:=Proofs.Tryz.zeroValue0
 t3:=Proofs.Tryz.underlying3
 a3:=Proofs.Tryz.isAgg3
 z3:=Proofs.Tryz.sizeOf3
 v3:=Proofs.Tryz.zeroValue3
 t4:=Proofs.Tryz.underlying4
 a4:=Proofs.Tryz.isAgg4
 z4:=Proofs.Tryz.sizeOf4
 v4:=Proofs.Tryz.zeroValue4
 t22:=Proofs.Tryz.underlying115
 a22:=Proofs.Tryz.isAgg115
 z22:=Proofs.Tryz.sizeOf115
 v22:=Proofs.Tryz.zeroValue115
 i3:=by kernel_rfl
end Go.Proofs
namespace Go.Proofs.YtdopagghhibopaaGreat
section
open Go Go.Sx
theorem delete_ok(v:Value)(xs:List Int)(w:World)(i:Nat)(hO:Own (rowI .i64 v 3 xs) w)(hi:i<xs.length) :
 CR ya 100 #[v,.int .i64 (i:Int),.int .i64 ((i+1:Nat):Int)] w (fun r w' => Turn (rowI .i64 v 3 xs) w w' (rowI .i64 r 3 (xs.eraseIdx i))) :=
 del_row hO hi fun b cap h1 h2 h3=>Any.slices_Delete_int Tryz.laysDel b 0 cap i (i+1) xs w h1 h2 h3 o_ o_
theorem index_ok(v:Value)(xs:List Int)(x:Int)(k:Nat)(w:World)(hv:Ints .i64 (fun _=>True) w v xs)(hl0:xs.length<=1000000)(hk:xs[k]? = some x)(hf:∀ (j:Nat) (y:Int),j<k->xs[j]? = some y->y≠x) :
 CR ya 99 #[v,(Za x)] w (fun r w' => r = .int .i64 (k:Int)/\Chg [] w w'):=by
 have hkl:=(zb.1 hk).1
 refine en Tryz.func99 Tryz.ntmps99 ?_
 have hst0:=yaf w
 refine pPL hst0 9 ?_
 refine lenI (v:=v) rfl rfl yh hv (pLP hst0 4 ?_)
 refine lp (α:=Nat) (fun q=>[(0,v),(1,(Za x)),(7,(Za xs.length)),(8,(Za q))]) (fun q w1=>St [(w,[])] [] w1/\q<=k) (fun q=>k-q) 0 ⟨rfl,rfl,rfl,eqI (by first|rfl|omega),trivial⟩ (⟨hst0,o_⟩) ?_
 rintro q d e ⟨hst7,hq7⟩
 obtain⟨y,hy⟩:=get_some' (show q<xs.length by omega)
 refine pPL hst7 2 ?_
 refine cmp rfl rfl rfl (c_lt o_) (pLL hst7 19 ?_)
 refine ixI (i:=(q:Int)) (el:=y) rfl rfl rfl yh ti3 (St.ints0 hst7 s_ hv) o_ (by rw[show ((q:Nat):Int).toNat=q by omega];exact hy) ?_
 intro f g b c h
 have l:=c.i64
 refine ld rfl rfl ye rfl b ?_
 by_cases a:(x:Int)=(y:Int)
 . have hqk:q=k:=(zbh q k).elim (fun h8=>absurd (show y=x from by have h7:=a;omega) (hf q y h8 hy)) (fun h8=>by omega)
   refine pLQ hst7 16 ?_
   refine ret1 (v:=(Za q)) Tryz.results99 rfl ?_
   obtain rfl:q=k:=by omega
   exact⟨rfl,hst7.chg s_⟩
 . have hqk:q≠k:=by rintro rfl;rw[hk]at hy;cases hy;exact(by have h7:=a;omega:False)
   refine pLQ hst7 11 ?_
   refine tN (?_)
   exact again (q+1) ⟨rfl,rfl,rfl,eqI (by first|rfl|omega),trivial⟩ (⟨hst7,o_⟩) (by show (k-(q+1):Nat)<k-q;omega)
theorem uremove_ok(verts edges ub:Nat)(s:Sto)(w:World)(hO:Own (Sto.R verts edges ub s) w)(i:Nat)(hi:s.A.inU i) :
 CR ya 49 (Zn ub i) w (fun r w' => ∃ (s2:Sto),r = .tuple #[(Zan (ndA s.live i)),.int .i64 0]/\((∀ y,s2.has y↔s.has y/\y.slot≠(i:Int))/\s2.last=s.last)/\Turn (Sto.R verts edges ub s) w w' (Sto.R verts edges ub s2)):=by
 have htu:s.t.A.used<=s.t.A.n:=hO.fact.tok.ul
 have hUn:=hO.fact.n
 have hUt:=hO.fact.tn
 have hUe:=hO.fact.en
 have hUv:=hO.fact.vn
 have hAu:s.A.used<=s.A.begun:=by have h7:=hO.fact.aok.used;omega
 have hAl:=hO.fact.aok.le
 have hll:=hO.fact.ll
 have hib:=hi.1
 have hne:=hO.fact.ne i hi
 refine en Tryz.func49 Tryz.ntmps49 ?_
 have hst0:=Own.of hO.un
 have hU:s.ok verts edges:=hO.fact
 refine pPL hst0 2 ?_
 refine al (cs:=Zt) rfl ti34 rfl hst0 ?_
 intro x aQ bF bG ak
 have aR:=yj [1,2,3,4,5,6,0] ak
 have am:=yw (p:=s.ok verts edges) (yc [_,_,_,_,_,_] _ aR) hU
 refine pLL ak 7 ?_
 refine cl ent57 (uvalid_ok verts edges ub s aQ (yd am (i:=0) rfl)) ?_
 rintro _ aS ⟨rfl,ht⟩
 have aT:=yu 0 am ht
 have Y:=(yav aT).unpack
 refine pLL Y 14 ?_
 refine cl ent98 (wfree_ok s.aab s.aw aS (yd Y (i:=4) rfl) i hi) ?_
 rintro _ bH ⟨g,rfl,W,ht⟩
 have K:=yu 4 Y ht
 have hA9:=(yac K (i:=4) rfl:g.A.ok)
 refine pLL K 19 ?_
 refine ixR (cf:=Lv.cells) (k:=i) (i:=(i:Int)) rfl rfl rfl y0 ti34 (yf K (i:=1) rfl f_) o_ o_ (nd_get om) (ldRA (cf:=Lv.cells) (cs:=(Zr (ndA s.live i))) rfl rfl yy rfl ti34 (yf K (i:=1) rfl f_) (nd_get om) rfl rfl (al (cs:=Zt) rfl ti34 rfl K (fun z bI bJ bK aU=>sLL aU 10 fun bL an=>?_)))
 refine bld (pvs:=[]) (v:=.agg Zcl) rfl rfl (buildS [] ti34 pl34 rfl trivial rfl) (ixR (cf:=Lv.cells) (k:=i) (i:=(i:Int)) rfl rfl rfl y0 ti34 (yf an (i:=2) rfl f_) o_ o_ (nd_get om) (stoR (f:=(fun _=>(⟨0,0,0,0,0,0,0⟩:Lv))) (L' := [blk z 34 (Zr (ndA s.live i)),blk ub 130 (Zaa verts edges s (some s.mb)),rowR Lv.cells s.lv 34 7 (updA s.live i (fun _=>(⟨0,0,0,0,0,0,0⟩:Lv))),mapV s.mb .u64 p_ s.im,famR 3 s.im,(AW.R s.aab g),(Z9 s),blk x 34 Zt]) 2 rfl rfl rfl rfl ti34 rfl rfl an rfl f_ om rfl rfl rfl (fun aV L=>pLL L 11 ?_)))
 refine bld (pvs:=[(0,(Ze ((ndA s.live i).u))),(1,(Ze ((ndA s.live i).v)))]) (v:=.agg (Zbf ((ndA s.live i).u) ((ndA s.live i).v))) rfl rfl (buildA [(0,(Zz ((ndA s.live i).u))),(1,(Zz ((ndA s.live i).v)))] ti177 yah ti30 rfl ⟨rfl,rfl,rfl,rfl,trivial⟩ rfl s_) (pLP L 4 ?_)
 refine unr 3 (rds (pPL L 13 ?_))
 refine idxAgg (i:=0) rfl rfl rfl yah yg rfl ti30 d_ rfl ?_
 have aW:=yj [4,0,1,2,3,5,6,7] L
 have M:=ybn ((ndA s.live i).u) aW
 refine pLL L 10 ?_
 refine lkV (a:=(ndA s.live i).u) (mm:=s.im) (enc:=p_) (k:=.u64) 5 rfl rfl rfl ym yg ti115 rfl M rfl (asg (v:=((mgt s.im ((ndA s.live i).u)).1)) rfl rfl (pLL M 5 ?_))
 refine mv (v:=((mgt s.im ((ndA s.live i).u)).1)) rfl rfl ?_
 have aX:=((hU.inc (ndA s.live i).u i).2 ⟨hi,.inl rfl⟩)
 obtain⟨b,ao,ap,aY⟩:=idx_first aX (hU.nd _)
 have aZ:b<(natsI (mgt s.im ((ndA s.live i).u)).2).length:=(zb.1 ap).1
 have aq:(natsI (mgt s.im ((ndA s.live i).u)).2).length<=1000000:=by rw[natsI,zu];exact z1 (hU.incl _) d_
 refine pLL M 1 ?_
 refine cl ent99 (index_ok ((mgt s.im ((ndA s.live i).u)).1) (natsI (mgt s.im ((ndA s.live i).u)).2) (i:Int) b aV (ybm M (i:=0) rfl (natsI_in64 (by rw[natsI,zu]at aq;exact fun j hj=>inc_lt hU (fun _ h=>h) hj))).any aq ap aY) ?_
 rintro _ a0 ⟨rfl,a1⟩
 have N:=yaa M a1
 refine pLL N 6 ?_
 refine cmp rfl rfl rfl (c_ge o_) (pLL N 4 ?_)
 refine mv (v:=((mgt s.im ((ndA s.live i).u)).1)) rfl rfl (pLL N 2 ?_)
 refine ar (e:=((b+1:Nat):Int)) rfl rfl rfl rfl (by rw[w64 o_];omega) (cl ent100 (delete_ok ((mgt s.im ((ndA s.live i).u)).1) (natsI (mgt s.im ((ndA s.live i).u)).2) a0 b (yd N (i:=0) rfl) aZ) ?_)
 rintro d bM ht
 have h9v₂:=yu 0 N ht
 rw[natsI_erase]at h9v₂
 have H:=h9v₂
 refine pLL H 7 ?_
 refine lenR (m:=(natsI ((mgt s.im ((ndA s.live i).u)).2.eraseIdx b)).length) 0 rfl rfl yh H rfl ?_
 by_cases au:((((natsI ((mgt s.im ((ndA s.live i).u)).2.eraseIdx b)).length:Nat):Int):Int)>(0:Int)
 . have a2:(mgt s.im ((ndA s.live i).u)).2.eraseIdx b≠[]:=by intro e9;have h7:=@au;rw[e9]at h7;simp[natsI]at h7
   refine pLL H 12 ?_
   refine muV (a:=(ndA s.live i).u) (c:=(d,(mgt s.im ((ndA s.live i).u)).2.eraseIdx b)) (mm:=s.im) (enc:=p_) (k:=.u64) (L' := (Zeu d (natsI ((mgt s.im ((ndA s.live i).u)).2.eraseIdx b)) (mdel s.im ((ndA s.live i).u)) z (ndA s.live i) ub verts edges s (some s.mb) (updA s.live i (fun _=>(⟨0,0,0,0,0,0,0⟩:Lv))) (mput s.im ((ndA s.live i).u) (d,(mgt s.im ((ndA s.live i).u)).2.eraseIdx b)) g x)) 5 rfl rfl rfl rfl ym yg H rfl rfl ?_
   intro a3 av
   have Z:=ybs av
   have C:Off s.im s.t (mput s.im ((ndA s.live i).u) (d,(mgt s.im ((ndA s.live i).u)).2.eraseIdx b)) s.t (ndA s.live i).u i:=Off.keep (hU.nd _) ao a2
   refine pLQ av 10 ?_
   refine tN (?_)
   refine rds (pPL Z 13 ?_)
   refine idxAgg (i:=1) rfl rfl rfl yah yg rfl ti30 d_ rfl ?_
   have O:=ybn ((ndA s.live i).v) Z
   refine pLL Z 10 ?_
   refine lkV (a:=(ndA s.live i).v) (mm:=(mput s.im ((ndA s.live i).u) (d,(mgt s.im ((ndA s.live i).u)).2.eraseIdx b))) (enc:=p_) (k:=.u64) 5 rfl rfl rfl ym yg ti115 rfl O rfl (asg (v:=((mgt (mput s.im ((ndA s.live i).u) (d,(mgt s.im ((ndA s.live i).u)).2.eraseIdx b)) ((ndA s.live i).v)).1)) rfl rfl (pLL O 5 ?_))
   refine mv (v:=((mgt (mput s.im ((ndA s.live i).u) (d,(mgt s.im ((ndA s.live i).u)).2.eraseIdx b)) ((ndA s.live i).v)).1)) rfl rfl ?_
   have a4:=((C.get (ndA s.live i).v i).2 ⟨(hU.inc (ndA s.live i).v i).2 ⟨hi,.inr rfl⟩,fun e=>absurd e.symm hne⟩)
   obtain⟨l,ax,ay,a5⟩:=idx_first a4 (C.nd hU.nd _)
   have a6:l<(natsI (mgt (mput s.im ((ndA s.live i).u) (d,(mgt s.im ((ndA s.live i).u)).2.eraseIdx b)) ((ndA s.live i).v)).2).length:=(zb.1 ay).1
   have az:(natsI (mgt (mput s.im ((ndA s.live i).u) (d,(mgt s.im ((ndA s.live i).u)).2.eraseIdx b)) ((ndA s.live i).v)).2).length<=1000000:=by rw[natsI,zu];exact z1 (inc_le hU C _) d_
   refine pLL O 1 ?_
   refine cl ent99 (index_ok ((mgt (mput s.im ((ndA s.live i).u) (d,(mgt s.im ((ndA s.live i).u)).2.eraseIdx b)) ((ndA s.live i).v)).1) (natsI (mgt (mput s.im ((ndA s.live i).u) (d,(mgt s.im ((ndA s.live i).u)).2.eraseIdx b)) ((ndA s.live i).v)).2) (i:Int) l a3 (ybm O (i:=0) rfl (natsI_in64 (by rw[natsI,zu]at az;exact fun j hj=>inc_lt hU (fun _ h=>((C.get _ _).1 h).1) hj))).any az ay a5) ?_
   rintro _ a7 ⟨rfl,a8⟩
   have P:=yaa O a8
   refine pLL P 6 ?_
   refine cmp rfl rfl rfl (c_ge o_) (pLL P 4 ?_)
   refine mv (v:=((mgt (mput s.im ((ndA s.live i).u) (d,(mgt s.im ((ndA s.live i).u)).2.eraseIdx b)) ((ndA s.live i).v)).1)) rfl rfl (pLL P 2 ?_)
   refine ar (e:=((l+1:Nat):Int)) rfl rfl rfl rfl (by rw[w64 o_];omega) (cl ent100 (delete_ok ((mgt (mput s.im ((ndA s.live i).u) (d,(mgt s.im ((ndA s.live i).u)).2.eraseIdx b)) ((ndA s.live i).v)).1) (natsI (mgt (mput s.im ((ndA s.live i).u) (d,(mgt s.im ((ndA s.live i).u)).2.eraseIdx b)) ((ndA s.live i).v)).2) a7 l (yd P (i:=0) rfl) a6) ?_)
   rintro E bN ht
   have h9v₃:=yu 0 P ht
   rw[natsI_erase]at h9v₃
   have I:=h9v₃
   refine pLL I 7 ?_
   refine lenR (m:=(natsI ((mgt (mput s.im ((ndA s.live i).u) (d,(mgt s.im ((ndA s.live i).u)).2.eraseIdx b)) ((ndA s.live i).v)).2.eraseIdx l)).length) 0 rfl rfl yh I rfl ?_
   by_cases aA:((((natsI ((mgt (mput s.im ((ndA s.live i).u) (d,(mgt s.im ((ndA s.live i).u)).2.eraseIdx b)) ((ndA s.live i).v)).2.eraseIdx l)).length:Nat):Int):Int)>(0:Int)
   . have a9:(mgt (mput s.im ((ndA s.live i).u) (d,(mgt s.im ((ndA s.live i).u)).2.eraseIdx b)) ((ndA s.live i).v)).2.eraseIdx l≠[]:=by intro e9;have h7:=@aA;rw[e9]at h7;simp[natsI]at h7
     refine pLL I 12 ?_
     refine muV (a:=(ndA s.live i).v) (c:=(E,(mgt (mput s.im ((ndA s.live i).u) (d,(mgt s.im ((ndA s.live i).u)).2.eraseIdx b)) ((ndA s.live i).v)).2.eraseIdx l)) (mm:=(mput s.im ((ndA s.live i).u) (d,(mgt s.im ((ndA s.live i).u)).2.eraseIdx b))) (enc:=p_) (k:=.u64) (L' := (Zeu E (natsI ((mgt (mput s.im ((ndA s.live i).u) (d,(mgt s.im ((ndA s.live i).u)).2.eraseIdx b)) ((ndA s.live i).v)).2.eraseIdx l)) (mdel (mput s.im ((ndA s.live i).u) (d,(mgt s.im ((ndA s.live i).u)).2.eraseIdx b)) ((ndA s.live i).v)) z (ndA s.live i) ub verts edges s (some s.mb) (updA s.live i (fun _=>(⟨0,0,0,0,0,0,0⟩:Lv))) (mput (mput s.im ((ndA s.live i).u) (d,(mgt s.im ((ndA s.live i).u)).2.eraseIdx b)) ((ndA s.live i).v) (E,(mgt (mput s.im ((ndA s.live i).u) (d,(mgt s.im ((ndA s.live i).u)).2.eraseIdx b)) ((ndA s.live i).v)).2.eraseIdx l)) g x)) 5 rfl rfl rfl rfl ym yg I rfl rfl ?_
     intro bO aB
     have aC:=ybs aB
     have ba:Off (mput s.im ((ndA s.live i).u) (d,(mgt s.im ((ndA s.live i).u)).2.eraseIdx b)) s.t (mput (mput s.im ((ndA s.live i).u) (d,(mgt s.im ((ndA s.live i).u)).2.eraseIdx b)) ((ndA s.live i).v) (E,(mgt (mput s.im ((ndA s.live i).u) (d,(mgt s.im ((ndA s.live i).u)).2.eraseIdx b)) ((ndA s.live i).v)).2.eraseIdx l)) s.t (ndA s.live i).v i:=Off.keep (C.nd hU.nd _) ax a9
     refine pLQ aB 10 ?_
     refine tN (?_)
     refine rds (pPL aC 15 ?_)
     refine sto (L' := [famR 3 (mput (mput s.im ((ndA s.live i).u) (d,(mgt s.im ((ndA s.live i).u)).2.eraseIdx b)) ((ndA s.live i).v) (E,(mgt (mput s.im ((ndA s.live i).u) (d,(mgt s.im ((ndA s.live i).u)).2.eraseIdx b)) ((ndA s.live i).v)).2.eraseIdx l)),blk z 34 (Zr (ndA s.live i)),blk ub 130 (Zaa verts edges s (some s.mb)),rowR Lv.cells s.lv 34 7 (updA s.live i (fun _=>(⟨0,0,0,0,0,0,0⟩:Lv))),mapV s.mb .u64 p_ (mput (mput s.im ((ndA s.live i).u) (d,(mgt s.im ((ndA s.live i).u)).2.eraseIdx b)) ((ndA s.live i).v) (E,(mgt (mput s.im ((ndA s.live i).u) (d,(mgt s.im ((ndA s.live i).u)).2.eraseIdx b)) ((ndA s.live i).v)).2.eraseIdx l)),(AW.R s.aab g),(Z9 s),blk x 34 (Zr (ndA s.live i))]) 7 rfl rfl rfl rfl ti34 rfl rfl aC rfl rfl rfl rfl (fun bP aa=>pLQ aa 4 ?_)
     refine retL2 (v:=(Zan (ndA s.live i))) (v' := Zc) ybx (rvA (cs:=(Zr (ndA s.live i))) rfl yy rfl ti34 rfl (yab aa (i:=7) (o:=0) (vs:=(Zr (ndA s.live i))) rfl rfl)) (rvT rfl) ?_
     have aD:=yj [2,3,4,0,5,6,1,7] aa
     have hto:=(yac aD (i:=5) rfl:s.t.ok)
     have hrem:=hU.rem hi W hA9 hto C ba (lv2:=s.lv) (ls:=updA s.live i (fun _=>(⟨0,0,0,0,0,0,0⟩:Lv))) rfl
     exact⟨(⟨s.aab,s.tb,s.ab,s.mb,s.lv,s.last,g,s.t,updA s.live i (fun _=>(⟨0,0,0,0,0,0,0⟩:Lv)),(mput (mput s.im ((ndA s.live i).u) (d,(mgt s.im ((ndA s.live i).u)).2.eraseIdx b)) ((ndA s.live i).v) (E,(mgt (mput s.im ((ndA s.live i).u) (d,(mgt s.im ((ndA s.live i).u)).2.eraseIdx b)) ((ndA s.live i).v)).2.eraseIdx l))⟩:Sto),rfl,⟨hrem.2,rfl⟩,yv (yw (p:=Sto.ok verts edges (⟨s.aab,s.tb,s.ab,s.mb,s.lv,s.last,g,s.t,updA s.live i (fun _=>(⟨0,0,0,0,0,0,0⟩:Lv)),(mput (mput s.im ((ndA s.live i).u) (d,(mgt s.im ((ndA s.live i).u)).2.eraseIdx b)) ((ndA s.live i).v) (E,(mgt (mput s.im ((ndA s.live i).u) (d,(mgt s.im ((ndA s.live i).u)).2.eraseIdx b)) ((ndA s.live i).v)).2.eraseIdx l))⟩:Sto)) (yc [_,_,_,_,_,_] _ aD) hrem.1) zh⟩
   . have bb:(mgt (mput s.im ((ndA s.live i).u) (d,(mgt s.im ((ndA s.live i).u)).2.eraseIdx b)) ((ndA s.live i).v)).2.eraseIdx l=[]:=by have h7:=@aA;simp only[natsI,zu]at h7;exact zat o_
     have bc:=yj [1,2,3,4,5,6,7,8] I
     refine pLL I 13 ?_
     refine dlV (a:=(ndA s.live i).v) (mm:=(mput s.im ((ndA s.live i).u) (d,(mgt s.im ((ndA s.live i).u)).2.eraseIdx b))) (enc:=p_) (k:=.u64) (L' := (Zet (mdel (mput s.im ((ndA s.live i).u) (d,(mgt s.im ((ndA s.live i).u)).2.eraseIdx b)) ((ndA s.live i).v)) z (ndA s.live i) ub verts edges s (some s.mb) (updA s.live i (fun _=>(⟨0,0,0,0,0,0,0⟩:Lv))) g x)) 4 rfl rfl rfl ym yg bc rfl rfl ?_
     intro bd ac
     obtain⟨be,bf,bg⟩:=((C.mem (ndA s.live i).v).2 ⟨(hU.mem (ndA s.live i).v).2 ⟨i,hi,.inr rfl⟩,fun e=>absurd e.symm hne⟩)
     refine pLL ac 8 ?_
     refine cl ent101 (tdel_ok s.tb s.ab s.t bd (yd ac (i:=6) rfl) (ndA s.live i).v be bf bg) ?_
     rintro _ bQ ⟨Q,rfl,aE,ht⟩
     have ad:=yu 6 ac ht
     have bh:Off (mput s.im ((ndA s.live i).u) (d,(mgt s.im ((ndA s.live i).u)).2.eraseIdx b)) s.t (mdel (mput s.im ((ndA s.live i).u) (d,(mgt s.im ((ndA s.live i).u)).2.eraseIdx b)) ((ndA s.live i).v)) Q (ndA s.live i).v i:=Off.drop (C.keys hU.keys) (C.nd hU.nd _) ax bb aE.1 aE.2.1
     refine pLQ ad 7 ?_
     refine tN (?_)
     refine rds (pPL ad 15 ?_)
     refine sto (L' := (Zen (mdel (mput s.im ((ndA s.live i).u) (d,(mgt s.im ((ndA s.live i).u)).2.eraseIdx b)) ((ndA s.live i).v)) z (ndA s.live i) ub verts edges s (some s.mb) (updA s.live i (fun _=>(⟨0,0,0,0,0,0,0⟩:Lv))) g Q x)) 7 rfl rfl rfl rfl ti34 rfl rfl ad rfl rfl rfl rfl (fun bR ae=>pLQ ae 4 ?_)
     refine retL2 (v:=(Zan (ndA s.live i))) (v' := Zc) ybx (rvA (cs:=(Zr (ndA s.live i))) rfl yy rfl ti34 rfl (yab ae (i:=7) (o:=0) (vs:=(Zr (ndA s.live i))) rfl rfl)) (rvT rfl) ?_
     have aF:=yj [2,3,4,0,5,6,1,7] ae
     have hto:=(yac aF (i:=5) rfl:Q.ok)
     have hrem:=hU.rem hi W hA9 hto C bh (lv2:=s.lv) (ls:=updA s.live i (fun _=>(⟨0,0,0,0,0,0,0⟩:Lv))) rfl
     exact⟨(⟨s.aab,s.tb,s.ab,s.mb,s.lv,s.last,g,Q,updA s.live i (fun _=>(⟨0,0,0,0,0,0,0⟩:Lv)),(mdel (mput s.im ((ndA s.live i).u) (d,(mgt s.im ((ndA s.live i).u)).2.eraseIdx b)) ((ndA s.live i).v))⟩:Sto),rfl,⟨hrem.2,rfl⟩,yv (yw (p:=Sto.ok verts edges (⟨s.aab,s.tb,s.ab,s.mb,s.lv,s.last,g,Q,updA s.live i (fun _=>(⟨0,0,0,0,0,0,0⟩:Lv)),(mdel (mput s.im ((ndA s.live i).u) (d,(mgt s.im ((ndA s.live i).u)).2.eraseIdx b)) ((ndA s.live i).v))⟩:Sto)) (yc [_,_,_,_,_,_] _ aF) hrem.1) zh⟩
 . have bi:(mgt s.im ((ndA s.live i).u)).2.eraseIdx b=[]:=by have h7:=@au;simp only[natsI,zu]at h7;exact zat o_
   have bj:=yj [1,2,3,4,5,6,7,8] H
   refine pLL H 13 ?_
   refine dlV (a:=(ndA s.live i).u) (mm:=s.im) (enc:=p_) (k:=.u64) (L' := (Zet (mdel s.im ((ndA s.live i).u)) z (ndA s.live i) ub verts edges s (some s.mb) (updA s.live i (fun _=>(⟨0,0,0,0,0,0,0⟩:Lv))) g x)) 4 rfl rfl rfl ym yg bj rfl rfl ?_
   intro bl af
   obtain⟨bm,bn,bo⟩:=((hU.mem (ndA s.live i).u).2 ⟨i,hi,.inl rfl⟩)
   refine pLL af 8 ?_
   refine cl ent101 (tdel_ok s.tb s.ab s.t bl (yd af (i:=6) rfl) (ndA s.live i).u bm bn bo) ?_
   rintro _ bp ⟨B,rfl,aG,ht⟩
   have X:=yu 6 af ht
   have D:Off s.im s.t (mdel s.im ((ndA s.live i).u)) B (ndA s.live i).u i:=Off.drop hU.keys (hU.nd _) ao bi aG.1 aG.2.1
   refine pLQ X 7 ?_
   refine tN (?_)
   refine rds (pPL X 13 ?_)
   refine idxAgg (i:=1) rfl rfl rfl yah yg rfl ti30 d_ rfl ?_
   have S:=ybn ((ndA s.live i).v) X
   refine pLL X 10 ?_
   refine lkV (a:=(ndA s.live i).v) (mm:=(mdel s.im ((ndA s.live i).u))) (enc:=p_) (k:=.u64) 5 rfl rfl rfl ym yg ti115 rfl S rfl (asg (v:=((mgt (mdel s.im ((ndA s.live i).u)) ((ndA s.live i).v)).1)) rfl rfl (pLL S 5 ?_))
   refine mv (v:=((mgt (mdel s.im ((ndA s.live i).u)) ((ndA s.live i).v)).1)) rfl rfl ?_
   have bq:=((D.get (ndA s.live i).v i).2 ⟨(hU.inc (ndA s.live i).v i).2 ⟨hi,.inr rfl⟩,fun e=>absurd e.symm hne⟩)
   obtain⟨q,aH,aI,br⟩:=idx_first bq (D.nd hU.nd _)
   have bs:q<(natsI (mgt (mdel s.im ((ndA s.live i).u)) ((ndA s.live i).v)).2).length:=(zb.1 aI).1
   have aJ:(natsI (mgt (mdel s.im ((ndA s.live i).u)) ((ndA s.live i).v)).2).length<=1000000:=by rw[natsI,zu];exact z1 (inc_le hU D _) d_
   refine pLL S 1 ?_
   refine cl ent99 (index_ok ((mgt (mdel s.im ((ndA s.live i).u)) ((ndA s.live i).v)).1) (natsI (mgt (mdel s.im ((ndA s.live i).u)) ((ndA s.live i).v)).2) (i:Int) q bp (ybm S (i:=0) rfl (natsI_in64 (by rw[natsI,zu]at aJ;exact fun j hj=>inc_lt hU (fun _ h=>((D.get _ _).1 h).1) hj))).any aJ aI br) ?_
   rintro _ bt ⟨rfl,bu⟩
   have U:=yaa S bu
   refine pLL U 6 ?_
   refine cmp rfl rfl rfl (c_ge o_) (pLL U 4 ?_)
   refine mv (v:=((mgt (mdel s.im ((ndA s.live i).u)) ((ndA s.live i).v)).1)) rfl rfl (pLL U 2 ?_)
   refine ar (e:=((q+1:Nat):Int)) rfl rfl rfl rfl (by rw[w64 o_];omega) (cl ent100 (delete_ok ((mgt (mdel s.im ((ndA s.live i).u)) ((ndA s.live i).v)).1) (natsI (mgt (mdel s.im ((ndA s.live i).u)) ((ndA s.live i).v)).2) bt q (yd U (i:=0) rfl) bs) ?_)
   rintro G bS ht
   have h9v₄:=yu 0 U ht
   rw[natsI_erase]at h9v₄
   have J:=h9v₄
   refine pLL J 7 ?_
   refine lenR (m:=(natsI ((mgt (mdel s.im ((ndA s.live i).u)) ((ndA s.live i).v)).2.eraseIdx q)).length) 0 rfl rfl yh J rfl ?_
   by_cases aK:((((natsI ((mgt (mdel s.im ((ndA s.live i).u)) ((ndA s.live i).v)).2.eraseIdx q)).length:Nat):Int):Int)>(0:Int)
   . have bv:(mgt (mdel s.im ((ndA s.live i).u)) ((ndA s.live i).v)).2.eraseIdx q≠[]:=by intro e9;have h7:=@aK;rw[e9]at h7;simp[natsI]at h7
     refine pLL J 12 ?_
     refine muV (a:=(ndA s.live i).v) (c:=(G,(mgt (mdel s.im ((ndA s.live i).u)) ((ndA s.live i).v)).2.eraseIdx q)) (mm:=(mdel s.im ((ndA s.live i).u))) (enc:=p_) (k:=.u64) (L' := [rowI .i64 G 3 (natsI ((mgt (mdel s.im ((ndA s.live i).u)) ((ndA s.live i).v)).2.eraseIdx q)),famR 3 (mdel (mdel s.im ((ndA s.live i).u)) ((ndA s.live i).v)),blk z 34 (Zr (ndA s.live i)),blk ub 130 (Zaa verts edges s (some s.mb)),rowR Lv.cells s.lv 34 7 (updA s.live i (fun _=>(⟨0,0,0,0,0,0,0⟩:Lv))),mapV s.mb .u64 p_ (mput (mdel s.im ((ndA s.live i).u)) ((ndA s.live i).v) (G,(mgt (mdel s.im ((ndA s.live i).u)) ((ndA s.live i).v)).2.eraseIdx q)),(AW.R s.aab g),(Zal s B),blk x 34 Zt]) 5 rfl rfl rfl rfl ym yg J rfl rfl ?_
     intro bT aL
     have aM:=ybs aL
     have bw:Off (mdel s.im ((ndA s.live i).u)) B (mput (mdel s.im ((ndA s.live i).u)) ((ndA s.live i).v) (G,(mgt (mdel s.im ((ndA s.live i).u)) ((ndA s.live i).v)).2.eraseIdx q)) B (ndA s.live i).v i:=Off.keep (D.nd hU.nd _) aH bv
     refine pLQ aL 10 ?_
     refine tN (?_)
     refine rds (pPL aM 15 ?_)
     refine sto (L' := (Zen (mput (mdel s.im ((ndA s.live i).u)) ((ndA s.live i).v) (G,(mgt (mdel s.im ((ndA s.live i).u)) ((ndA s.live i).v)).2.eraseIdx q)) z (ndA s.live i) ub verts edges s (some s.mb) (updA s.live i (fun _=>(⟨0,0,0,0,0,0,0⟩:Lv))) g B x)) 7 rfl rfl rfl rfl ti34 rfl rfl aM rfl rfl rfl rfl (fun bU ag=>pLQ ag 4 ?_)
     refine retL2 (v:=(Zan (ndA s.live i))) (v' := Zc) ybx (rvA (cs:=(Zr (ndA s.live i))) rfl yy rfl ti34 rfl (yab ag (i:=7) (o:=0) (vs:=(Zr (ndA s.live i))) rfl rfl)) (rvT rfl) ?_
     have aN:=yj [2,3,4,0,5,6,1,7] ag
     have hto:=(yac aN (i:=5) rfl:B.ok)
     have hrem:=hU.rem hi W hA9 hto D bw (lv2:=s.lv) (ls:=updA s.live i (fun _=>(⟨0,0,0,0,0,0,0⟩:Lv))) rfl
     exact⟨(⟨s.aab,s.tb,s.ab,s.mb,s.lv,s.last,g,B,updA s.live i (fun _=>(⟨0,0,0,0,0,0,0⟩:Lv)),(mput (mdel s.im ((ndA s.live i).u)) ((ndA s.live i).v) (G,(mgt (mdel s.im ((ndA s.live i).u)) ((ndA s.live i).v)).2.eraseIdx q))⟩:Sto),rfl,⟨hrem.2,rfl⟩,yv (yw (p:=Sto.ok verts edges (⟨s.aab,s.tb,s.ab,s.mb,s.lv,s.last,g,B,updA s.live i (fun _=>(⟨0,0,0,0,0,0,0⟩:Lv)),(mput (mdel s.im ((ndA s.live i).u)) ((ndA s.live i).v) (G,(mgt (mdel s.im ((ndA s.live i).u)) ((ndA s.live i).v)).2.eraseIdx q))⟩:Sto)) (yc [_,_,_,_,_,_] _ aN) hrem.1) zh⟩
   . have bx:(mgt (mdel s.im ((ndA s.live i).u)) ((ndA s.live i).v)).2.eraseIdx q=[]:=by have h7:=@aK;simp only[natsI,zu]at h7;exact zat o_
     have bz:=yj [1,2,3,4,5,6,7,8] J
     refine pLL J 13 ?_
     refine dlV (a:=(ndA s.live i).v) (mm:=(mdel s.im ((ndA s.live i).u))) (enc:=p_) (k:=.u64) (L' := [famR 3 (mdel (mdel s.im ((ndA s.live i).u)) ((ndA s.live i).v)),blk z 34 (Zr (ndA s.live i)),blk ub 130 (Zaa verts edges s (some s.mb)),rowR Lv.cells s.lv 34 7 (updA s.live i (fun _=>(⟨0,0,0,0,0,0,0⟩:Lv))),mapV s.mb .u64 p_ (mdel (mdel s.im ((ndA s.live i).u)) ((ndA s.live i).v)),(AW.R s.aab g),(Zal s B),blk x 34 Zt]) 4 rfl rfl rfl ym yg bz rfl rfl ?_
     intro bA ah
     obtain⟨bB,bC,bD⟩:=((D.mem (ndA s.live i).v).2 ⟨(hU.mem (ndA s.live i).v).2 ⟨i,hi,.inr rfl⟩,fun e=>absurd e.symm hne⟩)
     refine pLL ah 8 ?_
     refine cl ent101 (tdel_ok s.tb s.ab B bA (yd ah (i:=6) rfl) (ndA s.live i).v bB bC bD) ?_
     rintro _ bV ⟨V,rfl,aO,ht⟩
     have ai:=yu 6 ah ht
     have bE:Off (mdel s.im ((ndA s.live i).u)) B (mdel (mdel s.im ((ndA s.live i).u)) ((ndA s.live i).v)) V (ndA s.live i).v i:=Off.drop (D.keys hU.keys) (D.nd hU.nd _) aH bx aO.1 aO.2.1
     refine pLQ ai 7 ?_
     refine tN (?_)
     refine rds (pPL ai 15 ?_)
     refine sto (L' := (Zen (mdel (mdel s.im ((ndA s.live i).u)) ((ndA s.live i).v)) z (ndA s.live i) ub verts edges s (some s.mb) (updA s.live i (fun _=>(⟨0,0,0,0,0,0,0⟩:Lv))) g V x)) 7 rfl rfl rfl rfl ti34 rfl rfl ai rfl rfl rfl rfl (fun bW aj=>pLQ aj 4 ?_)
     refine retL2 (v:=(Zan (ndA s.live i))) (v' := Zc) ybx (rvA (cs:=(Zr (ndA s.live i))) rfl yy rfl ti34 rfl (yab aj (i:=7) (o:=0) (vs:=(Zr (ndA s.live i))) rfl rfl)) (rvT rfl) ?_
     have aP:=yj [2,3,4,0,5,6,1,7] aj
     have hto:=(yac aP (i:=5) rfl:V.ok)
     have hrem:=hU.rem hi W hA9 hto D bE (lv2:=s.lv) (ls:=updA s.live i (fun _=>(⟨0,0,0,0,0,0,0⟩:Lv))) rfl
     exact⟨(⟨s.aab,s.tb,s.ab,s.mb,s.lv,s.last,g,V,updA s.live i (fun _=>(⟨0,0,0,0,0,0,0⟩:Lv)),(mdel (mdel s.im ((ndA s.live i).u)) ((ndA s.live i).v))⟩:Sto),rfl,⟨hrem.2,rfl⟩,yv (yw (p:=Sto.ok verts edges (⟨s.aab,s.tb,s.ab,s.mb,s.lv,s.last,g,V,updA s.live i (fun _=>(⟨0,0,0,0,0,0,0⟩:Lv)),(mdel (mdel s.im ((ndA s.live i).u)) ((ndA s.live i).v))⟩:Sto)) (yc [_,_,_,_,_,_] _ aP) hrem.1) zh⟩
end
section
open Go Go.Sx
theorem ufrom_ok(verts edges:Nat)(w:World)(hv:verts<=4096)(he:edges<=16384) :
 CR ya 39 #[(Za verts),(Za edges),Zaz] w (fun r w' => ∃ (ub:Nat) (s:Sto),r = .tuple (Zae ub)/\((∀ y,¬ s.has y)/\s.last=0)/\Turn (allR []) w w' (Sto.R verts edges ub s)):=by
 refine en Tryz.func39 Tryz.ntmps39 ?_
 have hst0:=yaf w
 refine pPL hst0 10 ?_
 refine cmp rfl rfl rfl (c_nlt o_) (pLL hst0 2 ?_)
 refine cmp rfl rfl rfl (c_ngt o_) (pLL hst0 3 ?_)
 refine cmp rfl rfl rfl (c_nlt o_) (pLL hst0 3 ?_)
 refine cmp rfl rfl rfl (c_ngt o_) (pLL hst0 13 ?_)
 refine cl ent80 (wnew_ok edges w o_) ?_
 rintro _ o ⟨a,f,rfl,q,ht⟩
 have h:=(ya9 hst0 ht)
 refine pLL h 20 ?_
 refine cl ent81 (tnew_ok verts o o_) ?_
 rintro _ z ⟨b,d,e,rfl,j,ht⟩
 have k:=(ya9 h ht)
 refine pLL k 24 ?_
 refine mkV p_ .u64 rfl rfl k (fun c A B C t=>bld (pvs:=[(0,(Za verts)),(1,(Za edges)),(2,Zaz),(3,(Zb a)),(4,(Zb b)),(6,(.map (some c)))]) (v:=.agg (Zc0 verts edges a b (some c))) rfl rfl (buildS [(0,(Zd verts)),(1,(Zd edges)),(2,Zbp),(3,(Zj a)),(4,(Zj b)),(6,[(.map (some c))])] ti130 pl130 rfl ⟨rfl,rfl,rfl,rfl,rfl,rfl,rfl,rfl,rfl,rfl,rfl,rfl,trivial⟩ rfl) (bx (v:=(.agg (Zc0 verts edges a b (some c)))) (cs:=(Zc6 verts edges a b (some c))) rfl rfl rfl t (fun g l D E m=>pLQ m 5 ?_)))
 refine ret2 (v:=(Zb g)) (v' := Zc) Tryz.results39 rfl rfl ?_
 have u:St _ [rowR Lv.cells Zl 34 7 ([]),blk g 130 (Zc6 verts edges a b (some c)),mapV c .u64 p_ ([]),(TW.R b d e),(AW.R a f)] l:=ybd m 34 7
 have x:St _ [famR 3 [],rowR Lv.cells Zl 34 7 ([]),blk g 130 (Zc6 verts edges a b (some c)),mapV c .u64 p_ ([]),(TW.R b d e),(AW.R a f)] l:=St.famNil u
 have n:=yj [2,1,3,0,5,4] x
 have hto:=(yac n (i:=5) rfl:e.ok)
 have hnew:=Sto.new_ok q hto j.1 j.2.1 he hv a b d c
 exact⟨g,(⟨a,b,d,c,.slice none 0 0,0,f,e,[],[]⟩:Sto),rfl,⟨hnew.2,rfl⟩,St.endMade (yw (p:=Sto.ok verts edges (⟨a,b,d,c,.slice none 0 0,0,f,e,[],[]⟩:Sto)) (yc [_,_,_,_,_,_] _ n) hnew.1) s_⟩
end
section
open Go Go.Sx
theorem side_ok(fb nb m:Nat)(ed:Int)(xs:List Nd)(w:World)(hf:(Zbc fb nb m ed).holds w)(hN:(blk nb 269 (xs.flatMap Nd.cells)).holds w)(hm:xs.length=m)(hb:m<=1000001)(hI:InN xs)(i:Nat)(hi:i<m) :
 CR ya 230 (Zn fb i) w (fun r w' => r = .tuple (Zaq ((sideS xs i).1:Int) ((sideS xs i).2))/\Chg [] w w'):=by
 have hup:=hI.up i o_
 refine en Tryz.func230 Tryz.ntmps230 ?_
 have hst0:=yaf w
 refine pPL hst0 13 ?_
 refine ixa (o' := i*9+0) (i:=(i:Int)) rfl rfl rfl yk ti269 o_ o_ (fa (o' := i*9+2) rfl rfl yi rfl ti3 rfl (ld rfl rfl ye rfl (St.roRec hst0 s_ hN f_ om rfl) (pLL hst0 7 ?_)))
 by_cases a:(((ndA xs i).up:Int):Int)=(0:Int)
 . refine pLQ hst0 12 ?_
   refine ret2 (v:=Zc) (v' := Zp) ybu rfl rfl ?_
   exact⟨by simp only[sideS];(repeat' split)<;>(first|rfl|omega),hst0.chg s_⟩
 . refine pLL hst0 14 ?_
   refine ixa (o' := ((ndA xs i).up)*9+0) (i:=((ndA xs i).up:Int)) rfl rfl rfl yk ti269 o_ o_ (fa (o' := ((ndA xs i).up)*9+0) rfl rfl yi rfl ti267 rfl (ldA (cs:=(Zi ((ndA xs ((ndA xs i).up)).k0:Int) ((ndA xs ((ndA xs i).up)).k1:Int))) rfl rfl yt rfl ti267 rfl (St.roRecs hst0 s_ hN f_ om rfl) (pLP hst0 4 ?_)))
   refine unr 3 (rds (pPL hst0 14 ?_))
   refine idxAgg (i:=0) rfl rfl rfl yt ye rfl ti3 d_ rfl (pLL hst0 8 ?_)
   by_cases b:(((ndA xs ((ndA xs i).up)).k0:Int):Int)=((i:Int):Int)
   . refine pLQ hst0 17 ?_
     refine ret2 (v:=Zc) (v' := Zf) ybu rfl rfl ?_
     exact⟨by simp only[sideS];(repeat' split)<;>(first|rfl|omega),hst0.chg s_⟩
   . refine pLQ hst0 11 ?_
     refine tN (?_)
     refine rds (pPL hst0 14 ?_)
     refine idxAgg (i:=1) rfl rfl rfl yt ye rfl ti3 d_ rfl (pLL hst0 8 ?_)
     by_cases c:(((ndA xs ((ndA xs i).up)).k1:Int):Int)=((i:Int):Int)
     . refine pLQ hst0 17 ?_
       refine ret2 (v:=Z5) (v' := Zf) ybu rfl rfl ?_
       exact⟨by simp only[sideS];(repeat' split)<;>(first|rfl|omega),hst0.chg s_⟩
     . refine pLQ hst0 11 ?_
       refine tN (?_)
       refine rds (pPQ hst0 19 ?_)
       refine ret2 (v:=Zc) (v' := Zp) ybu rfl rfl ?_
       exact⟨by simp only[sideS];(repeat' split)<;>(first|rfl|omega),hst0.chg s_⟩
theorem before_ok(fb nb m:Nat)(ed:Int)(xs:List Nd)(w:World)(hf:(Zbc fb nb m ed).holds w)(hN:(blk nb 269 (xs.flatMap Nd.cells)).holds w)(hm:xs.length=m)(hb:m<=1000001)(hI:InN xs)(i j:Nat)(hi:i<m)(hj:j<m) :
 CR ya 198 (Z1 fb i j) w (fun r w' => r = .bool (beforeS xs i j)/\Chg [] w w'):=by
 refine en Tryz.func198 Tryz.ntmps198 ?_
 have hst0:=yaf w
 refine pPP hst0 6 ?_
 refine dr0 hst0 (fun b a=>?_) (hA:=by refine' dar 7 ?k0;case k0=>refine' dax (fun wq hM=>rv (ld_r rfl yas rfl (St.roRec hM s_ hN f_ om rfl))) ?k1;case k1=>refine' dar 7 ?k2;case k2=>refine' dax (fun wq hM=>rv (ld_r rfl yas rfl (St.roRec hM s_ hN f_ om rfl))) ?k3;case k3=>exact run2)
 refine pQL tt none a 5 ?_
 by_cases c:((ndA xs i).key:Int)<((ndA xs j).key:Int)
 . refine pLQ a 15 ?_
   refine ret1 (v:=Zf) ybv rfl ?_
   exact⟨eqB ((decide_eq_true o_).symm),a.chg s_⟩
 . refine pLL a 4 ?_
   by_cases d:((ndA xs i).key:Int)=((ndA xs j).key:Int)
   . refine pLL a 4 ?_
     by_cases e:((i:Int):Int)<((j:Int):Int)
     . refine pLQ a 7 ?_
       refine ret1 (v:=Zf) ybv rfl ?_
       exact⟨eqB ((decide_eq_true o_).symm),a.chg s_⟩
     . refine pLQ a 7 ?_
       refine ret1 (v:=Zp) ybv rfl ?_
       exact⟨eqB ((decide_eq_false o_).symm),a.chg s_⟩
   . refine pLQ a 11 ?_
     refine ret1 (v:=Zp) ybv rfl ?_
     exact⟨eqB ((decide_eq_false o_).symm),a.chg s_⟩
theorem hang0_ok(fb nb m:Nat)(ed:Int)(xs:List Nd)(w:World)(hO:Own (Zh fb nb m ed xs) w)(hm:xs.length=m)(hb:m<=1000001)(hI:InN xs)(i k:Nat)(hi:i<m)(hk:k<m) :
 CR ya 243 #[(Zb fb),(Za i),Zc,(Za k)] w (fun r w' => r = .tuple #[]/\Turn (Zh fb nb m ed xs) w w' (Zh fb nb m ed (hangS xs i 0 k))):=by
 refine en Tryz.func243 Tryz.ntmps243 ?_
 have hst0:=(yz hO).unpack
 refine pPL hst0 9 ?_
 refine ixa (o' := i*9+0) (i:=(i:Int)) rfl rfl rfl yk ti269 o_ o_ (fa (o' := i*9+0) rfl rfl yi rfl ti267 rfl (ixArr (o:=i*9+0) (o' := i*9+0) (i:=0) rfl rfl rfl yt ti3 d_ rfl (stoL (L' := [blk fb 265 (Zm fb nb m ed),blk nb 269 ((updA xs i (fun x=>{ x with k0:=k })).flatMap Nd.cells)]) 1 rfl rfl rfl rfl ti3 rfl rfl hst0 rfl (rec_fit (cf:=Nd.cells) (sz:=9) (k:=i) (off:=0) (n:=1) f_ om (za rfl)) (rec_set (cf:=Nd.cells) (sz:=9) (k:=i) (off:=0) f_ om rfl (za rfl)) rfl (fun c a d=>pLL a 5 ?_))))
 by_cases e:((k:Int):Int)=(0:Int)
 . refine pLQ a 5 ?_
   refine end0 ybw ?_
   have e9:hangS xs i 0 k=updA xs i (fun x=>{ x with k0:=k }):=by simp only[hangS,reduceIte,zcw];(repeat' split)<;>(first|rfl|omega)
   have hs9:=a
   rw[<-e9]at hs9
   exact⟨rfl,yq (yc [_,_] [] hs9)⟩
 . refine pLL a 11 ?_
   refine ixa (o' := k*9+0) (i:=(k:Int)) rfl rfl rfl yk ti269 o_ o_ (fa (o' := k*9+2) rfl rfl yi rfl ti3 rfl (stoL (L' := [blk fb 265 (Zm fb nb m ed),blk nb 269 ((updA (updA xs i (fun x=>{ x with k0:=k })) k (fun x=>{ x with up:=i })).flatMap Nd.cells)]) 1 rfl rfl rfl rfl ti3 rfl rfl a rfl (rec_fit (cf:=Nd.cells) (sz:=9) (k:=k) (off:=2) (n:=1) f_ om (za rfl)) (rec_set (cf:=Nd.cells) (sz:=9) (k:=k) (off:=2) f_ om rfl (za rfl)) rfl (fun f b g=>pLQ b 1 ?_)))
   refine end0 ybw ?_
   have e9:hangS xs i 0 k=updA (updA xs i (fun x=>{ x with k0:=k })) k (fun x=>{ x with up:=i }):=by simp only[hangS,reduceIte,zcw];(repeat' split)<;>(first|rfl|omega)
   have hs9:=b
   rw[<-e9]at hs9
   exact⟨rfl,yq (yc [_,_] [] hs9)⟩
theorem hang1_ok(fb nb m:Nat)(ed:Int)(xs:List Nd)(w:World)(hO:Own (Zh fb nb m ed xs) w)(hm:xs.length=m)(hb:m<=1000001)(hI:InN xs)(i k:Nat)(hi:i<m)(hk:k<m) :
 CR ya 243 #[(Zb fb),(Za i),Z5,(Za k)] w (fun r w' => r = .tuple #[]/\Turn (Zh fb nb m ed xs) w w' (Zh fb nb m ed (hangS xs i 1 k))):=by
 refine en Tryz.func243 Tryz.ntmps243 ?_
 have hst0:=(yz hO).unpack
 refine pPL hst0 9 ?_
 refine ixa (o' := i*9+0) (i:=(i:Int)) rfl rfl rfl yk ti269 o_ o_ (fa (o' := i*9+0) rfl rfl yi rfl ti267 rfl (ixArr (o:=i*9+0) (o' := i*9+1) (i:=1) rfl rfl rfl yt ti3 d_ rfl (stoL (L' := [blk fb 265 (Zm fb nb m ed),blk nb 269 ((updA xs i (fun x=>{ x with k1:=k })).flatMap Nd.cells)]) 1 rfl rfl rfl rfl ti3 rfl rfl hst0 rfl (rec_fit (cf:=Nd.cells) (sz:=9) (k:=i) (off:=1) (n:=1) f_ om (za rfl)) (rec_set (cf:=Nd.cells) (sz:=9) (k:=i) (off:=1) f_ om rfl (za rfl)) rfl (fun c a d=>pLL a 5 ?_))))
 by_cases e:((k:Int):Int)=(0:Int)
 . refine pLQ a 5 ?_
   refine end0 ybw ?_
   have e9:hangS xs i 1 k=updA xs i (fun x=>{ x with k1:=k }):=by simp only[hangS,reduceIte,zcw];(repeat' split)<;>(first|rfl|omega)
   have hs9:=a
   rw[<-e9]at hs9
   exact⟨rfl,yq (yc [_,_] [] hs9)⟩
 . refine pLL a 11 ?_
   refine ixa (o' := k*9+0) (i:=(k:Int)) rfl rfl rfl yk ti269 o_ o_ (fa (o' := k*9+2) rfl rfl yi rfl ti3 rfl (stoL (L' := [blk fb 265 (Zm fb nb m ed),blk nb 269 ((updA (updA xs i (fun x=>{ x with k1:=k })) k (fun x=>{ x with up:=i })).flatMap Nd.cells)]) 1 rfl rfl rfl rfl ti3 rfl rfl a rfl (rec_fit (cf:=Nd.cells) (sz:=9) (k:=k) (off:=2) (n:=1) f_ om (za rfl)) (rec_set (cf:=Nd.cells) (sz:=9) (k:=k) (off:=2) f_ om rfl (za rfl)) rfl (fun f b g=>pLQ b 1 ?_)))
   refine end0 ybw ?_
   have e9:hangS xs i 1 k=updA (updA xs i (fun x=>{ x with k1:=k })) k (fun x=>{ x with up:=i }):=by simp only[hangS,reduceIte,zcw];(repeat' split)<;>(first|rfl|omega)
   have hs9:=b
   rw[<-e9]at hs9
   exact⟨rfl,yq (yc [_,_] [] hs9)⟩
theorem push_ok(fb nb m:Nat)(ed:Int)(xs:List Nd)(w:World)(hO:Own (Zh fb nb m ed xs) w)(hm:xs.length=m)(hb:m<=1000001)(hI:InN xs)(i:Nat)(hi:i<m) :
 CR ya 232 (Zn fb i) w (fun r w' => r = .tuple #[]/\Turn (Zh fb nb m ed xs) w w' (Zh fb nb m ed (pushS xs i))):=by
 refine en Tryz.func232 Tryz.ntmps232 ?_
 have hst0:=(yz hO).unpack
 refine pPL hst0 7 ?_
 refine ixa (o' := i*9+0) (i:=(i:Int)) rfl rfl rfl yk ti269 om o_ (pLL hst0 8 ?_)
 refine fa (o' := i*9+3) rfl rfl yi rfl ti4 rfl (ld rfl rfl y9 rfl (yx hst0 (i:=1) rfl f_ om rfl) (pLP hst0 3 ?_))
 cases L:((ndA xs i).flip:Bool)
 . skip
   refine pPQ hst0 3 ?_
   refine ret0 ybh ?_
   have e9:pushS xs i=xs:=by simp only[pushS];(repeat' split)<;>(first|rfl|omega|simp_all)
   have hs9:=hst0
   rw[<-e9]at hs9
   exact⟨rfl,yq (yc [_,_] [] hs9)⟩
 . skip
   refine pPL hst0 7 ?_
   refine fa (o' := i*9+3) rfl rfl yi rfl ti4 rfl (stoL (L' := [blk fb 265 (Zm fb nb m ed),blk nb 269 ((updA xs i (fun x=>{ x with flip:=false })).flatMap Nd.cells)]) 1 rfl rfl rfl rfl ti4 rfl rfl hst0 rfl (rec_fit (cf:=Nd.cells) (sz:=9) (k:=i) (off:=3) (n:=1) f_ om (za rfl)) (rec_set (cf:=Nd.cells) (sz:=9) (k:=i) (off:=3) f_ om rfl (za rfl)) rfl ?_)
   intro M y N
   have s:InN (updA xs i (fun x=>{ x with flip:=false })):=InN.upd hI om (fun x a b c d e=>⟨a,b,c,d,e⟩)
   obtain⟨j,z,O,s,y⟩:=nam (m:=m) s y
   refine pLP y 3 ?_
   refine rgs (Γ:=Unit) mixed [[],[],[],[2],[2,3],[2,3,4],[2,3,4,5],[],[7],[7,8],[7,8,9],[7,8,9,10],[0],[0,12],[0,2,3,4,5,6,7,8,9,10,11,12,13],[0,2,3,4,5,6,7,8,9,10,11,12,13,14],[1],[1,16],[0,1,2,3,4,5,6,7,8,9,10,11,12,13,14,15,16,17],[0,1,2,3,4,5,6,7,8,9,10,11,12,13,14,15,16,17,18]] [15,19] d_ [fun _=>(Z7 nb (i*9+0)),fun _=>(Z7 nb (i*9+0)),fun _=>(Z7 nb (i*9+0)),fun _=>(Z7 nb (i*9+0)),fun _=>(Z7 nb (i*9+0)),fun _=>(Z7 nb (i*9+1)),fun _=>(Za ((ndA j i).k1:Int)),fun _=>(Z7 nb (i*9+0)),fun _=>(Z7 nb (i*9+0)),fun _=>(Z7 nb (i*9+0)),fun _=>(Z7 nb (i*9+0)),fun _=>(Za ((ndA j i).k0:Int)),fun _=>(Z7 nb (i*9+0)),fun _=>(Z7 nb (i*9+0)),fun _=>(Z7 nb (i*9+0)),fun _=>undef,fun _=>(Z7 nb (i*9+0)),fun _=>(Z7 nb (i*9+0)),fun _=>(Z7 nb (i*9+1)),fun _=>undef] [(fun _=>(Zcs fb nb m ed j),fun _ _=>True),(fun _=>[blk fb 265 (Zm fb nb m ed),blk nb 269 ((updA j i (fun x=>{ x with k0:=((ndA j i).k1) })).flatMap Nd.cells)],fun _ _=>True),(fun _=>[blk fb 265 (Zm fb nb m ed),blk nb 269 ((updA (updA j i (fun x=>{ x with k0:=((ndA j i).k1) })) i (fun x=>{ x with k1:=((ndA j i).k0) })).flatMap Nd.cells)],fun _ _=>True)] () _ rfl y (fun _ _=>trivial) ?_ f_ rfl ?_
   . skip
     refine obv (fun _ _=>mv_r (v:=(Z7 nb (i*9+0))) rfl) ?_
     refine obv (fun _ _=>mv_r (v:=(Z7 nb (i*9+0))) rfl) ?_
     refine obv (fun _ _=>mv_r (v:=(Z7 nb (i*9+0))) rfl) ?_
     refine obv (fun _ _=>nilc_r rfl) ?_
     refine obv (fun _ _=>fa_r (o' := i*9+0) rfl yi rfl ti267 rfl) ?_
     refine obv (fun _ _=>ixArr_r (o:=i*9+0) (o' := i*9+1) (i:=1) rfl rfl yt ti3 d_ rfl) ?_
     refine ob_q1 rfl rfl rfl rfl (fun _ wq hM hF=>qv rfl rfl (ld_r rfl ye rfl (yx hM (i:=1) rfl f_ om rfl))) (obv (fun _ _=>mv_r (v:=(Z7 nb (i*9+0))) rfl) ?_)
     refine obv (fun _ _=>nilc_r rfl) ?_
     refine obv (fun _ _=>fa_r (o' := i*9+0) rfl yi rfl ti267 rfl) ?_
     refine obv (fun _ _=>ixArr_r (o:=i*9+0) (o' := i*9+0) (i:=0) rfl rfl yt ti3 d_ rfl) ?_
     refine ob_q1 rfl rfl rfl rfl (fun _ wq hM hF=>qv rfl rfl (ld_r rfl ye rfl (yx hM (i:=1) rfl f_ om rfl))) (obv (fun _ _=>nilc_r rfl) ?_)
     refine obv (fun _ _=>fa_r (o' := i*9+0) rfl yi rfl ti267 rfl) ?_
     refine obv (fun _ _=>ixArr_r (o:=i*9+0) (o' := i*9+0) (i:=0) rfl rfl yt ti3 d_ rfl) ?_
     refine ob_m rfl rfl rfl rfl (fun _ wq hM hF=>m_sto (L' := [blk fb 265 (Zm fb nb m ed),blk nb 269 ((updA j i (fun x=>{ x with k0:=((ndA j i).k1) })).flatMap Nd.cells)]) 1 rfl rfl rfl rfl ti3 rfl rfl hM rfl (ble_of (rec_fit (cf:=Nd.cells) (sz:=9) (k:=i) (off:=0) (n:=1) f_ om (za rfl))) (rec_set (cf:=Nd.cells) (sz:=9) (k:=i) (off:=0) f_ om rfl (za rfl)) rfl (fun _ h=>⟨(),⟨h,trivial⟩,rfl,Stab.refl _ _ _⟩)) (obv (fun _ _=>nilc_r rfl) ?_)
     refine obv (fun _ _=>fa_r (o' := i*9+0) rfl yi rfl ti267 rfl) ?_
     refine obv (fun _ _=>ixArr_r (o:=i*9+0) (o' := i*9+1) (i:=1) rfl rfl yt ti3 d_ rfl) ?_
     refine ob_m rfl rfl rfl rfl (fun _ wq hM hF=>m_sto (L' := [blk fb 265 (Zm fb nb m ed),blk nb 269 ((updA (updA j i (fun x=>{ x with k0:=((ndA j i).k1) })) i (fun x=>{ x with k1:=((ndA j i).k0) })).flatMap Nd.cells)]) 1 rfl rfl rfl rfl ti3 rfl rfl hM rfl (ble_of (rec_fit (cf:=Nd.cells) (sz:=9) (k:=i) (off:=1) (n:=1) f_ om (za rfl))) (rec_set (cf:=Nd.cells) (sz:=9) (k:=i) (off:=1) f_ om rfl (za rfl)) rfl (fun _ h=>⟨(),⟨h,trivial⟩,rfl,Stab.refl _ _ _⟩)) ?_
     exact ob_n
   rintro-P l -
   have G:InN (updA j i (fun x=>{ x with k0:=((ndA j i).k1) })):=InN.upd s om (fun x a b c d e=>⟨(o9 (s.k1 i om)),b,c,d,e⟩)
   have g:InN (updA (updA j i (fun x=>{ x with k0:=((ndA j i).k1) })) i (fun x=>{ x with k1:=((ndA j i).k0) })):=InN.upd G om (fun x a b c d e=>⟨a,(o9 (s.k0 i om)),c,d,e⟩)
   obtain⟨f,A,Q,g,l⟩:=nam (m:=m) g l
   refine pQL tt none l 5 ?_
   refine fa (o' := i*9+0) rfl rfl yi rfl ti267 rfl (ldA (cs:=(Zi ((ndA f i).k0:Int) ((ndA f i).k1:Int))) rfl rfl yt rfl ti267 rfl (St.recCells l (i:=1) rfl f_ om rfl) (pLP l 4 ?_))
   refine unr 3 (rds (pPL l 13 ?_))
   refine idxAgg (i:=0) rfl rfl rfl yt ye rfl ti3 d_ rfl (pLL l 6 ?_)
   by_cases R:(((ndA f i).k0:Int):Int)=(0:Int)
   . refine pLQ l 11 ?_
     refine tN (?_)
     refine rds (pPL l 13 ?_)
     refine idxAgg (i:=1) rfl rfl rfl yt ye rfl ti3 d_ rfl (pLL l 6 ?_)
     by_cases S:(((ndA f i).k1:Int):Int)=(0:Int)
     . refine pLQ l 11 ?_
       refine tN (?_)
       refine rds (pPQ l 11 ?_)
       refine end0 ybh ?_
       have e9:pushS xs i=f:=by subst A;subst z;simp only[pushS];(repeat' split)<;>(first|rfl|omega|simp_all)
       have hs9:=l
       rw[<-e9]at hs9
       exact⟨rfl,yq (yc [_,_] [] hs9)⟩
     . refine pLP l 4 ?_
       refine dr1 l 16 ?_ (hA:=by refine' dar 10 ?k0;case k0=>refine' dax (fun wq hM=>rv (ixa_r (o' := ((ndA f i).k1)*9+0) (i:=((ndA f i).k1:Int)) rfl rfl yk ti269 (o9 (show ((ndA f i).k1)<(f).length from(o9 (g.k1 i om)))) o_)) ?k1;case k1=>refine' dar 1 ?k2;case k2=>refine' dax (fun wq hM=>rv (ld_r rfl y9 rfl (yx hM (i:=1) rfl f_ (o9 (g.k1 i om)) rfl))) ?k3;case k3=>refine' dar 1 ?k4;case k4=>refine' dax (fun wq hM=>rv (ixa_r (o' := ((ndA f i).k1)*9+0) (i:=((ndA f i).k1:Int)) rfl rfl yk ti269 (o9 (show ((ndA f i).k1)<(f).length from(o9 (g.k1 i om)))) o_)) ?k5;case k5=>exact run2)
       intro wq hM
       refine m_sto (L' := [blk fb 265 (Zm fb nb m ed),blk nb 269 ((updA f ((ndA f i).k1) (fun x=>{ x with flip := !((ndA f ((ndA f i).k1)).flip) })).flatMap Nd.cells)]) 1 rfl rfl rfl rfl ti4 rfl rfl hM rfl (ble_of (rec_fit (cf:=Nd.cells) (sz:=9) (k:=((ndA f i).k1)) (off:=3) (n:=1) f_ (o9 (g.k1 i om)) (za rfl))) (rec_set (cf:=Nd.cells) (sz:=9) (k:=((ndA f i).k1)) (off:=3) f_ (o9 (g.k1 i om)) rfl (za rfl)) rfl (fun _ h=>(aft h (fun U t=>?_)))
       have C:InN (updA f ((ndA f i).k1) (fun x=>{ x with flip := !((ndA f ((ndA f i).k1)).flip) })):=InN.upd g (o9 (g.k1 i om)) (fun x a b c d e=>⟨a,b,c,d,e⟩)
       obtain⟨H,I,V,C,t⟩:=nam (m:=m) C t
       refine pQQ tt none t 6 ?_
       refine tN (?_)
       refine rds (pPQ t 11 ?_)
       refine end0 ybh ?_
       have e9:pushS xs i=H:=by subst I;subst A;subst z;simp only[pushS];(repeat' split)<;>(first|rfl|omega|simp_all)
       have hs9:=t
       rw[<-e9]at hs9
       exact⟨rfl,yq (yc [_,_] [] hs9)⟩
   . refine pLP l 4 ?_
     refine dr1 l 16 ?_ (hA:=by refine' dar 10 ?k0;case k0=>refine' dax (fun wq hM=>rv (ixa_r (o' := ((ndA f i).k0)*9+0) (i:=((ndA f i).k0:Int)) rfl rfl yk ti269 (o9 (show ((ndA f i).k0)<(f).length from(o9 (g.k0 i om)))) o_)) ?k1;case k1=>refine' dar 1 ?k2;case k2=>refine' dax (fun wq hM=>rv (ld_r rfl y9 rfl (yx hM (i:=1) rfl f_ (o9 (g.k0 i om)) rfl))) ?k3;case k3=>refine' dar 1 ?k4;case k4=>refine' dax (fun wq hM=>rv (ixa_r (o' := ((ndA f i).k0)*9+0) (i:=((ndA f i).k0:Int)) rfl rfl yk ti269 (o9 (show ((ndA f i).k0)<(f).length from(o9 (g.k0 i om)))) o_)) ?k5;case k5=>exact run2)
     intro wq hM
     refine m_sto (L' := [blk fb 265 (Zm fb nb m ed),blk nb 269 ((updA f ((ndA f i).k0) (fun x=>{ x with flip := !((ndA f ((ndA f i).k0)).flip) })).flatMap Nd.cells)]) 1 rfl rfl rfl rfl ti4 rfl rfl hM rfl (ble_of (rec_fit (cf:=Nd.cells) (sz:=9) (k:=((ndA f i).k0)) (off:=3) (n:=1) f_ (o9 (g.k0 i om)) (za rfl))) (rec_set (cf:=Nd.cells) (sz:=9) (k:=((ndA f i).k0)) (off:=3) f_ (o9 (g.k0 i om)) rfl (za rfl)) rfl (fun _ h=>(aft h (fun W p=>?_)))
     have B:InN (updA f ((ndA f i).k0) (fun x=>{ x with flip := !((ndA f ((ndA f i).k0)).flip) })):=InN.upd g (o9 (g.k0 i om)) (fun x a b c d e=>⟨a,b,c,d,e⟩)
     obtain⟨q,D,X,B,p⟩:=nam (m:=m) B p
     refine pQQ tt none p 6 ?_
     refine tN (?_)
     refine rds (pPL p 13 ?_)
     refine idxAgg (i:=1) rfl rfl rfl yt ye rfl ti3 d_ rfl (pLL p 6 ?_)
     by_cases Y:(((ndA f i).k1:Int):Int)=(0:Int)
     . refine pLQ p 11 ?_
       refine tN (?_)
       refine rds (pPQ p 11 ?_)
       refine end0 ybh ?_
       have e9:pushS xs i=q:=by subst D;subst A;subst z;simp only[pushS];(repeat' split)<;>(first|rfl|omega|simp_all)
       have hs9:=p
       rw[<-e9]at hs9
       exact⟨rfl,yq (yc [_,_] [] hs9)⟩
     . refine pLP p 4 ?_
       refine dr1 p 16 ?_ (hA:=by refine' dar 10 ?k0;case k0=>refine' dax (fun wq hM=>rv (ixa_r (o' := ((ndA f i).k1)*9+0) (i:=((ndA f i).k1:Int)) rfl rfl yk ti269 (o9 (show ((ndA f i).k1)<(q).length from(o9 (g.k1 i om)))) o_)) ?k1;case k1=>refine' dar 1 ?k2;case k2=>refine' dax (fun wq hM=>rv (ld_r rfl y9 rfl (yx hM (i:=1) rfl f_ (o9 (g.k1 i om)) rfl))) ?k3;case k3=>refine' dar 1 ?k4;case k4=>refine' dax (fun wq hM=>rv (ixa_r (o' := ((ndA f i).k1)*9+0) (i:=((ndA f i).k1:Int)) rfl rfl yk ti269 (o9 (show ((ndA f i).k1)<(q).length from(o9 (g.k1 i om)))) o_)) ?k5;case k5=>exact run2)
       intro wq hM
       refine m_sto (L' := [blk fb 265 (Zm fb nb m ed),blk nb 269 ((updA q ((ndA f i).k1) (fun x=>{ x with flip := !((ndA q ((ndA f i).k1)).flip) })).flatMap Nd.cells)]) 1 rfl rfl rfl rfl ti4 rfl rfl hM rfl (ble_of (rec_fit (cf:=Nd.cells) (sz:=9) (k:=((ndA f i).k1)) (off:=3) (n:=1) f_ (o9 (g.k1 i om)) (za rfl))) (rec_set (cf:=Nd.cells) (sz:=9) (k:=((ndA f i).k1)) (off:=3) f_ (o9 (g.k1 i om)) rfl (za rfl)) rfl (fun _ h=>(aft h (fun Z u=>?_)))
       have E:InN (updA q ((ndA f i).k1) (fun x=>{ x with flip := !((ndA q ((ndA f i).k1)).flip) })):=InN.upd B (o9 (g.k1 i om)) (fun x a b c d e=>⟨a,b,c,d,e⟩)
       obtain⟨J,K,aa,E,u⟩:=nam (m:=m) E u
       refine pQQ tt none u 6 ?_
       refine tN (?_)
       refine rds (pPQ u 11 ?_)
       refine end0 ybh ?_
       have e9:pushS xs i=J:=by subst K;subst D;subst A;subst z;simp only[pushS];(repeat' split)<;>(first|rfl|omega|simp_all)
       have hs9:=u
       rw[<-e9]at hs9
       exact⟨rfl,yq (yc [_,_] [] hs9)⟩
end
section
open Go Go.Sx
theorem refresh_ok(fb nb m:Nat)(ed:Int)(xs:List Nd)(w:World)(hO:Own (Zh fb nb m ed xs) w)(hm:xs.length=m)(hb:m<=1000001)(hI:InN xs)(i:Nat)(hi:i<m) :
 CR ya 143 (Zn fb i) w (fun r w' => r = .tuple #[]/\Turn (Zh fb nb m ed xs) w w' (Zh fb nb m ed (refreshS xs i))):=by
 refine en Tryz.func143 Tryz.ntmps143 ?_
 have hst0:=(yz hO).unpack
 refine pPL hst0 7 ?_
 refine ixa (o' := i*9+0) (i:=(i:Int)) rfl rfl rfl yk ti269 om o_ (pLL hst0 11 ?_)
 refine fa (o' := i*9+7) rfl rfl yi rfl ti3 rfl (ld rfl rfl ye rfl (yx hst0 (i:=1) rfl f_ om rfl) (ar (e:=(IntKind.i64.wrap (1+(ndA xs i).light))) rfl rfl rfl rfl rfl (pLL hst0 1 ?_)))
 refine fa (o' := i*9+5) rfl rfl yi rfl ti3 rfl (stoL (L' := [blk fb 265 (Zm fb nb m ed),blk nb 269 ((updA xs i (fun x=>{ x with size:=1 })).flatMap Nd.cells)]) 1 rfl rfl rfl rfl ti3 rfl rfl hst0 rfl (rec_fit (cf:=Nd.cells) (sz:=9) (k:=i) (off:=5) (n:=1) f_ om (za rfl)) (rec_set (cf:=Nd.cells) (sz:=9) (k:=i) (off:=5) f_ om rfl (za rfl)) rfl ?_)
 intro aD al aE
 have aw:InN (updA xs i (fun x=>{ x with size:=1 })):=InN.upd hI om (fun x a b c d e=>⟨a,b,c,d,e⟩)
 refine pLL al 1 ?_
 refine fa (o' := i*9+6) rfl rfl yi rfl ti3 rfl (stoL (L' := [blk fb 265 (Zm fb nb m ed),blk nb 269 ((updA (updA xs i (fun x=>{ x with size:=1 })) i (fun x=>{ x with first:=i })).flatMap Nd.cells)]) 1 rfl rfl rfl rfl ti3 rfl rfl al rfl (rec_fit (cf:=Nd.cells) (sz:=9) (k:=i) (off:=6) (n:=1) f_ om (za rfl)) (rec_set (cf:=Nd.cells) (sz:=9) (k:=i) (off:=6) f_ om rfl (za rfl)) rfl ?_)
 intro aF am aG
 have ax:InN (updA (updA xs i (fun x=>{ x with size:=1 })) i (fun x=>{ x with first:=i })):=InN.upd aw om (fun x a b c d e=>⟨a,b,c,om,e⟩)
 refine pLL am 1 ?_
 refine fa (o' := i*9+8) rfl rfl yi rfl ti3 rfl (stoL (L' := [blk fb 265 (Zm fb nb m ed),blk nb 269 ((updA (updA (updA xs i (fun x=>{ x with size:=1 })) i (fun x=>{ x with first:=i })) i (fun x=>{ x with total:=(IntKind.i64.wrap (1+(ndA xs i).light)) })).flatMap Nd.cells)]) 1 rfl rfl rfl rfl ti3 rfl rfl am rfl (rec_fit (cf:=Nd.cells) (sz:=9) (k:=i) (off:=8) (n:=1) f_ om (za rfl)) (rec_set (cf:=Nd.cells) (sz:=9) (k:=i) (off:=8) f_ om rfl (za rfl)) rfl ?_)
 intro aH an aI
 have ay:InN (updA (updA (updA xs i (fun x=>{ x with size:=1 })) i (fun x=>{ x with first:=i })) i (fun x=>{ x with total:=(IntKind.i64.wrap (1+(ndA xs i).light)) })):=InN.upd ax om (fun x a b c d e=>⟨a,b,c,d,e⟩)
 obtain⟨y,hy⟩:∃ y,y=updA xs i (fun x=>{ x with size:=1,first:=i,total:=IntKind.i64.wrap (1+x.light) }):=⟨_,rfl⟩
 have hs8:=an
 have hIy:=ay
 refine pLL an 4 ?_
 rw[refresh_start o_,<-hy]at hs8 hIy
 have hyl:y.length=m:=by rw[hy,updA_len,hm]
 refine pLL hs8 2 ?_
 refine fa (o' := i*9+0) rfl rfl yi rfl ti267 rfl (ldA (cs:=(Zi ((ndA y i).k0:Int) ((ndA y i).k1:Int))) rfl rfl yt rfl ti267 rfl (St.recCells hs8 (i:=1) rfl f_ om rfl) (pLP hs8 4 ?_))
 refine unr 3 (rds (pPL hs8 13 ?_))
 refine idxAgg (i:=0) rfl rfl rfl yt ye rfl ti3 d_ rfl (pLL hs8 7 ?_)
 by_cases aJ:(((ndA y i).k0:Int):Int)=(0:Int)
 . refine pLQ hs8 12 ?_
   refine tN (?_)
   refine rds (pPL hs8 13 ?_)
   refine idxAgg (i:=1) rfl rfl rfl yt ye rfl ti3 d_ rfl (pLL hs8 7 ?_)
   by_cases aK:(((ndA y i).k1:Int):Int)=(0:Int)
   . refine pLQ hs8 12 ?_
     refine tN (?_)
     refine rds (pPQ hs8 11 ?_)
     refine end0 ya3 ?_
     have e9:refreshS xs i=y:=by rw[refreshS_y hy o_];first|(rw[refresh1_zero (k:=(ndA y i).k0) o_];rw[refresh1_zero (k:=(ndA y i).k1) o_])
     have hs9:=hs8
     rw[<-e9]at hs9
     exact⟨rfl,yq (yc [_,_] [] hs9)⟩
   . refine pLL hs8 13 ?_
     refine ixa (o' := ((ndA y i).k1)*9+0) (i:=((ndA y i).k1:Int)) rfl rfl rfl yk ti269 (o9 (show ((ndA y i).k1)<(y).length from(o9 (hIy.k1 i om)))) o_ (pLP hs8 4 ?_)
     refine dr1 hs8 11 ?_ (hA:=by refine' dar 7 ?k0;case k0=>refine' dax (fun wq hM=>rv (ld_r rfl ye rfl (yx hM (i:=1) rfl f_ (o9 (hIy.k1 i om)) rfl))) ?k1;case k1=>refine' dax (fun wq hM=>rv (ar_r (e:=(IntKind.i64.wrap ((ndA y i).size+(ndA y ((ndA y i).k1)).size))) rfl rfl rfl rfl)) ?k2;case k2=>exact run2)
     intro wq hM
     refine m_sto (L' := [blk fb 265 (Zm fb nb m ed),blk nb 269 ((updA y i (fun x=>{ x with size:=(IntKind.i64.wrap ((ndA y i).size+(ndA y ((ndA y i).k1)).size)) })).flatMap Nd.cells)]) 1 rfl rfl rfl rfl ti3 rfl rfl hM rfl (ble_of (rec_fit (cf:=Nd.cells) (sz:=9) (k:=i) (off:=5) (n:=1) f_ om (za rfl))) (rec_set (cf:=Nd.cells) (sz:=9) (k:=i) (off:=5) f_ om rfl (za rfl)) rfl (fun _ h=>(aft h (fun aL O=>?_)))
     have aa:InN (updA y i (fun x=>{ x with size:=(IntKind.i64.wrap ((ndA y i).size+(ndA y ((ndA y i).k1)).size)) })):=InN.upd hIy om (fun x a b c d e=>⟨a,b,c,d,e⟩)
     obtain⟨v,P,aM,aa,O⟩:=nam (m:=m) aa O
     refine pQP tt none O 2 ?_
     refine dr1 O 11 ?_ (hA:=by refine' dar 7 ?k0;case k0=>refine' dax (fun wq hM=>rv (ld_r rfl ye rfl (yx hM (i:=1) rfl f_ (o9 (hIy.k1 i om)) rfl))) ?k1;case k1=>refine' dax (fun wq hM=>rv (ar_r (e:=(IntKind.i64.wrap ((ndA v i).total+(ndA v ((ndA y i).k1)).total))) rfl rfl rfl rfl)) ?k2;case k2=>exact run2)
     intro wq hM
     refine m_sto (L' := [blk fb 265 (Zm fb nb m ed),blk nb 269 ((updA v i (fun x=>{ x with total:=(IntKind.i64.wrap ((ndA v i).total+(ndA v ((ndA y i).k1)).total)) })).flatMap Nd.cells)]) 1 rfl rfl rfl rfl ti3 rfl rfl hM rfl (ble_of (rec_fit (cf:=Nd.cells) (sz:=9) (k:=i) (off:=8) (n:=1) f_ om (za rfl))) (rec_set (cf:=Nd.cells) (sz:=9) (k:=i) (off:=8) f_ om rfl (za rfl)) rfl (fun _ h=>(aft h (fun aN Q=>?_)))
     have H:InN (updA v i (fun x=>{ x with total:=(IntKind.i64.wrap ((ndA v i).total+(ndA v ((ndA y i).k1)).total)) })):=InN.upd aa om (fun x a b c d e=>⟨a,b,c,d,e⟩)
     obtain⟨j,R,aO,H,Q⟩:=nam (m:=m) H Q
     refine pQP tt none Q 2 ?_
     refine dr0 Q (fun aP z=>?_) (hA:=by refine' dar 4 ?k0;case k0=>refine' dax (fun wq hM=>rv (ld_r rfl ye rfl (yx hM (i:=1) rfl f_ (o9 (hIy.k1 i om)) rfl))) ?k1;case k1=>refine' dar 4 ?k2;case k2=>refine' dax (fun wq hM=>rc (clF_r rfl ent198) (CR.mono (before_ok fb nb m ed j wq (hM.at (i:=0) rfl) (hM.at (i:=1) rfl) oa hb H ((ndA j ((ndA y i).k1)).first) ((ndA j i).first) (o9 (H.first ((ndA y i).k1) (o9 (hIy.k1 i om)))) (o9 (H.first i om))) fun _ _ h=>⟨h.1,hM.grow h.2⟩)) ?k3;case k3=>exact run2)
     refine pQP tt none z 1 ?_
     cases S:(beforeS j ((ndA j ((ndA y i).k1)).first) ((ndA j i).first):Bool)
     . skip
       refine pPQ z 8 ?_
       refine tN (?_)
       refine rds (pPQ z 11 ?_)
       refine end0 ya3 ?_
       have e9:refreshS xs i=j:=by rw[refreshS_y hy o_];first|(rw[refresh1_zero (k:=(ndA y i).k0) o_];rw[refresh1_f (k:=(ndA y i).k1) o_ P R S])|(rw[refresh1_f (k:=(ndA y i).k0) o_ P R S];rw[refresh1_zero (k:=(ndA y i).k1) o_])
       have hs9:=z
       rw[<-e9]at hs9
       exact⟨rfl,yq (yc [_,_] [] hs9)⟩
     . skip
       refine pPL z 5 ?_
       refine fa (o' := ((ndA y i).k1)*9+6) rfl rfl yi rfl ti3 rfl (ld rfl rfl ye rfl (yx z (i:=1) rfl f_ (o9 (hIy.k1 i om)) rfl) (pLL z 1 ?_))
       refine fa (o' := i*9+6) rfl rfl yi rfl ti3 rfl (stoL (L' := [blk fb 265 (Zm fb nb m ed),blk nb 269 ((updA j i (fun x=>{ x with first:=((ndA j ((ndA y i).k1)).first) })).flatMap Nd.cells)]) 1 rfl rfl rfl rfl ti3 rfl rfl z rfl (rec_fit (cf:=Nd.cells) (sz:=9) (k:=i) (off:=6) (n:=1) f_ om (za rfl)) (rec_set (cf:=Nd.cells) (sz:=9) (k:=i) (off:=6) f_ om rfl (za rfl)) rfl ?_)
       intro aQ K aR
       have ao:InN (updA j i (fun x=>{ x with first:=((ndA j ((ndA y i).k1)).first) })):=InN.upd H om (fun x a b c d e=>⟨a,b,c,(o9 (H.first ((ndA y i).k1) (o9 (hIy.k1 i om)))),e⟩)
       obtain⟨az,ap,aS,ao,K⟩:=nam (m:=m) ao K
       refine pLQ K 7 ?_
       refine tN (?_)
       refine rds (pPQ K 11 ?_)
       refine end0 ya3 ?_
       have e9:refreshS xs i=az:=by rw[refreshS_y hy o_];first|(rw[refresh1_zero (k:=(ndA y i).k0) o_];rw[refresh1_t (k:=(ndA y i).k1) o_ P R S ap])|(rw[refresh1_t (k:=(ndA y i).k0) o_ P R S ap];rw[refresh1_zero (k:=(ndA y i).k1) o_])
       have hs9:=K
       rw[<-e9]at hs9
       exact⟨rfl,yq (yc [_,_] [] hs9)⟩
 . refine pLL hs8 13 ?_
   refine ixa (o' := ((ndA y i).k0)*9+0) (i:=((ndA y i).k0:Int)) rfl rfl rfl yk ti269 (o9 (show ((ndA y i).k0)<(y).length from(o9 (hIy.k0 i om)))) o_ (pLP hs8 4 ?_)
   refine dr1 hs8 11 ?_ (hA:=by refine' dar 7 ?k0;case k0=>refine' dax (fun wq hM=>rv (ld_r rfl ye rfl (yx hM (i:=1) rfl f_ (o9 (hIy.k0 i om)) rfl))) ?k1;case k1=>refine' dax (fun wq hM=>rv (ar_r (e:=(IntKind.i64.wrap ((ndA y i).size+(ndA y ((ndA y i).k0)).size))) rfl rfl rfl rfl)) ?k2;case k2=>exact run2)
   intro wq hM
   refine m_sto (L' := [blk fb 265 (Zm fb nb m ed),blk nb 269 ((updA y i (fun x=>{ x with size:=(IntKind.i64.wrap ((ndA y i).size+(ndA y ((ndA y i).k0)).size)) })).flatMap Nd.cells)]) 1 rfl rfl rfl rfl ti3 rfl rfl hM rfl (ble_of (rec_fit (cf:=Nd.cells) (sz:=9) (k:=i) (off:=5) (n:=1) f_ om (za rfl))) (rec_set (cf:=Nd.cells) (sz:=9) (k:=i) (off:=5) f_ om rfl (za rfl)) rfl (fun _ h=>(aft h (fun aT U=>?_)))
   have ab:InN (updA y i (fun x=>{ x with size:=(IntKind.i64.wrap ((ndA y i).size+(ndA y ((ndA y i).k0)).size)) })):=InN.upd hIy om (fun x a b c d e=>⟨a,b,c,d,e⟩)
   obtain⟨A,q,aU,ab,U⟩:=nam (m:=m) ab U
   refine pQP tt none U 2 ?_
   refine dr1 U 11 ?_ (hA:=by refine' dar 7 ?k0;case k0=>refine' dax (fun wq hM=>rv (ld_r rfl ye rfl (yx hM (i:=1) rfl f_ (o9 (hIy.k0 i om)) rfl))) ?k1;case k1=>refine' dax (fun wq hM=>rv (ar_r (e:=(IntKind.i64.wrap ((ndA A i).total+(ndA A ((ndA y i).k0)).total))) rfl rfl rfl rfl)) ?k2;case k2=>exact run2)
   intro wq hM
   refine m_sto (L' := [blk fb 265 (Zm fb nb m ed),blk nb 269 ((updA A i (fun x=>{ x with total:=(IntKind.i64.wrap ((ndA A i).total+(ndA A ((ndA y i).k0)).total)) })).flatMap Nd.cells)]) 1 rfl rfl rfl rfl ti3 rfl rfl hM rfl (ble_of (rec_fit (cf:=Nd.cells) (sz:=9) (k:=i) (off:=8) (n:=1) f_ om (za rfl))) (rec_set (cf:=Nd.cells) (sz:=9) (k:=i) (off:=8) f_ om rfl (za rfl)) rfl (fun _ h=>(aft h (fun aV V=>?_)))
   have B:InN (updA A i (fun x=>{ x with total:=(IntKind.i64.wrap ((ndA A i).total+(ndA A ((ndA y i).k0)).total)) })):=InN.upd ab om (fun x a b c d e=>⟨a,b,c,d,e⟩)
   obtain⟨f,s,aW,B,V⟩:=nam (m:=m) B V
   refine pQP tt none V 2 ?_
   refine dr0 V (fun aX g=>?_) (hA:=by refine' dar 4 ?k0;case k0=>refine' dax (fun wq hM=>rv (ld_r rfl ye rfl (yx hM (i:=1) rfl f_ (o9 (hIy.k0 i om)) rfl))) ?k1;case k1=>refine' dar 4 ?k2;case k2=>refine' dax (fun wq hM=>rc (clF_r rfl ent198) (CR.mono (before_ok fb nb m ed f wq (hM.at (i:=0) rfl) (hM.at (i:=1) rfl) oa hb B ((ndA f ((ndA y i).k0)).first) ((ndA f i).first) (o9 (B.first ((ndA y i).k0) (o9 (hIy.k0 i om)))) (o9 (B.first i om))) fun _ _ h=>⟨h.1,hM.grow h.2⟩)) ?k3;case k3=>exact run2)
   refine pQP tt none g 1 ?_
   cases t:(beforeS f ((ndA f ((ndA y i).k0)).first) ((ndA f i).first):Bool)
   . skip
     refine pPQ g 8 ?_
     refine tN (?_)
     refine rds (pPL g 13 ?_)
     refine idxAgg (i:=1) rfl rfl rfl yt ye rfl ti3 d_ rfl (pLL g 7 ?_)
     by_cases aY:(((ndA y i).k1:Int):Int)=(0:Int)
     . refine pLQ g 12 ?_
       refine tN (?_)
       refine rds (pPQ g 11 ?_)
       refine end0 ya3 ?_
       have e9:refreshS xs i=f:=by rw[refreshS_y hy o_];first|(rw[refresh1_zero (k:=(ndA y i).k0) o_];rw[refresh1_f (k:=(ndA y i).k1) o_ q s t])|(rw[refresh1_f (k:=(ndA y i).k0) o_ q s t];rw[refresh1_zero (k:=(ndA y i).k1) o_])
       have hs9:=g
       rw[<-e9]at hs9
       exact⟨rfl,yq (yc [_,_] [] hs9)⟩
     . refine pLL g 13 ?_
       refine ixa (o' := ((ndA y i).k1)*9+0) (i:=((ndA y i).k1:Int)) rfl rfl rfl yk ti269 (o9 (show ((ndA y i).k1)<(f).length from(o9 (hIy.k1 i om)))) o_ (pLP g 4 ?_)
       refine dr1 g 11 ?_ (hA:=by refine' dar 7 ?k0;case k0=>refine' dax (fun wq hM=>rv (ld_r rfl ye rfl (yx hM (i:=1) rfl f_ (o9 (hIy.k1 i om)) rfl))) ?k1;case k1=>refine' dax (fun wq hM=>rv (ar_r (e:=(IntKind.i64.wrap ((ndA f i).size+(ndA f ((ndA y i).k1)).size))) rfl rfl rfl rfl)) ?k2;case k2=>exact run2)
       intro wq hM
       refine m_sto (L' := [blk fb 265 (Zm fb nb m ed),blk nb 269 ((updA f i (fun x=>{ x with size:=(IntKind.i64.wrap ((ndA f i).size+(ndA f ((ndA y i).k1)).size)) })).flatMap Nd.cells)]) 1 rfl rfl rfl rfl ti3 rfl rfl hM rfl (ble_of (rec_fit (cf:=Nd.cells) (sz:=9) (k:=i) (off:=5) (n:=1) f_ om (za rfl))) (rec_set (cf:=Nd.cells) (sz:=9) (k:=i) (off:=5) f_ om rfl (za rfl)) rfl (fun _ h=>(aft h (fun aZ W=>?_)))
       have ac:InN (updA f i (fun x=>{ x with size:=(IntKind.i64.wrap ((ndA f i).size+(ndA f ((ndA y i).k1)).size)) })):=InN.upd B om (fun x a b c d e=>⟨a,b,c,d,e⟩)
       obtain⟨C,ad,a0,ac,W⟩:=nam (m:=m) ac W
       refine pQP tt none W 2 ?_
       refine dr1 W 11 ?_ (hA:=by refine' dar 7 ?k0;case k0=>refine' dax (fun wq hM=>rv (ld_r rfl ye rfl (yx hM (i:=1) rfl f_ (o9 (hIy.k1 i om)) rfl))) ?k1;case k1=>refine' dax (fun wq hM=>rv (ar_r (e:=(IntKind.i64.wrap ((ndA C i).total+(ndA C ((ndA y i).k1)).total))) rfl rfl rfl rfl)) ?k2;case k2=>exact run2)
       intro wq hM
       refine m_sto (L' := [blk fb 265 (Zm fb nb m ed),blk nb 269 ((updA C i (fun x=>{ x with total:=(IntKind.i64.wrap ((ndA C i).total+(ndA C ((ndA y i).k1)).total)) })).flatMap Nd.cells)]) 1 rfl rfl rfl rfl ti3 rfl rfl hM rfl (ble_of (rec_fit (cf:=Nd.cells) (sz:=9) (k:=i) (off:=8) (n:=1) f_ om (za rfl))) (rec_set (cf:=Nd.cells) (sz:=9) (k:=i) (off:=8) f_ om rfl (za rfl)) rfl (fun _ h=>(aft h (fun a1 X=>?_)))
       have I:InN (updA C i (fun x=>{ x with total:=(IntKind.i64.wrap ((ndA C i).total+(ndA C ((ndA y i).k1)).total)) })):=InN.upd ac om (fun x a b c d e=>⟨a,b,c,d,e⟩)
       obtain⟨l,ae,a2,I,X⟩:=nam (m:=m) I X
       refine pQP tt none X 2 ?_
       refine dr0 X (fun a3 D=>?_) (hA:=by refine' dar 4 ?k0;case k0=>refine' dax (fun wq hM=>rv (ld_r rfl ye rfl (yx hM (i:=1) rfl f_ (o9 (hIy.k1 i om)) rfl))) ?k1;case k1=>refine' dar 4 ?k2;case k2=>refine' dax (fun wq hM=>rc (clF_r rfl ent198) (CR.mono (before_ok fb nb m ed l wq (hM.at (i:=0) rfl) (hM.at (i:=1) rfl) oa hb I ((ndA l ((ndA y i).k1)).first) ((ndA l i).first) (o9 (I.first ((ndA y i).k1) (o9 (hIy.k1 i om)))) (o9 (I.first i om))) fun _ _ h=>⟨h.1,hM.grow h.2⟩)) ?k3;case k3=>exact run2)
       refine pQP tt none D 1 ?_
       cases af:(beforeS l ((ndA l ((ndA y i).k1)).first) ((ndA l i).first):Bool)
       . skip
         refine pPQ D 8 ?_
         refine tN (?_)
         refine rds (pPQ D 11 ?_)
         refine end0 ya3 ?_
         have e9:refreshS xs i=l:=by rw[refreshS_y hy o_];first|(rw[refresh1_f (k:=(ndA y i).k0) o_ q s t];rw[refresh1_f (k:=(ndA y i).k1) o_ ad ae af])
         have hs9:=D
         rw[<-e9]at hs9
         exact⟨rfl,yq (yc [_,_] [] hs9)⟩
       . skip
         refine pPL D 5 ?_
         refine fa (o' := ((ndA y i).k1)*9+6) rfl rfl yi rfl ti3 rfl (ld rfl rfl ye rfl (yx D (i:=1) rfl f_ (o9 (hIy.k1 i om)) rfl) (pLL D 1 ?_))
         refine fa (o' := i*9+6) rfl rfl yi rfl ti3 rfl (stoL (L' := [blk fb 265 (Zm fb nb m ed),blk nb 269 ((updA l i (fun x=>{ x with first:=((ndA l ((ndA y i).k1)).first) })).flatMap Nd.cells)]) 1 rfl rfl rfl rfl ti3 rfl rfl D rfl (rec_fit (cf:=Nd.cells) (sz:=9) (k:=i) (off:=6) (n:=1) f_ om (za rfl)) (rec_set (cf:=Nd.cells) (sz:=9) (k:=i) (off:=6) f_ om rfl (za rfl)) rfl ?_)
         intro a4 L a5
         have aq:InN (updA l i (fun x=>{ x with first:=((ndA l ((ndA y i).k1)).first) })):=InN.upd I om (fun x a b c d e=>⟨a,b,c,(o9 (I.first ((ndA y i).k1) (o9 (hIy.k1 i om)))),e⟩)
         obtain⟨aA,au,a6,aq,L⟩:=nam (m:=m) aq L
         refine pLQ L 7 ?_
         refine tN (?_)
         refine rds (pPQ L 11 ?_)
         refine end0 ya3 ?_
         have e9:refreshS xs i=aA:=by rw[refreshS_y hy o_];first|(rw[refresh1_f (k:=(ndA y i).k0) o_ q s t];rw[refresh1_t (k:=(ndA y i).k1) o_ ad ae af au])|(rw[refresh1_t (k:=(ndA y i).k0) o_ q s t ad];rw[refresh1_f (k:=(ndA y i).k1) o_ ae au af])
         have hs9:=L
         rw[<-e9]at hs9
         exact⟨rfl,yq (yc [_,_] [] hs9)⟩
   . skip
     refine pPL g 5 ?_
     refine fa (o' := ((ndA y i).k0)*9+6) rfl rfl yi rfl ti3 rfl (ld rfl rfl ye rfl (yx g (i:=1) rfl f_ (o9 (hIy.k0 i om)) rfl) (pLL g 1 ?_))
     refine fa (o' := i*9+6) rfl rfl yi rfl ti3 rfl (stoL (L' := [blk fb 265 (Zm fb nb m ed),blk nb 269 ((updA f i (fun x=>{ x with first:=((ndA f ((ndA y i).k0)).first) })).flatMap Nd.cells)]) 1 rfl rfl rfl rfl ti3 rfl rfl g rfl (rec_fit (cf:=Nd.cells) (sz:=9) (k:=i) (off:=6) (n:=1) f_ om (za rfl)) (rec_set (cf:=Nd.cells) (sz:=9) (k:=i) (off:=6) f_ om rfl (za rfl)) rfl ?_)
     intro a7 o a8
     have ag:InN (updA f i (fun x=>{ x with first:=((ndA f ((ndA y i).k0)).first) })):=InN.upd B om (fun x a b c d e=>⟨a,b,c,(o9 (B.first ((ndA y i).k0) (o9 (hIy.k0 i om)))),e⟩)
     obtain⟨u,M,a9,ag,o⟩:=nam (m:=m) ag o
     refine pLQ o 7 ?_
     refine tN (?_)
     refine rds (pPL o 13 ?_)
     refine idxAgg (i:=1) rfl rfl rfl yt ye rfl ti3 d_ rfl (pLL o 7 ?_)
     by_cases ba:(((ndA y i).k1:Int):Int)=(0:Int)
     . refine pLQ o 12 ?_
       refine tN (?_)
       refine rds (pPQ o 11 ?_)
       refine end0 ya3 ?_
       have e9:refreshS xs i=u:=by rw[refreshS_y hy o_];first|(rw[refresh1_zero (k:=(ndA y i).k0) o_];rw[refresh1_t (k:=(ndA y i).k1) o_ q s t M])|(rw[refresh1_t (k:=(ndA y i).k0) o_ q s t M];rw[refresh1_zero (k:=(ndA y i).k1) o_])
       have hs9:=o
       rw[<-e9]at hs9
       exact⟨rfl,yq (yc [_,_] [] hs9)⟩
     . refine pLL o 13 ?_
       refine ixa (o' := ((ndA y i).k1)*9+0) (i:=((ndA y i).k1:Int)) rfl rfl rfl yk ti269 (o9 (show ((ndA y i).k1)<(u).length from(o9 (hIy.k1 i om)))) o_ (pLP o 4 ?_)
       refine dr1 o 11 ?_ (hA:=by refine' dar 7 ?k0;case k0=>refine' dax (fun wq hM=>rv (ld_r rfl ye rfl (yx hM (i:=1) rfl f_ (o9 (hIy.k1 i om)) rfl))) ?k1;case k1=>refine' dax (fun wq hM=>rv (ar_r (e:=(IntKind.i64.wrap ((ndA u i).size+(ndA u ((ndA y i).k1)).size))) rfl rfl rfl rfl)) ?k2;case k2=>exact run2)
       intro wq hM
       refine m_sto (L' := [blk fb 265 (Zm fb nb m ed),blk nb 269 ((updA u i (fun x=>{ x with size:=(IntKind.i64.wrap ((ndA u i).size+(ndA u ((ndA y i).k1)).size)) })).flatMap Nd.cells)]) 1 rfl rfl rfl rfl ti3 rfl rfl hM rfl (ble_of (rec_fit (cf:=Nd.cells) (sz:=9) (k:=i) (off:=5) (n:=1) f_ om (za rfl))) (rec_set (cf:=Nd.cells) (sz:=9) (k:=i) (off:=5) f_ om rfl (za rfl)) rfl (fun _ h=>(aft h (fun bb Y=>?_)))
       have ah:InN (updA u i (fun x=>{ x with size:=(IntKind.i64.wrap ((ndA u i).size+(ndA u ((ndA y i).k1)).size)) })):=InN.upd ag om (fun x a b c d e=>⟨a,b,c,d,e⟩)
       obtain⟨E,ai,bc,ah,Y⟩:=nam (m:=m) ah Y
       refine pQP tt none Y 2 ?_
       refine dr1 Y 11 ?_ (hA:=by refine' dar 7 ?k0;case k0=>refine' dax (fun wq hM=>rv (ld_r rfl ye rfl (yx hM (i:=1) rfl f_ (o9 (hIy.k1 i om)) rfl))) ?k1;case k1=>refine' dax (fun wq hM=>rv (ar_r (e:=(IntKind.i64.wrap ((ndA E i).total+(ndA E ((ndA y i).k1)).total))) rfl rfl rfl rfl)) ?k2;case k2=>exact run2)
       intro wq hM
       refine m_sto (L' := [blk fb 265 (Zm fb nb m ed),blk nb 269 ((updA E i (fun x=>{ x with total:=(IntKind.i64.wrap ((ndA E i).total+(ndA E ((ndA y i).k1)).total)) })).flatMap Nd.cells)]) 1 rfl rfl rfl rfl ti3 rfl rfl hM rfl (ble_of (rec_fit (cf:=Nd.cells) (sz:=9) (k:=i) (off:=8) (n:=1) f_ om (za rfl))) (rec_set (cf:=Nd.cells) (sz:=9) (k:=i) (off:=8) f_ om rfl (za rfl)) rfl (fun _ h=>(aft h (fun bd Z=>?_)))
       have J:InN (updA E i (fun x=>{ x with total:=(IntKind.i64.wrap ((ndA E i).total+(ndA E ((ndA y i).k1)).total)) })):=InN.upd ah om (fun x a b c d e=>⟨a,b,c,d,e⟩)
       obtain⟨p,aj,be,J,Z⟩:=nam (m:=m) J Z
       refine pQP tt none Z 2 ?_
       refine dr0 Z (fun bf G=>?_) (hA:=by refine' dar 4 ?k0;case k0=>refine' dax (fun wq hM=>rv (ld_r rfl ye rfl (yx hM (i:=1) rfl f_ (o9 (hIy.k1 i om)) rfl))) ?k1;case k1=>refine' dar 4 ?k2;case k2=>refine' dax (fun wq hM=>rc (clF_r rfl ent198) (CR.mono (before_ok fb nb m ed p wq (hM.at (i:=0) rfl) (hM.at (i:=1) rfl) oa hb J ((ndA p ((ndA y i).k1)).first) ((ndA p i).first) (o9 (J.first ((ndA y i).k1) (o9 (hIy.k1 i om)))) (o9 (J.first i om))) fun _ _ h=>⟨h.1,hM.grow h.2⟩)) ?k3;case k3=>exact run2)
       refine pQP tt none G 1 ?_
       cases ak:(beforeS p ((ndA p ((ndA y i).k1)).first) ((ndA p i).first):Bool)
       . skip
         refine pPQ G 8 ?_
         refine tN (?_)
         refine rds (pPQ G 11 ?_)
         refine end0 ya3 ?_
         have e9:refreshS xs i=p:=by rw[refreshS_y hy o_];first|(rw[refresh1_f (k:=(ndA y i).k0) o_ q s t];rw[refresh1_t (k:=(ndA y i).k1) o_ M ai ak aj])|(rw[refresh1_t (k:=(ndA y i).k0) o_ q s t M];rw[refresh1_f (k:=(ndA y i).k1) o_ ai aj ak])
         have hs9:=G
         rw[<-e9]at hs9
         exact⟨rfl,yq (yc [_,_] [] hs9)⟩
       . skip
         refine pPL G 5 ?_
         refine fa (o' := ((ndA y i).k1)*9+6) rfl rfl yi rfl ti3 rfl (ld rfl rfl ye rfl (yx G (i:=1) rfl f_ (o9 (hIy.k1 i om)) rfl) (pLL G 1 ?_))
         refine fa (o' := i*9+6) rfl rfl yi rfl ti3 rfl (stoL (L' := [blk fb 265 (Zm fb nb m ed),blk nb 269 ((updA p i (fun x=>{ x with first:=((ndA p ((ndA y i).k1)).first) })).flatMap Nd.cells)]) 1 rfl rfl rfl rfl ti3 rfl rfl G rfl (rec_fit (cf:=Nd.cells) (sz:=9) (k:=i) (off:=6) (n:=1) f_ om (za rfl)) (rec_set (cf:=Nd.cells) (sz:=9) (k:=i) (off:=6) f_ om rfl (za rfl)) rfl ?_)
         intro bg N bh
         have av:InN (updA p i (fun x=>{ x with first:=((ndA p ((ndA y i).k1)).first) })):=InN.upd J om (fun x a b c d e=>⟨a,b,c,(o9 (J.first ((ndA y i).k1) (o9 (hIy.k1 i om)))),e⟩)
         obtain⟨aB,aC,bi,av,N⟩:=nam (m:=m) av N
         refine pLQ N 7 ?_
         refine tN (?_)
         refine rds (pPQ N 11 ?_)
         refine end0 ya3 ?_
         have e9:refreshS xs i=aB:=by rw[refreshS_y hy o_];first|(rw[refresh1_t (k:=(ndA y i).k0) o_ q s t M];rw[refresh1_t (k:=(ndA y i).k1) o_ ai aj ak aC])
         have hs9:=N
         rw[<-e9]at hs9
         exact⟨rfl,yq (yc [_,_] [] hs9)⟩
end
section
open Go Go.Sx
theorem side_is(fb nb m:Nat)(ed:Int)(xs:List Nd)(w:World)(hf:(Zbc fb nb m ed).holds w)(hN:(blk nb 269 (xs.flatMap Nd.cells)).holds w)(hm:xs.length=m)(hb:m<=1000001)(hI:InN xs)(i:Nat)(hi:i<m){s:Nat}{o:Bool}(hq:sideS xs i=(s,o)):CR ya 230 (Zn fb i) w (fun r w' => r = .tuple (Zaq s o)/\Chg [] w w'):=by
 have h:=side_ok fb nb m ed xs w hf hN hm hb hI i hi
 rw[hq]at h
 exact h
theorem rotate_ok(fb nb m:Nat)(ed:Int)(xs:List Nd)(w:World)(hO:Own (Zh fb nb m ed xs) w)(hm:xs.length=m)(hb:m<=1000001)(hI:InN xs)(i:Nat)(hi:i<m) :
 CR ya 233 (Zn fb i) w (fun r w' => r = .tuple #[]/\Turn (Zh fb nb m ed xs) w w' (Zh fb nb m ed (rotateS xs i))):=by
 have hup:=hI.up i o_
 have hup2:=hI.up _ hup
 refine en Tryz.func233 Tryz.ntmps233 ?_
 have hst0:=(yz hO).unpack
 refine pPL hst0 7 ?_
 refine ixa (o' := i*9+0) (i:=(i:Int)) rfl rfl rfl yk ti269 om o_ (fa (o' := i*9+2) rfl rfl yi rfl ti3 rfl (ld rfl rfl ye rfl (yx hst0 (i:=1) rfl f_ om rfl) (pLL hst0 10 ?_)))
 refine ixa (o' := ((ndA xs i).up)*9+0) (i:=((ndA xs i).up:Int)) rfl rfl rfl yk ti269 (o9 (show ((ndA xs i).up)<(xs).length from(o9 (hI.up i om)))) o_ (fa (o' := ((ndA xs i).up)*9+2) rfl rfl yi rfl ti3 rfl (ld rfl rfl ye rfl (yx hst0 (i:=1) rfl f_ (o9 (hI.up i om)) rfl) ?_))
 obtain⟨cP,eG⟩:∃ q,side_cases xs i=q:=⟨_,rfl⟩
 refine pLL hst0 7 ?_
 rcases cP with K|L|M
 . skip
   refine cl ent230 (side_is fb nb m ed xs w (hst0.at (i:=0) rfl) (hst0.at (i:=1) rfl) oa hb hI i o_ K) ?_
   rintro _ ba ⟨rfl,cQ⟩
   have f:=yaa hst0 cQ
   obtain⟨cR,eH⟩:∃ q,side_cases xs ((ndA xs i).up)=q:=⟨_,rfl⟩
   refine pLL f 12 ?_
   rcases cR with bd|be|bf
   . skip
     refine cl ent230 (side_is fb nb m ed xs ba (f.at (i:=0) rfl) (f.at (i:=1) rfl) oa hb hI ((ndA xs i).up) (o9 (hI.up i om)) bd) ?_
     rintro _ eI ⟨rfl,cS⟩
     have bg:=yaa f cS
     refine pLL bg 20 ?_
     refine ixa (o' := i*9+0) (i:=(i:Int)) rfl rfl rfl yk ti269 om o_ (fa (o' := i*9+2) rfl rfl yi rfl ti3 rfl (stoL (L' := [blk fb 265 (Zm fb nb m ed),blk nb 269 ((updA xs i (fun x=>{ x with up:=((ndA xs ((ndA xs i).up)).up) })).flatMap Nd.cells)]) 1 rfl rfl rfl rfl ti3 rfl rfl bg rfl (rec_fit (cf:=Nd.cells) (sz:=9) (k:=i) (off:=2) (n:=1) f_ om (za rfl)) (rec_set (cf:=Nd.cells) (sz:=9) (k:=i) (off:=2) f_ om rfl (za rfl)) rfl ?_))
     intro cT A eJ
     have j:InN (updA xs i (fun x=>{ x with up:=((ndA xs ((ndA xs i).up)).up) })):=InN.upd hI om (fun x a b c d e=>⟨a,b,(o9 (hI.up ((ndA xs i).up) (o9 (hI.up i om)))),d,e⟩)
     obtain⟨N,cU,eK,j,A⟩:=nam (m:=m) j A
     refine pLL A 14 ?_
     refine ixa (o' := i*9+0) (i:=(i:Int)) rfl rfl rfl yk ti269 om o_ (fa (o' := i*9+0) rfl rfl yi rfl ti267 rfl (ixArr (o:=i*9+0) (o' := i*9+1) (i:=1) rfl rfl rfl yt ti3 d_ rfl (ld rfl rfl ye rfl (yx A (i:=1) rfl f_ om rfl) ?_)))
     have bh:=yc [_,_] _ A
     refine cl ent243 (hang0_ok fb nb m ed N cT (yd bh (i:=0) rfl) oa hb j ((ndA xs i).up) ((ndA N i).k1) (o9 (hI.up i om)) (o9 (j.k1 i om))) ?_
     rintro _ cV ⟨rfl,ht⟩
     have O:=(yp bh ht)
     have P:InN (hangS N ((ndA xs i).up) 0 ((ndA N i).k1)):=InN.hang j (o9 (hI.up i om)) (o9 (j.k1 i om))
     obtain⟨bi,cW,eL,P,O⟩:=nam (m:=m) P O
     have bj:=yc [_,_] _ O
     refine pLL O 9 ?_
     refine cl ent243 (hang1_ok fb nb m ed bi cV (yd bj (i:=0) rfl) oa hb P i ((ndA xs i).up) o_ (o9 (hI.up i om))) ?_
     rintro _ cX ⟨rfl,ht⟩
     have Q:=(yp bj ht)
     have R:InN (hangS bi i 1 ((ndA xs i).up)):=InN.hang P o_ (o9 (hI.up i om))
     obtain⟨bl,cY,eM,R,Q⟩:=nam (m:=m) R Q
     have bm:=yc [_,_] _ Q
     refine pLL Q 6 ?_
     refine cl ent143 (refresh_ok fb nb m ed bl cX (yd bm (i:=0) rfl) oa hb R ((ndA xs i).up) (o9 (hI.up i om))) ?_
     rintro _ cZ ⟨rfl,ht⟩
     have S:=(yp bm ht)
     have U:InN (refreshS bl ((ndA xs i).up)):=InN.refresh R (o9 (hI.up i om))
     obtain⟨bn,c0,eN,U,S⟩:=nam (m:=m) U S
     have bo:=yc [_,_] _ S
     refine pLL S 5 ?_
     refine cl ent143 (refresh_ok fb nb m ed bn cZ (yd bo (i:=0) rfl) oa hb U i o_) ?_
     rintro _ eO ⟨rfl,ht⟩
     have V:=(yp bo ht)
     have bp:InN (refreshS bn i):=InN.refresh U o_
     obtain⟨c1,c2,eP,bp,V⟩:=nam (m:=m) bp V
     refine pLQ V 1 ?_
     refine end0 ya4 ?_
     have e9:rotateS xs i=c1:=by subst c2;subst c0;subst cY;subst cW;subst cU;simp only[rotateS,K,bd];rfl
     have hs9:=V
     rw[<-e9]at hs9
     exact⟨rfl,yq (yc [_,_] [] hs9)⟩
   . skip
     refine cl ent230 (side_is fb nb m ed xs ba (f.at (i:=0) rfl) (f.at (i:=1) rfl) oa hb hI ((ndA xs i).up) (o9 (hI.up i om)) be) ?_
     rintro _ c3 ⟨rfl,c4⟩
     have bq:=yaa f c4
     have br:=yc [_,_] _ bq
     refine pLL bq 18 ?_
     refine cl ent243 (hang0_ok fb nb m ed xs c3 (yd br (i:=0) rfl) oa hb hI ((ndA xs ((ndA xs i).up)).up) i (o9 (hI.up ((ndA xs i).up) (o9 (hI.up i om)))) o_) ?_
     rintro _ c5 ⟨rfl,ht⟩
     have B:=(yp br ht)
     have l:InN (hangS xs ((ndA xs ((ndA xs i).up)).up) 0 i):=InN.hang hI (o9 (hI.up ((ndA xs i).up) (o9 (hI.up i om)))) o_
     obtain⟨W,c6,eQ,l,B⟩:=nam (m:=m) l B
     refine pLL B 14 ?_
     refine ixa (o' := i*9+0) (i:=(i:Int)) rfl rfl rfl yk ti269 om o_ (fa (o' := i*9+0) rfl rfl yi rfl ti267 rfl (ixArr (o:=i*9+0) (o' := i*9+1) (i:=1) rfl rfl rfl yt ti3 d_ rfl (ld rfl rfl ye rfl (yx B (i:=1) rfl f_ om rfl) ?_)))
     have bs:=yc [_,_] _ B
     refine cl ent243 (hang0_ok fb nb m ed W c5 (yd bs (i:=0) rfl) oa hb l ((ndA xs i).up) ((ndA W i).k1) (o9 (hI.up i om)) (o9 (l.k1 i om))) ?_
     rintro _ c7 ⟨rfl,ht⟩
     have X:=(yp bs ht)
     have Y:InN (hangS W ((ndA xs i).up) 0 ((ndA W i).k1)):=InN.hang l (o9 (hI.up i om)) (o9 (l.k1 i om))
     obtain⟨bt,c8,eR,Y,X⟩:=nam (m:=m) Y X
     have bu:=yc [_,_] _ X
     refine pLL X 9 ?_
     refine cl ent243 (hang1_ok fb nb m ed bt c7 (yd bu (i:=0) rfl) oa hb Y i ((ndA xs i).up) o_ (o9 (hI.up i om))) ?_
     rintro _ c9 ⟨rfl,ht⟩
     have Z:=(yp bu ht)
     have aa:InN (hangS bt i 1 ((ndA xs i).up)):=InN.hang Y o_ (o9 (hI.up i om))
     obtain⟨bv,da,eS,aa,Z⟩:=nam (m:=m) aa Z
     have bw:=yc [_,_] _ Z
     refine pLL Z 6 ?_
     refine cl ent143 (refresh_ok fb nb m ed bv c9 (yd bw (i:=0) rfl) oa hb aa ((ndA xs i).up) (o9 (hI.up i om))) ?_
     rintro _ db ⟨rfl,ht⟩
     have ab:=(yp bw ht)
     have ac:InN (refreshS bv ((ndA xs i).up)):=InN.refresh aa (o9 (hI.up i om))
     obtain⟨bx,dc,eU,ac,ab⟩:=nam (m:=m) ac ab
     have bz:=yc [_,_] _ ab
     refine pLL ab 5 ?_
     refine cl ent143 (refresh_ok fb nb m ed bx db (yd bz (i:=0) rfl) oa hb ac i o_) ?_
     rintro _ eV ⟨rfl,ht⟩
     have ad:=(yp bz ht)
     have bA:InN (refreshS bx i):=InN.refresh ac o_
     obtain⟨dd,de,eW,bA,ad⟩:=nam (m:=m) bA ad
     refine pLQ ad 1 ?_
     refine end0 ya4 ?_
     have e9:rotateS xs i=dd:=by subst de;subst dc;subst da;subst c8;subst c6;simp only[rotateS,K,be];rfl
     have hs9:=ad
     rw[<-e9]at hs9
     exact⟨rfl,yq (yc [_,_] [] hs9)⟩
   . skip
     refine cl ent230 (side_is fb nb m ed xs ba (f.at (i:=0) rfl) (f.at (i:=1) rfl) oa hb hI ((ndA xs i).up) (o9 (hI.up i om)) bf) ?_
     rintro _ df ⟨rfl,dg⟩
     have bB:=yaa f dg
     have bC:=yc [_,_] _ bB
     refine pLL bB 18 ?_
     refine cl ent243 (hang1_ok fb nb m ed xs df (yd bC (i:=0) rfl) oa hb hI ((ndA xs ((ndA xs i).up)).up) i (o9 (hI.up ((ndA xs i).up) (o9 (hI.up i om)))) o_) ?_
     rintro _ dh ⟨rfl,ht⟩
     have C:=(yp bC ht)
     have p:InN (hangS xs ((ndA xs ((ndA xs i).up)).up) 1 i):=InN.hang hI (o9 (hI.up ((ndA xs i).up) (o9 (hI.up i om)))) o_
     obtain⟨ae,di,eX,p,C⟩:=nam (m:=m) p C
     refine pLL C 14 ?_
     refine ixa (o' := i*9+0) (i:=(i:Int)) rfl rfl rfl yk ti269 om o_ (fa (o' := i*9+0) rfl rfl yi rfl ti267 rfl (ixArr (o:=i*9+0) (o' := i*9+1) (i:=1) rfl rfl rfl yt ti3 d_ rfl (ld rfl rfl ye rfl (yx C (i:=1) rfl f_ om rfl) ?_)))
     have bD:=yc [_,_] _ C
     refine cl ent243 (hang0_ok fb nb m ed ae dh (yd bD (i:=0) rfl) oa hb p ((ndA xs i).up) ((ndA ae i).k1) (o9 (hI.up i om)) (o9 (p.k1 i om))) ?_
     rintro _ dj ⟨rfl,ht⟩
     have af:=(yp bD ht)
     have ag:InN (hangS ae ((ndA xs i).up) 0 ((ndA ae i).k1)):=InN.hang p (o9 (hI.up i om)) (o9 (p.k1 i om))
     obtain⟨bE,dk,eY,ag,af⟩:=nam (m:=m) ag af
     have bF:=yc [_,_] _ af
     refine pLL af 9 ?_
     refine cl ent243 (hang1_ok fb nb m ed bE dj (yd bF (i:=0) rfl) oa hb ag i ((ndA xs i).up) o_ (o9 (hI.up i om))) ?_
     rintro _ dl ⟨rfl,ht⟩
     have ah:=(yp bF ht)
     have ai:InN (hangS bE i 1 ((ndA xs i).up)):=InN.hang ag o_ (o9 (hI.up i om))
     obtain⟨bG,dm,eZ,ai,ah⟩:=nam (m:=m) ai ah
     have bH:=yc [_,_] _ ah
     refine pLL ah 6 ?_
     refine cl ent143 (refresh_ok fb nb m ed bG dl (yd bH (i:=0) rfl) oa hb ai ((ndA xs i).up) (o9 (hI.up i om))) ?_
     rintro _ dn ⟨rfl,ht⟩
     have aj:=(yp bH ht)
     have ak:InN (refreshS bG ((ndA xs i).up)):=InN.refresh ai (o9 (hI.up i om))
     obtain⟨bI,dp,e0,ak,aj⟩:=nam (m:=m) ak aj
     have bJ:=yc [_,_] _ aj
     refine pLL aj 5 ?_
     refine cl ent143 (refresh_ok fb nb m ed bI dn (yd bJ (i:=0) rfl) oa hb ak i o_) ?_
     rintro _ e1 ⟨rfl,ht⟩
     have al:=(yp bJ ht)
     have bK:InN (refreshS bI i):=InN.refresh ak o_
     obtain⟨dq,dr,e2,bK,al⟩:=nam (m:=m) bK al
     refine pLQ al 1 ?_
     refine end0 ya4 ?_
     have e9:rotateS xs i=dq:=by subst dr;subst dp;subst dm;subst dk;subst di;simp only[rotateS,K,bf];rfl
     have hs9:=al
     rw[<-e9]at hs9
     exact⟨rfl,yq (yc [_,_] [] hs9)⟩
 . skip
   refine cl ent230 (side_is fb nb m ed xs w (hst0.at (i:=0) rfl) (hst0.at (i:=1) rfl) oa hb hI i o_ L) ?_
   rintro _ bb ⟨rfl,ds⟩
   have g:=yaa hst0 ds
   obtain⟨dt,e3⟩:∃ q,side_cases xs ((ndA xs i).up)=q:=⟨_,rfl⟩
   refine pLL g 12 ?_
   rcases dt with bL|bM|bN
   . skip
     refine cl ent230 (side_is fb nb m ed xs bb (g.at (i:=0) rfl) (g.at (i:=1) rfl) oa hb hI ((ndA xs i).up) (o9 (hI.up i om)) bL) ?_
     rintro _ e4 ⟨rfl,du⟩
     have bO:=yaa g du
     refine pLL bO 20 ?_
     refine ixa (o' := i*9+0) (i:=(i:Int)) rfl rfl rfl yk ti269 om o_ (fa (o' := i*9+2) rfl rfl yi rfl ti3 rfl (stoL (L' := [blk fb 265 (Zm fb nb m ed),blk nb 269 ((updA xs i (fun x=>{ x with up:=((ndA xs ((ndA xs i).up)).up) })).flatMap Nd.cells)]) 1 rfl rfl rfl rfl ti3 rfl rfl bO rfl (rec_fit (cf:=Nd.cells) (sz:=9) (k:=i) (off:=2) (n:=1) f_ om (za rfl)) (rec_set (cf:=Nd.cells) (sz:=9) (k:=i) (off:=2) f_ om rfl (za rfl)) rfl ?_))
     intro dv D e5
     have s:InN (updA xs i (fun x=>{ x with up:=((ndA xs ((ndA xs i).up)).up) })):=InN.upd hI om (fun x a b c d e=>⟨a,b,(o9 (hI.up ((ndA xs i).up) (o9 (hI.up i om)))),d,e⟩)
     obtain⟨am,dw,e6,s,D⟩:=nam (m:=m) s D
     refine pLL D 14 ?_
     refine ixa (o' := i*9+0) (i:=(i:Int)) rfl rfl rfl yk ti269 om o_ (fa (o' := i*9+0) rfl rfl yi rfl ti267 rfl (ixArr (o:=i*9+0) (o' := i*9+1) (i:=1) rfl rfl rfl yt ti3 d_ rfl (ld rfl rfl ye rfl (yx D (i:=1) rfl f_ om rfl) ?_)))
     have bP:=yc [_,_] _ D
     refine cl ent243 (hang0_ok fb nb m ed am dv (yd bP (i:=0) rfl) oa hb s ((ndA xs i).up) ((ndA am i).k1) (o9 (hI.up i om)) (o9 (s.k1 i om))) ?_
     rintro _ dx ⟨rfl,ht⟩
     have an:=(yp bP ht)
     have ao:InN (hangS am ((ndA xs i).up) 0 ((ndA am i).k1)):=InN.hang s (o9 (hI.up i om)) (o9 (s.k1 i om))
     obtain⟨bQ,dy,e7,ao,an⟩:=nam (m:=m) ao an
     have bR:=yc [_,_] _ an
     refine pLL an 9 ?_
     refine cl ent243 (hang1_ok fb nb m ed bQ dx (yd bR (i:=0) rfl) oa hb ao i ((ndA xs i).up) o_ (o9 (hI.up i om))) ?_
     rintro _ dz ⟨rfl,ht⟩
     have ap:=(yp bR ht)
     have aq:InN (hangS bQ i 1 ((ndA xs i).up)):=InN.hang ao o_ (o9 (hI.up i om))
     obtain⟨bS,dA,e8,aq,ap⟩:=nam (m:=m) aq ap
     have bT:=yc [_,_] _ ap
     refine pLL ap 6 ?_
     refine cl ent143 (refresh_ok fb nb m ed bS dz (yd bT (i:=0) rfl) oa hb aq ((ndA xs i).up) (o9 (hI.up i om))) ?_
     rintro _ dB ⟨rfl,ht⟩
     have ar:=(yp bT ht)
     have au:InN (refreshS bS ((ndA xs i).up)):=InN.refresh aq (o9 (hI.up i om))
     obtain⟨bU,dC,fc,au,ar⟩:=nam (m:=m) au ar
     have bV:=yc [_,_] _ ar
     refine pLL ar 5 ?_
     refine cl ent143 (refresh_ok fb nb m ed bU dB (yd bV (i:=0) rfl) oa hb au i o_) ?_
     rintro _ fd ⟨rfl,ht⟩
     have av:=(yp bV ht)
     have bW:InN (refreshS bU i):=InN.refresh au o_
     obtain⟨dD,dE,fe,bW,av⟩:=nam (m:=m) bW av
     refine pLQ av 1 ?_
     refine end0 ya4 ?_
     have e9:rotateS xs i=dD:=by subst dE;subst dC;subst dA;subst dy;subst dw;simp only[rotateS,L,bL];rfl
     have hs9:=av
     rw[<-e9]at hs9
     exact⟨rfl,yq (yc [_,_] [] hs9)⟩
   . skip
     refine cl ent230 (side_is fb nb m ed xs bb (g.at (i:=0) rfl) (g.at (i:=1) rfl) oa hb hI ((ndA xs i).up) (o9 (hI.up i om)) bM) ?_
     rintro _ dF ⟨rfl,dG⟩
     have bX:=yaa g dG
     have bY:=yc [_,_] _ bX
     refine pLL bX 18 ?_
     refine cl ent243 (hang0_ok fb nb m ed xs dF (yd bY (i:=0) rfl) oa hb hI ((ndA xs ((ndA xs i).up)).up) i (o9 (hI.up ((ndA xs i).up) (o9 (hI.up i om)))) o_) ?_
     rintro _ dH ⟨rfl,ht⟩
     have E:=(yp bY ht)
     have t:InN (hangS xs ((ndA xs ((ndA xs i).up)).up) 0 i):=InN.hang hI (o9 (hI.up ((ndA xs i).up) (o9 (hI.up i om)))) o_
     obtain⟨aw,dI,ff,t,E⟩:=nam (m:=m) t E
     refine pLL E 14 ?_
     refine ixa (o' := i*9+0) (i:=(i:Int)) rfl rfl rfl yk ti269 om o_ (fa (o' := i*9+0) rfl rfl yi rfl ti267 rfl (ixArr (o:=i*9+0) (o' := i*9+1) (i:=1) rfl rfl rfl yt ti3 d_ rfl (ld rfl rfl ye rfl (yx E (i:=1) rfl f_ om rfl) ?_)))
     have bZ:=yc [_,_] _ E
     refine cl ent243 (hang0_ok fb nb m ed aw dH (yd bZ (i:=0) rfl) oa hb t ((ndA xs i).up) ((ndA aw i).k1) (o9 (hI.up i om)) (o9 (t.k1 i om))) ?_
     rintro _ dJ ⟨rfl,ht⟩
     have ax:=(yp bZ ht)
     have ay:InN (hangS aw ((ndA xs i).up) 0 ((ndA aw i).k1)):=InN.hang t (o9 (hI.up i om)) (o9 (t.k1 i om))
     obtain⟨b0,dK,fg,ay,ax⟩:=nam (m:=m) ay ax
     have b1:=yc [_,_] _ ax
     refine pLL ax 9 ?_
     refine cl ent243 (hang1_ok fb nb m ed b0 dJ (yd b1 (i:=0) rfl) oa hb ay i ((ndA xs i).up) o_ (o9 (hI.up i om))) ?_
     rintro _ dL ⟨rfl,ht⟩
     have az:=(yp b1 ht)
     have aA:InN (hangS b0 i 1 ((ndA xs i).up)):=InN.hang ay o_ (o9 (hI.up i om))
     obtain⟨b2,dM,fh,aA,az⟩:=nam (m:=m) aA az
     have b3:=yc [_,_] _ az
     refine pLL az 6 ?_
     refine cl ent143 (refresh_ok fb nb m ed b2 dL (yd b3 (i:=0) rfl) oa hb aA ((ndA xs i).up) (o9 (hI.up i om))) ?_
     rintro _ dN ⟨rfl,ht⟩
     have aB:=(yp b3 ht)
     have aC:InN (refreshS b2 ((ndA xs i).up)):=InN.refresh aA (o9 (hI.up i om))
     obtain⟨b4,dO,fi,aC,aB⟩:=nam (m:=m) aC aB
     have b5:=yc [_,_] _ aB
     refine pLL aB 5 ?_
     refine cl ent143 (refresh_ok fb nb m ed b4 dN (yd b5 (i:=0) rfl) oa hb aC i o_) ?_
     rintro _ fj ⟨rfl,ht⟩
     have aD:=(yp b5 ht)
     have b6:InN (refreshS b4 i):=InN.refresh aC o_
     obtain⟨dP,dQ,fk,b6,aD⟩:=nam (m:=m) b6 aD
     refine pLQ aD 1 ?_
     refine end0 ya4 ?_
     have e9:rotateS xs i=dP:=by subst dQ;subst dO;subst dM;subst dK;subst dI;simp only[rotateS,L,bM];rfl
     have hs9:=aD
     rw[<-e9]at hs9
     exact⟨rfl,yq (yc [_,_] [] hs9)⟩
   . skip
     refine cl ent230 (side_is fb nb m ed xs bb (g.at (i:=0) rfl) (g.at (i:=1) rfl) oa hb hI ((ndA xs i).up) (o9 (hI.up i om)) bN) ?_
     rintro _ dR ⟨rfl,dS⟩
     have b7:=yaa g dS
     have b8:=yc [_,_] _ b7
     refine pLL b7 18 ?_
     refine cl ent243 (hang1_ok fb nb m ed xs dR (yd b8 (i:=0) rfl) oa hb hI ((ndA xs ((ndA xs i).up)).up) i (o9 (hI.up ((ndA xs i).up) (o9 (hI.up i om)))) o_) ?_
     rintro _ dT ⟨rfl,ht⟩
     have G:=(yp b8 ht)
     have u:InN (hangS xs ((ndA xs ((ndA xs i).up)).up) 1 i):=InN.hang hI (o9 (hI.up ((ndA xs i).up) (o9 (hI.up i om)))) o_
     obtain⟨aE,dU,fl,u,G⟩:=nam (m:=m) u G
     refine pLL G 14 ?_
     refine ixa (o' := i*9+0) (i:=(i:Int)) rfl rfl rfl yk ti269 om o_ (fa (o' := i*9+0) rfl rfl yi rfl ti267 rfl (ixArr (o:=i*9+0) (o' := i*9+1) (i:=1) rfl rfl rfl yt ti3 d_ rfl (ld rfl rfl ye rfl (yx G (i:=1) rfl f_ om rfl) ?_)))
     have b9:=yc [_,_] _ G
     refine cl ent243 (hang0_ok fb nb m ed aE dT (yd b9 (i:=0) rfl) oa hb u ((ndA xs i).up) ((ndA aE i).k1) (o9 (hI.up i om)) (o9 (u.k1 i om))) ?_
     rintro _ dV ⟨rfl,ht⟩
     have aF:=(yp b9 ht)
     have aG:InN (hangS aE ((ndA xs i).up) 0 ((ndA aE i).k1)):=InN.hang u (o9 (hI.up i om)) (o9 (u.k1 i om))
     obtain⟨ca,dW,fm,aG,aF⟩:=nam (m:=m) aG aF
     have cb:=yc [_,_] _ aF
     refine pLL aF 9 ?_
     refine cl ent243 (hang1_ok fb nb m ed ca dV (yd cb (i:=0) rfl) oa hb aG i ((ndA xs i).up) o_ (o9 (hI.up i om))) ?_
     rintro _ dX ⟨rfl,ht⟩
     have aH:=(yp cb ht)
     have aI:InN (hangS ca i 1 ((ndA xs i).up)):=InN.hang aG o_ (o9 (hI.up i om))
     obtain⟨cc,dY,fn,aI,aH⟩:=nam (m:=m) aI aH
     have cd:=yc [_,_] _ aH
     refine pLL aH 6 ?_
     refine cl ent143 (refresh_ok fb nb m ed cc dX (yd cd (i:=0) rfl) oa hb aI ((ndA xs i).up) (o9 (hI.up i om))) ?_
     rintro _ dZ ⟨rfl,ht⟩
     have aJ:=(yp cd ht)
     have aK:InN (refreshS cc ((ndA xs i).up)):=InN.refresh aI (o9 (hI.up i om))
     obtain⟨ce,d0,fo,aK,aJ⟩:=nam (m:=m) aK aJ
     have cg:=yc [_,_] _ aJ
     refine pLL aJ 5 ?_
     refine cl ent143 (refresh_ok fb nb m ed ce dZ (yd cg (i:=0) rfl) oa hb aK i o_) ?_
     rintro _ fp ⟨rfl,ht⟩
     have aL:=(yp cg ht)
     have ch:InN (refreshS ce i):=InN.refresh aK o_
     obtain⟨d1,d2,fq,ch,aL⟩:=nam (m:=m) ch aL
     refine pLQ aL 1 ?_
     refine end0 ya4 ?_
     have e9:rotateS xs i=d1:=by subst d2;subst d0;subst dY;subst dW;subst dU;simp only[rotateS,L,bN];rfl
     have hs9:=aL
     rw[<-e9]at hs9
     exact⟨rfl,yq (yc [_,_] [] hs9)⟩
 . skip
   refine cl ent230 (side_is fb nb m ed xs w (hst0.at (i:=0) rfl) (hst0.at (i:=1) rfl) oa hb hI i o_ M) ?_
   rintro _ bc ⟨rfl,d3⟩
   have h:=yaa hst0 d3
   obtain⟨d4,fr⟩:∃ q,side_cases xs ((ndA xs i).up)=q:=⟨_,rfl⟩
   refine pLL h 12 ?_
   rcases d4 with ci|cj|ck
   . skip
     refine cl ent230 (side_is fb nb m ed xs bc (h.at (i:=0) rfl) (h.at (i:=1) rfl) oa hb hI ((ndA xs i).up) (o9 (hI.up i om)) ci) ?_
     rintro _ fs ⟨rfl,d5⟩
     have cm:=yaa h d5
     refine pLL cm 20 ?_
     refine ixa (o' := i*9+0) (i:=(i:Int)) rfl rfl rfl yk ti269 om o_ (fa (o' := i*9+2) rfl rfl yi rfl ti3 rfl (stoL (L' := [blk fb 265 (Zm fb nb m ed),blk nb 269 ((updA xs i (fun x=>{ x with up:=((ndA xs ((ndA xs i).up)).up) })).flatMap Nd.cells)]) 1 rfl rfl rfl rfl ti3 rfl rfl cm rfl (rec_fit (cf:=Nd.cells) (sz:=9) (k:=i) (off:=2) (n:=1) f_ om (za rfl)) (rec_set (cf:=Nd.cells) (sz:=9) (k:=i) (off:=2) f_ om rfl (za rfl)) rfl ?_))
     intro d6 H ft
     have v:InN (updA xs i (fun x=>{ x with up:=((ndA xs ((ndA xs i).up)).up) })):=InN.upd hI om (fun x a b c d e=>⟨a,b,(o9 (hI.up ((ndA xs i).up) (o9 (hI.up i om)))),d,e⟩)
     obtain⟨aM,d7,fu,v,H⟩:=nam (m:=m) v H
     refine pLL H 14 ?_
     refine ixa (o' := i*9+0) (i:=(i:Int)) rfl rfl rfl yk ti269 om o_ (fa (o' := i*9+0) rfl rfl yi rfl ti267 rfl (ixArr (o:=i*9+0) (o' := i*9+0) (i:=0) rfl rfl rfl yt ti3 d_ rfl (ld rfl rfl ye rfl (yx H (i:=1) rfl f_ om rfl) ?_)))
     have cn:=yc [_,_] _ H
     refine cl ent243 (hang1_ok fb nb m ed aM d6 (yd cn (i:=0) rfl) oa hb v ((ndA xs i).up) ((ndA aM i).k0) (o9 (hI.up i om)) (o9 (v.k0 i om))) ?_
     rintro _ d8 ⟨rfl,ht⟩
     have aN:=(yp cn ht)
     have aO:InN (hangS aM ((ndA xs i).up) 1 ((ndA aM i).k0)):=InN.hang v (o9 (hI.up i om)) (o9 (v.k0 i om))
     obtain⟨co,d9,fv,aO,aN⟩:=nam (m:=m) aO aN
     have cp:=yc [_,_] _ aN
     refine pLL aN 9 ?_
     refine cl ent243 (hang0_ok fb nb m ed co d8 (yd cp (i:=0) rfl) oa hb aO i ((ndA xs i).up) o_ (o9 (hI.up i om))) ?_
     rintro _ ea ⟨rfl,ht⟩
     have aP:=(yp cp ht)
     have aQ:InN (hangS co i 0 ((ndA xs i).up)):=InN.hang aO o_ (o9 (hI.up i om))
     obtain⟨cq,eb,fw,aQ,aP⟩:=nam (m:=m) aQ aP
     have cr:=yc [_,_] _ aP
     refine pLL aP 6 ?_
     refine cl ent143 (refresh_ok fb nb m ed cq ea (yd cr (i:=0) rfl) oa hb aQ ((ndA xs i).up) (o9 (hI.up i om))) ?_
     rintro _ ec ⟨rfl,ht⟩
     have aR:=(yp cr ht)
     have aS:InN (refreshS cq ((ndA xs i).up)):=InN.refresh aQ (o9 (hI.up i om))
     obtain⟨cs,ee,fx,aS,aR⟩:=nam (m:=m) aS aR
     have ct:=yc [_,_] _ aR
     refine pLL aR 5 ?_
     refine cl ent143 (refresh_ok fb nb m ed cs ec (yd ct (i:=0) rfl) oa hb aS i o_) ?_
     rintro _ fy ⟨rfl,ht⟩
     have aT:=(yp ct ht)
     have cu:InN (refreshS cs i):=InN.refresh aS o_
     obtain⟨ef,eg,fz,cu,aT⟩:=nam (m:=m) cu aT
     refine pLQ aT 1 ?_
     refine end0 ya4 ?_
     have e9:rotateS xs i=ef:=by subst eg;subst ee;subst eb;subst d9;subst d7;simp only[rotateS,M,ci];rfl
     have hs9:=aT
     rw[<-e9]at hs9
     exact⟨rfl,yq (yc [_,_] [] hs9)⟩
   . skip
     refine cl ent230 (side_is fb nb m ed xs bc (h.at (i:=0) rfl) (h.at (i:=1) rfl) oa hb hI ((ndA xs i).up) (o9 (hI.up i om)) cj) ?_
     rintro _ eh ⟨rfl,ei⟩
     have cv:=yaa h ei
     have cw:=yc [_,_] _ cv
     refine pLL cv 18 ?_
     refine cl ent243 (hang0_ok fb nb m ed xs eh (yd cw (i:=0) rfl) oa hb hI ((ndA xs ((ndA xs i).up)).up) i (o9 (hI.up ((ndA xs i).up) (o9 (hI.up i om)))) o_) ?_
     rintro _ ej ⟨rfl,ht⟩
     have I:=(yp cw ht)
     have y:InN (hangS xs ((ndA xs ((ndA xs i).up)).up) 0 i):=InN.hang hI (o9 (hI.up ((ndA xs i).up) (o9 (hI.up i om)))) o_
     obtain⟨aU,ek,fA,y,I⟩:=nam (m:=m) y I
     refine pLL I 14 ?_
     refine ixa (o' := i*9+0) (i:=(i:Int)) rfl rfl rfl yk ti269 om o_ (fa (o' := i*9+0) rfl rfl yi rfl ti267 rfl (ixArr (o:=i*9+0) (o' := i*9+0) (i:=0) rfl rfl rfl yt ti3 d_ rfl (ld rfl rfl ye rfl (yx I (i:=1) rfl f_ om rfl) ?_)))
     have cx:=yc [_,_] _ I
     refine cl ent243 (hang1_ok fb nb m ed aU ej (yd cx (i:=0) rfl) oa hb y ((ndA xs i).up) ((ndA aU i).k0) (o9 (hI.up i om)) (o9 (y.k0 i om))) ?_
     rintro _ el ⟨rfl,ht⟩
     have aV:=(yp cx ht)
     have aW:InN (hangS aU ((ndA xs i).up) 1 ((ndA aU i).k0)):=InN.hang y (o9 (hI.up i om)) (o9 (y.k0 i om))
     obtain⟨cy,em,fB,aW,aV⟩:=nam (m:=m) aW aV
     have cz:=yc [_,_] _ aV
     refine pLL aV 9 ?_
     refine cl ent243 (hang0_ok fb nb m ed cy el (yd cz (i:=0) rfl) oa hb aW i ((ndA xs i).up) o_ (o9 (hI.up i om))) ?_
     rintro _ eo ⟨rfl,ht⟩
     have aX:=(yp cz ht)
     have aY:InN (hangS cy i 0 ((ndA xs i).up)):=InN.hang aW o_ (o9 (hI.up i om))
     obtain⟨cA,ep,fC,aY,aX⟩:=nam (m:=m) aY aX
     have cB:=yc [_,_] _ aX
     refine pLL aX 6 ?_
     refine cl ent143 (refresh_ok fb nb m ed cA eo (yd cB (i:=0) rfl) oa hb aY ((ndA xs i).up) (o9 (hI.up i om))) ?_
     rintro _ eq ⟨rfl,ht⟩
     have aZ:=(yp cB ht)
     have a0:InN (refreshS cA ((ndA xs i).up)):=InN.refresh aY (o9 (hI.up i om))
     obtain⟨cC,er,fD,a0,aZ⟩:=nam (m:=m) a0 aZ
     have cD:=yc [_,_] _ aZ
     refine pLL aZ 5 ?_
     refine cl ent143 (refresh_ok fb nb m ed cC eq (yd cD (i:=0) rfl) oa hb a0 i o_) ?_
     rintro _ fE ⟨rfl,ht⟩
     have a1:=(yp cD ht)
     have cE:InN (refreshS cC i):=InN.refresh a0 o_
     obtain⟨es,et,fF,cE,a1⟩:=nam (m:=m) cE a1
     refine pLQ a1 1 ?_
     refine end0 ya4 ?_
     have e9:rotateS xs i=es:=by subst et;subst er;subst ep;subst em;subst ek;simp only[rotateS,M,cj];rfl
     have hs9:=a1
     rw[<-e9]at hs9
     exact⟨rfl,yq (yc [_,_] [] hs9)⟩
   . skip
     refine cl ent230 (side_is fb nb m ed xs bc (h.at (i:=0) rfl) (h.at (i:=1) rfl) oa hb hI ((ndA xs i).up) (o9 (hI.up i om)) ck) ?_
     rintro _ eu ⟨rfl,ev⟩
     have cF:=yaa h ev
     have cG:=yc [_,_] _ cF
     refine pLL cF 18 ?_
     refine cl ent243 (hang1_ok fb nb m ed xs eu (yd cG (i:=0) rfl) oa hb hI ((ndA xs ((ndA xs i).up)).up) i (o9 (hI.up ((ndA xs i).up) (o9 (hI.up i om)))) o_) ?_
     rintro _ ew ⟨rfl,ht⟩
     have J:=(yp cG ht)
     have z:InN (hangS xs ((ndA xs ((ndA xs i).up)).up) 1 i):=InN.hang hI (o9 (hI.up ((ndA xs i).up) (o9 (hI.up i om)))) o_
     obtain⟨a2,ex,fG,z,J⟩:=nam (m:=m) z J
     refine pLL J 14 ?_
     refine ixa (o' := i*9+0) (i:=(i:Int)) rfl rfl rfl yk ti269 om o_ (fa (o' := i*9+0) rfl rfl yi rfl ti267 rfl (ixArr (o:=i*9+0) (o' := i*9+0) (i:=0) rfl rfl rfl yt ti3 d_ rfl (ld rfl rfl ye rfl (yx J (i:=1) rfl f_ om rfl) ?_)))
     have cH:=yc [_,_] _ J
     refine cl ent243 (hang1_ok fb nb m ed a2 ew (yd cH (i:=0) rfl) oa hb z ((ndA xs i).up) ((ndA a2 i).k0) (o9 (hI.up i om)) (o9 (z.k0 i om))) ?_
     rintro _ ey ⟨rfl,ht⟩
     have a3:=(yp cH ht)
     have a4:InN (hangS a2 ((ndA xs i).up) 1 ((ndA a2 i).k0)):=InN.hang z (o9 (hI.up i om)) (o9 (z.k0 i om))
     obtain⟨cI,ez,fH,a4,a3⟩:=nam (m:=m) a4 a3
     have cJ:=yc [_,_] _ a3
     refine pLL a3 9 ?_
     refine cl ent243 (hang0_ok fb nb m ed cI ey (yd cJ (i:=0) rfl) oa hb a4 i ((ndA xs i).up) o_ (o9 (hI.up i om))) ?_
     rintro _ eA ⟨rfl,ht⟩
     have a5:=(yp cJ ht)
     have a6:InN (hangS cI i 0 ((ndA xs i).up)):=InN.hang a4 o_ (o9 (hI.up i om))
     obtain⟨cK,eB,fI,a6,a5⟩:=nam (m:=m) a6 a5
     have cL:=yc [_,_] _ a5
     refine pLL a5 6 ?_
     refine cl ent143 (refresh_ok fb nb m ed cK eA (yd cL (i:=0) rfl) oa hb a6 ((ndA xs i).up) (o9 (hI.up i om))) ?_
     rintro _ eC ⟨rfl,ht⟩
     have a7:=(yp cL ht)
     have a8:InN (refreshS cK ((ndA xs i).up)):=InN.refresh a6 (o9 (hI.up i om))
     obtain⟨cM,eD,fJ,a8,a7⟩:=nam (m:=m) a8 a7
     have cN:=yc [_,_] _ a7
     refine pLL a7 5 ?_
     refine cl ent143 (refresh_ok fb nb m ed cM eC (yd cN (i:=0) rfl) oa hb a8 i o_) ?_
     rintro _ fK ⟨rfl,ht⟩
     have a9:=(yp cN ht)
     have cO:InN (refreshS cM i):=InN.refresh a8 o_
     obtain⟨eE,eF,fL,cO,a9⟩:=nam (m:=m) cO a9
     refine pLQ a9 1 ?_
     refine end0 ya4 ?_
     have e9:rotateS xs i=eE:=by subst eF;subst eD;subst eB;subst ez;subst ex;simp only[rotateS,M,ck];rfl
     have hs9:=a9
     rw[<-e9]at hs9
     exact⟨rfl,yq (yc [_,_] [] hs9)⟩
end
section
open Go Go.Sx
theorem back_ok(v:Value)(w:World)(h1:v.oneCell' = true) :
 CR ya 231 #[v] w (fun r w' => ∃ kb,w.heap.size<=kb/\r = .func (.func 242) #[] (Zk kb)/\(blk kb 115 [v]).holds w' /\ Chg [] w w'):=by
 refine en Tryz.func231 Tryz.ntmps231 ?_
 have hst0:=yaf w
 refine pPL hst0 2 ?_
 refine bx (v:=v) (cs:=[v]) rfl rfl (cells_one h1) hst0 (fun b d c e a=>pLL a 5 ?_)
 refine mkf (vf:=[]) (vc:=(Zj b)) rfl rfl rfl (pLQ a 4 ?_)
 refine ret1 (v:=(.func (.func 242) #[] (Zk b))) Tryz.results231 rfl ?_
 exact⟨_,z1 (hst0.size zh) c,rfl,a.at (i:=0) rfl,a.chg s_⟩
theorem back1_ok(Cl:Nat->Res)(l kb:Nat)(v:Value)(xs:List Int)(ok:Nat->Prop)(w:World)(hy:∀ (k:Nat) (x:Int) (bs:List (World×List Nat)) (L:List Res) (w:World),k<xs.length->xs[xs.length-1-k]? = some x->St bs (Cl k :: L) w->YR ya l (Zi ((xs.length:Int)-1-(k:Int)) x) w (fun v w' => v = .bool true/\St bs (Cl (k+1) :: L) w'))(hO:Own (Cl 0) w)(hkb:(blk kb 115 [v]).holds w)(hkc:kb∉(Cl 0).foot)(hv:Ints .i64 ok w v xs)(hok:∀ b,ok b->b∉(Cl 0).foot)(hl0:xs.length<=1000000000000) :
 CR ya 242 #[(.func (.yield l) #[] #[]),(Zb kb)] w (fun r w' => r = .tuple #[]/\Turn (Cl 0) w w' (Cl xs.length)):=by
 have hv:=hv.old d_
 have hok:∀ b,(ok b/\b<w.heap.size)->b∉(Cl 0).foot:=fun b hb=>hok b hb.1
 refine en Tryz.func242 Tryz.ntmps242 ?_
 have hst0:=yz hO
 refine pPL hst0 2 ?_
 refine ld rfl rfl yh rfl (blk_cell hkb (o:=0) rfl) (lenI (v:=v) rfl rfl yh hv (pLP hst0 5 ?_))
 refine lp (α:=Nat) (fun k=>[(0,(.func (.yield l) #[] #[])),(1,(Zb kb)),(3,(Za ((xs.length:Int)-1-(k:Int))))]) (fun k w1=>St [(w,(Cl 0).foot)] [Cl k] w1/\k<=xs.length) (fun k=>xs.length-k) 0 ⟨rfl,rfl,eqI (by first|rfl|omega),trivial⟩ (⟨hst0,o_⟩) ?_
 rintro k f g ⟨hst,hk1⟩
 refine pPL hst 4 ?_
 by_cases h:((xs.length:Int)-1-(k:Int):Int)≥(0:Int)
 . obtain⟨x,hx⟩:=get_some' (show xs.length-1-k<xs.length by omega)
   refine pLL hst 12 ?_
   refine ld rfl rfl yh rfl (St.cellB hst (X:=(Cl 0).foot) s_ (blk_cell hkb (o:=0) rfl) hkc) (pLL hst 1 ?_)
   refine ixI (i:=(xs.length:Int)-1-(k:Int)) (el:=x) rfl rfl rfl yh ti3 (St.ints hst (X:=(Cl 0).foot) s_ hv hok) o_ (by rw[show ((xs.length:Int)-1-(k:Int)).toNat=xs.length-1-k by omega];exact hx) ?_
   intro j m c d n
   have p:=d.i64
   refine ld rfl rfl ye rfl c (yl (vl:=(Zi ((xs.length:Int)-1-(k:Int)) x)) rfl rfl rfl (hy k x _ _ _ o_ hx hst) ?_)
   rintro _ q ⟨rfl,a⟩
   refine pLL a 9 ?_
   refine ar (e:=(xs.length:Int)-1-((k+1:Nat):Int)) rfl rfl rfl rfl (by rw[w64 o_];omega) (pLQ a 2 ?_)
   refine tN (?_)
   exact again (k+1) ⟨rfl,rfl,eqI (by first|rfl|omega),trivial⟩ (⟨a,o_⟩) (by show (xs.length-(k+1):Nat)<xs.length-k;omega)
 . refine pLQ hst 8 ?_
   refine end0 Tryz.results242 ?_
   obtain rfl:k=xs.length:=by omega
   exact⟨rfl,yv (R:=Cl 0) hst s_⟩
end
section
open Go Go.Sx
theorem splay_ok(fb nb m:Nat)(ed:Int)(xs:List Nd)(w:World)(hO:Own (Zh fb nb m ed xs) w)(hm:xs.length=m)(hb:m<=1000001)(hI:InN xs)(i q:Nat)(T:Tr)(hR:Rep xs T q)(hT:i∈T.mem)(hn:T.mem.Nodup)(hcnt:T.mem.length<=1000000)(hq:Out xs q T.mem) :
 CR ya 201 (Zn fb i) w (fun r w' => r = .tuple #[]/\∃ ys a' b', Mid xs ys T [] (.nd a' i b') q/\(ndA ys i).flip=false/\InN ys/\Turn (Zh fb nb m ed xs) w w' (Zh fb nb m ed ys)):=by
 have him:i<m:=by have h7:=hR.mem_ok i hT;omega
 obtain⟨c,a,b,rfl⟩:=mem_ctx hT
 have hat:=At.start hR hn
 have hout:Out xs q (plugL c (Tr.nd a i b).mem):=by rw[<-mem_plug];exact hq
 have hPm:=path_lt hR
 have hpl:=path_len (c:=c) (a:=a) (b:=b) (i:=i)
 have hIw:=hI.pushW hPm
 have hPin:=natsI_in (m:=m) (fun j hj=>by have:=hPm j hj;omega) hb
 refine enterM (vs:=(Za2 fb i)) Tryz.func201 rfl Tryz.ntmps201 rfl ?_
 have hst0:=(yz hO).unpack
 refine pPL hst0 2 ?_
 refine bx (v:=(Zb fb)) (cs:=(Zj fb)) rfl rfl rfl hst0 ?_
 intro e aj a7 a8 I
 have ak:St _ [rowI .i64 Zl 3 ([]),blk e 167 (Zj fb),blk fb 265 (Zm fb nb m ed),blk nb 269 (xs.flatMap Nd.cells)] aj:=ybd I 3 1
 have al:=ak
 have am:=al
 refine pLP I 19 ?_
 refine lp (α:=Nat×Nat×Value) (fun(k,j,pv)=>[(1,(Za i)),(2,(Zb e)),(4,pv),(5,(Za j))]) (fun(k,j,pv) w1=>St [(w,(Zh fb nb m ed xs).foot)] [rowI .i64 pv 3 (natsI ((pathC c i).take k)),blk e 167 (Zj fb),blk fb 265 (Zm fb nb m ed),blk nb 269 (xs.flatMap Nd.cells)] w1/\(pathC c i)[k]? = some j) (fun(k,j,pv)=>c.length+1-k) (0,i,Zl) ⟨rfl,rfl,rfl,eqI (by first|rfl|omega),trivial⟩ (⟨am,rfl⟩) ?_
 rintro⟨k,j,pv⟩ a9 ba hC
 have hjm:j<m:=by have h7:=hPm j (zg hC.2);omega
 refine pPL hC.1 5 ?_
 refine bsv (vs:=(Zd j)) (cs:=(Zd j)) rfl rfl yh ti3 rfl (by simp[Value.cells]) rfl rfl rfl hC.1 (fun an bb bc bd J=>apdI (k:=.i64) (ys:=natsI ((pathC c i).take k)) (zs:=[(j:Int)]) (LL:=fun f=>[rowI .i64 (Zv an) 3 ([(j:Int)]),rowI .i64 f 3 ((natsI ((pathC c i).take k))++([(j:Int)])),blk e 167 (Zj fb),blk fb 265 (Zm fb nb m ed),blk nb 269 (xs.flatMap Nd.cells)]) 1 rfl rfl rfl yh ti3 rfl J rfl (yaq J (i:=0) rfl) (by simp only[natsI,zu,zaj,zk,zq];omega) (by simp only[natsI,zu,zaj,zk,zq];omega) f_ ?_)
 intro f y K be
 have ao:=yj [1,2,3,4] K
 have g:=yj [3,4,1,2] K
 obtain⟨ap,bf⟩:∃ q,side_cases xs j=q:=⟨_,rfl⟩
 refine pLL ao 8 ?_
 rcases ap with M|N|P
 . skip
   have hend:=climb_end hat hout hC.2 M
   have hNl:natsI ((pathC c i).take k)++[(j:Int)]=natsI (pathC c i):=by rw[natsI_snoc hC.2,zaq (by rw[hpl.1];omega)]
   refine cl ent230 (side_is fb nb m ed xs y (g.at (i:=0) rfl) (g.at (i:=1) rfl) oa hb hI j o_ M) ?_
   rintro _ aq ⟨rfl,ar⟩
   have A:=yaa g ar
   refine pLL A 24 ?_
   refine cl ent231 (back_ok f aq (ya0 A (i:=2) rfl)) ?_
   rintro _ au ⟨kb,hkn,rfl,hkb0,hqb⟩
   have Q:=St.addBlk A hqb hkn hkb0
   have av:=yj [4,1,2,3,0] Q
   have aw:St [(w,(Zh fb nb m ed xs).foot)] (Zei e fb nb m ed (pushW xs (pathC c i) 0) f (natsI (pathC c i)) kb) au:=by rw[pushW_zero];have h9:=av;rw[hNl]at h9;exact h9
   refine pLP Q 3 ?_
   refine rf (α:=Nat) (ps:=[38,39]) (fi:=[]) (ca:=(Zj kb)) (fun z=>(Zei e fb nb m ed (pushW xs (pathC c i) z) f (natsI (pathC c i)) kb)) (fun z=>z=(pathC c i).length) aw rfl ent242 ?_ ?_
   . intro fn dd l wl rc hrc hsl
     have ax:=yj [0,2,3,4,1,5,6] hsl
     have hpk:=yc (Zbe (lobj l rc) e fb nb m ed (pushW xs (pathC c i) 0)) [dobj dd (some []),rowI .i64 f 3 (natsI (pathC c i)),blk kb 115 [f]] ax
     have hr1:rc.state = .ready:=by rw[hrc]
     have hr2:rc.pending=none:=by rw[hrc]
     have hround:∀ (k:Nat) (x:Int) (bs:List (World×List Nat)) (L:List Res) (w:World),k<(natsI (pathC c i)).length->(natsI (pathC c i))[(natsI (pathC c i)).length-1-k]? = some x->St bs ((fun(z:Nat)=>allR (Zbe (lobj l rc) e fb nb m ed (pushW xs (pathC c i) z))) k :: L) w->YR ya l (Zi (((natsI (pathC c i)).length:Int)-1-(k:Int)) x) w (fun v w' => v = .bool true/\St bs ((fun(z:Nat)=>allR (Zbe (lobj l rc) e fb nb m ed (pushW xs (pathC c i) z))) (k+1) :: L) w'):=by
      intro k x bs LT wr hlt hx hsr
      have hsr:=hsr.unpack
      obtain⟨j,hj,rfl⟩:=natsI_back hlt hx
      have hjm:j<m:=by have:=hPm j (by simpa using zg hj);omega
      have hwl:=(hIw k).2
      refine rnd (vl:=(Zi (((natsI (pathC c i)).length:Int)-1-(k:Int)) j)) 0 hrc hsr rfl rfl rfl (pPQ hsr 3 ?_)
      refine tN (?_)
      refine begR 0 hsr rfl hr1 rfl ?_
      intro ay R
      have az:=ya7 R (List.Perm.cons _ (List.Perm.swap _ _ _))
      have aA:=ya7 az (List.Perm.swap _ _ _)
      have aB:=ya7 aA (List.Perm.cons _ (List.Perm.cons _ (List.Perm.swap _ _ _)))
      have aC:=ya7 aB (List.Perm.cons _ (List.Perm.swap _ _ _))
      have S:=yc [_,_] _ aC
      refine pPL R 4 ?_
      refine cl ent232 (push_ok fb nb m ed (pushW xs (pathC c i) k) ay (yd S (i:=0) rfl) oa hb (hIw k).1 j o_) ?_
      rintro _ bg ⟨rfl,ht⟩
      have U:=(yp S ht)
      have bh:InN (pushS (pushW xs (pathC c i) k) j):=(InN.push (hIw k).1 o_).1
      refine pLQ U 2 ?_
      refine endR 2 U rfl hr1 hr2 rfl ?_
      intro bi aD
      have aE:=ya7 aD (List.Perm.cons _ (List.Perm.swap _ _ _))
      have aF:=ya7 aE (List.Perm.swap _ _ _)
      have aG:=ya7 aF (List.Perm.cons _ (List.Perm.cons _ (List.Perm.swap _ _ _)))
      have aH:=ya7 aG (List.Perm.cons _ (List.Perm.swap _ _ _))
      have hs7:=aH
      rw[<-pushW_succ hj]at hs7
      exact⟨_,rfl,rfl,yc [_,_,_,_] _ hs7⟩
     refine CR.mono (back1_ok (fun(z:Nat)=>allR (Zbe (lobj l rc) e fb nb m ed (pushW xs (pathC c i) z))) l kb f (natsI (pathC c i)) (fun b=>b∉((fun(z:Nat)=>allR (Zbe (lobj l rc) e fb nb m ed (pushW xs (pathC c i) z))) 0).foot) wl hround (yd hpk (i:=0) rfl) (hpk.at (i:=3) rfl) (hpk.notIn (by simp[feet,blk,dobj])) (St.rowIntsO hpk (i:=2) (j:=0) rfl hPin rfl d_) (fun _ h=>h) (by simp only[natsI,zu];omega)) ?_
     rintro _ w9 ⟨-,hturn⟩
     have hs9:=(yp hpk hturn)
     have aI:=yj [0,4,1,2,3,5,6] hs9
     exact⟨_,by simp[natsI],aI⟩
   . rintro z dd bj hC aJ
     have V:=yj [0,1,2,3] aJ
     obtain⟨O0,a0,b0,hM0,hf0⟩:=push_all hR hn hC
     refine pQP tt none V 3 ?_
     refine lp (α:=List Nd×Cx×Tr×Tr) (fun(ys,O,a', b')=>[(1,(Za i)),(2,(Zb e))]) (fun(ys,O,a', b') w1=>St [(w,(Zh fb nb m ed xs).foot)] (Zbe (dobj dd (some [])) e fb nb m ed ys) w1/\Mid xs ys (plug c (.nd a i b)) O (.nd a' i b') q/\(ndA ys i).flip=false/\InN ys/\ys.length=m) (fun(ys,O,a', b')=>O.length) ((pushW xs (pathC c i) z),O0,a0,b0) ⟨rfl,rfl,trivial⟩ (⟨V,hM0,hf0,(hIw z).1,by have:=(hIw z).2;omega⟩) ?_
     rintro⟨ys,O,a', b'⟩ bl B ⟨hst3,hM,hfl,hIy,hyl⟩
     refine pPL hst3 3 ?_
     rcases hM.sides hn hq with ⟨hO,hS⟩|⟨d,p,s2,hO,hS,hU,hS2⟩|⟨d,p,s2,d', g2,s3,c2,hO,hS,hU,hS2⟩
     . skip
       subst hO
       have C:=yj [2,3,0,1] hst3
       refine pLL hst3 2 ?_
       refine cl ent230 (side_is fb nb m ed ys B (C.at (i:=0) rfl) (C.at (i:=1) rfl) oa hb hIy i o_ hS) ?_
       rintro _ bm ⟨rfl,aK⟩
       have W:=yaa C aK
       refine pLQ W 21 ?_
       refine leaveM 2 W rfl rfl ?_
       intro w8 hs8
       exact⟨_,results_none Tryz.results201 _ _ _,_,rfl,rfl,ys,a', b', hM,hfl,hIy,yq (yc [_,_] _ hs8)⟩
     . skip
       subst hO
       subst hU
       have D:=yj [2,3,0,1] hst3
       refine pLL hst3 2 ?_
       refine cl ent230 (side_is fb nb m ed ys B (D.at (i:=0) rfl) (D.at (i:=1) rfl) oa hb hIy i o_ hS) ?_
       rintro _ aL ⟨rfl,aM⟩
       have n:=yaa D aM
       refine pLL n 24 ?_
       refine ixa (o' := i*9+0) (i:=(i:Int)) rfl rfl rfl yk ti269 (o9 (show i<(ys).length from om)) o_ (fa (o' := i*9+2) rfl rfl yi rfl ti3 rfl (ld rfl rfl ye rfl (yx n (i:=1) rfl f_ om rfl) (pLL n 8 ?_)))
       refine cl ent230 (side_is fb nb m ed ys aL (n.at (i:=0) rfl) (n.at (i:=1) rfl) oa hb hIy ((ndA ys i).up) (o9 (hIy.up i om)) hS2) ?_
       rintro _ aN ⟨rfl,aO⟩
       have X:=yaa n aO
       have Y:=yc [_,_] _ X
       refine pLL X 18 ?_
       refine cl ent233 (rotate_ok fb nb m ed ys aN (yd Y (i:=0) rfl) oa hb hIy i o_) ?_
       rintro _ bn ⟨rfl,ht⟩
       have Z:=(yp Y ht)
       have aP:InN (rotateS ys i):=(InN.rotate hIy o_).1
       have bo:(rotateS ys i).length=m:=(rotateS_len hIy o_).trans o_
       refine pLQ Z 2 ?_
       refine tN (?_)
       have aQ:=yj [2,3,0,1] Z
       obtain⟨a2,b2,hM2,hf2⟩:=hM.zig hn o_ hcnt hq hfl
       exact again (rotateS ys i,[],a2,b2) ⟨rfl,rfl,trivial⟩ (⟨aQ,hM2,hf2,aP,by have:=hM2.kl.len;omega⟩) (by simp only[zk,zq];omega)
     . skip
       subst hO
       subst hU
       have E:=yj [2,3,0,1] hst3
       refine pLL hst3 2 ?_
       refine cl ent230 (side_is fb nb m ed ys B (E.at (i:=0) rfl) (E.at (i:=1) rfl) oa hb hIy i o_ hS) ?_
       rintro _ aR ⟨rfl,aS⟩
       have o:=yaa E aS
       refine pLL o 24 ?_
       refine ixa (o' := i*9+0) (i:=(i:Int)) rfl rfl rfl yk ti269 (o9 (show i<(ys).length from om)) o_ (fa (o' := i*9+2) rfl rfl yi rfl ti3 rfl (ld rfl rfl ye rfl (yx o (i:=1) rfl f_ om rfl) (pLL o 8 ?_)))
       refine cl ent230 (side_is fb nb m ed ys aR (o.at (i:=0) rfl) (o.at (i:=1) rfl) oa hb hIy ((ndA ys i).up) (o9 (hIy.up i om)) hS2) ?_
       rintro _ aa ⟨rfl,aT⟩
       have s:=yaa o aT
       refine pLL s 17 ?_
       by_cases aU:((sd d:Int):Int)=((sd d' : Int):Int)
       . have ab:=yc [_,_] _ s
         refine pLL s 7 ?_
         refine cl ent233 (rotate_ok fb nb m ed ys aa (yd ab (i:=0) rfl) oa hb hIy ((ndA ys i).up) (o9 (hIy.up i om))) ?_
         rintro _ aV ⟨rfl,ht⟩
         have ac:=(yp ab ht)
         have G:InN (rotateS ys ((ndA ys i).up)):=(InN.rotate hIy (o9 (hIy.up i om))).1
         have bp:(rotateS ys ((ndA ys i).up)).length=m:=(rotateS_len hIy (o9 (hIy.up i om))).trans o_
         have ad:=yc [_,_] _ ac
         refine pLL ac 5 ?_
         refine cl ent233 (rotate_ok fb nb m ed (rotateS ys ((ndA ys i).up)) aV (yd ad (i:=0) rfl) oa hb G i o_) ?_
         rintro _ bq ⟨rfl,ht⟩
         have ae:=(yp ad ht)
         have aW:InN (rotateS (rotateS ys ((ndA ys i).up)) i):=(InN.rotate G o_).1
         have br:(rotateS (rotateS ys ((ndA ys i).up)) i).length=m:=(rotateS_len G o_).trans o_
         refine pLQ ae 2 ?_
         refine tN (?_)
         have aX:=yj [2,3,0,1] ae
         have hdd:=sd_inj (Int.ofNat.inj aU)
         subst hdd
         obtain⟨a2,b2,hM2,hf2⟩:=hM.zigzig hn o_ hcnt hq hfl
         exact again (rotateS (rotateS ys ((ndA ys i).up)) i,c2,a2,b2) ⟨rfl,rfl,trivial⟩ (⟨aX,hM2,hf2,aW,by have:=hM2.kl.len;omega⟩) (by simp only[zk,zq];omega)
       . have af:=yc [_,_] _ s
         refine pLL s 7 ?_
         refine cl ent233 (rotate_ok fb nb m ed ys aa (yd af (i:=0) rfl) oa hb hIy i o_) ?_
         rintro _ aY ⟨rfl,ht⟩
         have ag:=(yp af ht)
         have H:InN (rotateS ys i):=(InN.rotate hIy o_).1
         have bt:(rotateS ys i).length=m:=(rotateS_len hIy o_).trans o_
         have ah:=yc [_,_] _ ag
         refine pLL ag 5 ?_
         refine cl ent233 (rotate_ok fb nb m ed (rotateS ys i) aY (yd ah (i:=0) rfl) oa hb H i o_) ?_
         rintro _ bu ⟨rfl,ht⟩
         have ai:=(yp ah ht)
         have aZ:InN (rotateS (rotateS ys i) i):=(InN.rotate H o_).1
         have bv:(rotateS (rotateS ys i) i).length=m:=(rotateS_len H o_).trans o_
         refine pLQ ai 2 ?_
         refine tN (?_)
         have a1:=yj [2,3,0,1] ai
         obtain⟨a2,b2,hM2,hf2⟩:=hM.zigzag hn o_ hcnt hq hfl
         exact again (rotateS (rotateS ys i) i,c2,a2,b2) ⟨rfl,rfl,trivial⟩ (⟨a1,hM2,hf2,aZ,by have:=hM2.kl.len;omega⟩) (by simp only[zk,zq];omega)
 . skip
   have hon:=climb_on hat hout hC.2 N
   refine cl ent230 (side_is fb nb m ed xs y (g.at (i:=0) rfl) (g.at (i:=1) rfl) oa hb hI j o_ N) ?_
   rintro _ bw ⟨rfl,a3⟩
   have t:=yaa g a3
   refine pLL t 22 ?_
   refine ixa (o' := j*9+0) (i:=(j:Int)) rfl rfl rfl yk ti269 om o_ (fa (o' := j*9+2) rfl rfl yi rfl ti3 rfl (ld rfl rfl ye rfl (yx t (i:=1) rfl f_ om rfl) (pLQ t 3 ?_)))
   refine tN (?_)
   have a4:=yj [2,3,0,1] t
   exact again ((k+1),(ndA xs j).up,f) ⟨rfl,rfl,rfl,eqI (by first|rfl|omega),trivial⟩ (⟨by rw[<-natsI_snoc hC.2];exact a4,hon.2⟩) (by show (c.length+1-(k+1):Nat)<c.length+1-k;omega)
 . skip
   have hon:=climb_on hat hout hC.2 P
   refine cl ent230 (side_is fb nb m ed xs y (g.at (i:=0) rfl) (g.at (i:=1) rfl) oa hb hI j o_ P) ?_
   rintro _ bz ⟨rfl,a5⟩
   have u:=yaa g a5
   refine pLL u 22 ?_
   refine ixa (o' := j*9+0) (i:=(j:Int)) rfl rfl rfl yk ti269 om o_ (fa (o' := j*9+2) rfl rfl yi rfl ti3 rfl (ld rfl rfl ye rfl (yx u (i:=1) rfl f_ om rfl) (pLQ u 3 ?_)))
   refine tN (?_)
   have a6:=yj [2,3,0,1] u
   exact again ((k+1),(ndA xs j).up,f) ⟨rfl,rfl,rfl,eqI (by first|rfl|omega),trivial⟩ (⟨by rw[<-natsI_snoc hC.2];exact a6,hon.2⟩) (by show (c.length+1-(k+1):Nat)<c.length+1-k;omega)
end
section
open Go Go.Sx
theorem expose_ok(fb nb m:Nat)(ed:Int)(xs:List Nd)(w:World)(hO:Own (Zh fb nb m ed xs) w)(hm:xs.length=m)(hb:m<=1000001)(hI:InN xs)(F:FT)(hF:Fo xs F)(i:Nat)(hi:i≠0)(him:i<m) :
 CR ya 145 (Zn fb i) w (fun r w' => ∃ l:Nat,r = .int .i64 (l:Int)/\∃ ys a R,Exd xs F ys i a R/\InN ys/\Turn (Zh fb nb m ed xs) w w' (Zh fb nb m ed ys)):=by
 obtain⟨k0,hE0⟩:=Ex.init hF (i:=i) o_
 refine en Tryz.func145 Tryz.ntmps145 ?_
 have hst0:=(yz hO).unpack
 refine pPP hst0 18 ?_
 refine lp (α:=List Nd×Nat×Nat×Nat×FT×Tr) (fun(zs,below,j,k,R,B)=>[(0,(Zb fb)),(1,(Za i)),(5,(Za below)),(6,(Za j))]) (fun(zs,below,j,k,R,B) w1=>St [(w,(Zh fb nb m ed xs).foot)] (Zcs fb nb m ed zs) w1/\Ex xs F i zs below j k R B/\InN zs/\zs.length=m) (fun(zs,below,j,k,R,B)=>k) (xs,0,i,k0,F,.nil) ⟨rfl,rfl,eqI (by first|rfl|omega),eqI (by first|rfl|omega),trivial⟩ (⟨hst0,hE0,hI,hm⟩) ?_
 rintro⟨zs,below,j,k,R,B⟩ ac E ⟨hst6,hE,hIz,hlz⟩
 have hbm:below<m:=by have h7:=hE.rep.root_lt o_;rw[hE.root]at h7;omega
 have hjm:j<m:=by have h7:=hE.lt;omega
 refine pPL hst6 4 ?_
 by_cases S:((j:Int):Int)=(0:Int)
 . have hj1:j=0:=by omega
   refine pLL hst6 1 ?_
   subst hj1
   obtain⟨hg1,hg2,hg3,hg4,hg5,hgo⟩:=hE.fin hi
   have G:=yc [_,_] _ hst6
   refine pLL hst6 12 ?_
   refine cl ent201 (splay_ok fb nb m ed zs E (yd G (i:=0) rfl) (by first|exact hm|omega) hb hIz i 0 B hg1 hg2 hg3 hg4 hg5) ?_
   rintro _ ad ⟨rfl,u,H,U,I,J,V,ht⟩
   have K:=(yp G ht)
   have ae:u.length=m:=by have:=I.kl.len;omega
   refine pLQ K 9 ?_
   refine ret1 (v:=(Za below)) Tryz.results145 rfl ?_
   obtain⟨hb0,h1,h2,h3,h4,h5⟩:=hgo u H U I J
   subst hb0
   exact⟨below,rfl,u,H,R,⟨h1,J,h2,h3,h4,h5⟩,V,yq (yc [_,_] [] K)⟩
 . have hj0:j≠0:=fun h7=>S o_
   obtain⟨T,q,hg1,hg2,hg3,hg4,hg5,hgo⟩:=hE.go hj0
   have L:=yc [_,_] _ hst6
   refine pLL hst6 12 ?_
   refine cl ent201 (splay_ok fb nb m ed zs E (yd L (i:=0) rfl) (by first|exact hm|omega) hb hIz j q T hg1 hg2 hg3 hg4 hg5) ?_
   rintro _ af ⟨rfl,f,M,W,N,X,y,ht⟩
   have z:=(yp L ht)
   have ag:f.length=m:=by have:=N.kl.len;omega
   refine pLL z 9 ?_
   refine ixa (o' := j*9+0) (i:=(j:Int)) rfl rfl rfl yk ti269 (o9 (show j<(f).length from om)) o_ (pLP z 4 ?_)
   refine dr1 z 28 ?_ (hA:=by refine' dar 11 ?k0;case k0=>refine' dax (fun wq hM=>rv (ixArr_r (o:=j*9+0) (o' := j*9+1) (i:=1) rfl rfl yt ti3 d_ rfl)) ?k1;case k1=>refine' dar 1 ?k2;case k2=>refine' dax (fun wq hM=>rv (ixa_r (o' := ((ndA f j).k1)*9+0) (i:=((ndA f j).k1:Int)) rfl rfl yk ti269 (o9 (show ((ndA f j).k1)<(f).length from(o9 (y.k1 j om)))) o_)) ?k3;case k3=>refine' dar 1 ?k4;case k4=>refine' dax (fun wq hM=>rv (ld_r rfl ye rfl (yx hM (i:=1) rfl f_ (o9 (y.k1 j om)) rfl))) ?k5;case k5=>refine' dar 5 ?k6;case k6=>refine' dax (fun wq hM=>rv (ixa_r (o' := below*9+0) (i:=(below:Int)) rfl rfl yk ti269 (o9 (show below<(f).length from om)) o_)) ?k7;case k7=>refine' dar 2 ?k8;case k8=>refine' dax (fun wq hM=>rv (ar_r (e:=(IntKind.i64.wrap ((ndA f ((ndA f j).k1)).total-(ndA f below).total))) rfl rfl rfl rfl)) ?k9;case k9=>refine' dax (fun wq hM=>rv (ar_r (e:=(IntKind.i64.wrap ((ndA f j).light+(IntKind.i64.wrap ((ndA f ((ndA f j).k1)).total-(ndA f below).total))))) rfl rfl rfl rfl)) ?k10;case k10=>exact run2)
   intro wq hM
   refine m_sto (L' := [blk fb 265 (Zm fb nb m ed),blk nb 269 ((updA f j (fun x=>{ x with light:=(IntKind.i64.wrap ((ndA f j).light+(IntKind.i64.wrap ((ndA f ((ndA f j).k1)).total-(ndA f below).total)))) })).flatMap Nd.cells)]) 1 rfl rfl rfl rfl ti3 rfl rfl hM rfl (ble_of (rec_fit (cf:=Nd.cells) (sz:=9) (k:=j) (off:=7) (n:=1) f_ om (za rfl))) (rec_set (cf:=Nd.cells) (sz:=9) (k:=j) (off:=7) f_ om rfl (za rfl)) rfl (fun _ h=>(aft h (fun ah p=>?_)))
   have A:InN (updA f j (fun x=>{ x with light:=(IntKind.i64.wrap ((ndA f j).light+(IntKind.i64.wrap ((ndA f ((ndA f j).k1)).total-(ndA f below).total)))) })):=InN.upd y om (fun x a b c d e=>⟨a,b,c,d,e⟩)
   obtain⟨O,Y,ai,A,p⟩:=nam (m:=m) A p
   refine pQL tt none p 6 ?_
   refine fa (o' := j*9+0) rfl rfl yi rfl ti267 rfl (ixArr (o:=j*9+0) (o' := j*9+1) (i:=1) rfl rfl rfl yt ti3 d_ rfl (stoL (L' := [blk fb 265 (Zm fb nb m ed),blk nb 269 ((updA O j (fun x=>{ x with k1:=below })).flatMap Nd.cells)]) 1 rfl rfl rfl rfl ti3 rfl rfl p rfl (rec_fit (cf:=Nd.cells) (sz:=9) (k:=j) (off:=1) (n:=1) f_ om (za rfl)) (rec_set (cf:=Nd.cells) (sz:=9) (k:=j) (off:=1) f_ om rfl (za rfl)) rfl ?_))
   intro Z s aj
   have t:InN (updA O j (fun x=>{ x with k1:=below })):=InN.upd A om (fun x a b c d e=>⟨a,om,c,d,e⟩)
   obtain⟨P,aa,ak,t,s⟩:=nam (m:=m) t s
   have Q:=yc [_,_] _ s
   refine pLL s 6 ?_
   refine cl ent143 (refresh_ok fb nb m ed P Z (yd Q (i:=0) rfl) oa hb t j o_) ?_
   rintro _ al ⟨rfl,ht⟩
   have g:=(yp Q ht)
   have C:InN (refreshS P j):=InN.refresh t o_
   obtain⟨D,ab,am,C,g⟩:=nam (m:=m) C g
   refine pLL g 14 ?_
   refine ixa (o' := j*9+0) (i:=(j:Int)) rfl rfl rfl yk ti269 om o_ (fa (o' := j*9+2) rfl rfl yi rfl ti3 rfl (ld rfl rfl ye rfl (yx g (i:=1) rfl f_ om rfl) (pLQ g 2 ?_)))
   refine tN (?_)
   have e9:cutS f j below=D:=by rw[ab,aa,Y];rfl
   obtain⟨hup,hk9,k', R', hk,hE2⟩:=hgo f M W N X
   rw[e9]at hup hE2
   rw[<-hup]at hE2
   exact again (D,j,(ndA D j).up,k', R', (.nd M j B)) ⟨rfl,rfl,eqI (by first|rfl|omega),eqI (by first|rfl|omega),trivial⟩ (⟨g,hE2,C,o_⟩) (by subst hk;exact Nat.lt_succ_self _)
end
section
open Go Go.Sx
theorem valid_ok(fb nb m:Nat)(ed:Int)(w:World)(hf:(Zbc fb nb m ed).holds w)(hb:m<=1000001) :
 CR ya 199 (Zk fb) w (fun r w' => r = .bool true/\Chg [] w w'):=by
 refine en Tryz.func199 Tryz.ntmps199 ?_
 have hst0:=yaf w
 refine pPL hst0 8 ?_
 refine neP (a:=some ⟨fb,0,none⟩) (c:=true) rfl rfl rfl Tryz.underlying167 rfl (pLL hst0 6 ?_)
 refine eqPS (a:=⟨fb,0,none⟩) rfl rfl rfl Tryz.underlying167 ti265 (pLQ hst0 5 ?_)
 refine ret1 (v:=Zf) Tryz.results199 rfl ?_
 exact⟨rfl,hst0.chg s_⟩
theorem has_ok(fb nb m:Nat)(ed:Int)(w:World)(hf:(Zbc fb nb m ed).holds w)(hb:m<=1000001)(v:Nat)(hv:v+1<m) :
 CR ya 200 (Zn fb v) w (fun r w' => r = .bool true/\Chg [] w w'):=by
 refine en Tryz.func200 Tryz.ntmps200 ?_
 have hst0:=yaf w
 refine pPL hst0 8 ?_
 refine cl ent199 (valid_ok fb nb m ed w (St.roBlk hst0 s_ hf) hb) ?_
 rintro _ d ⟨rfl,b⟩
 have a:=yaa hst0 b
 refine pLL a 2 ?_
 refine cmp rfl rfl rfl (c_ge o_) (pLL a 7 ?_)
 refine lenS (m:=m) (c:=m) rfl rfl yk (pLL a 1 ?_)
 refine cmp rfl rfl rfl (c_lt o_) (pLQ a 5 ?_)
 refine ret1 (v:=Zf) Tryz.results200 rfl ?_
 exact⟨rfl,a.chg s_⟩
theorem check_ok(fb nb m:Nat)(ed:Int)(w:World)(hf:(Zbc fb nb m ed).holds w)(hb:m<=1000001)(v:Value)(vs:List Nat)(hv:Ints .i64 (fun _=>True) w v (natsI vs))(hlt:∀ x∈vs,x+1<m) :
 CR ya 144 #[(Zb fb),v] w (fun r w' => r = .int .i64 0/\Chg [] w w'):=by
 have hvl:(natsI vs).length=vs.length:=by simp[natsI]
 have hvl2:=hv.len
 refine en Tryz.func144 Tryz.ntmps144 ?_
 have hst0:=yaf w
 refine pPL hst0 9 ?_
 refine cl ent199 (valid_ok fb nb m ed w (St.roBlk hst0 s_ hf) hb) ?_
 rintro _ h ⟨rfl,c⟩
 have a:=yaa hst0 c
 refine pLL a 10 ?_
 refine lenI (v:=v) rfl rfl yh hv (pLP a 4 ?_)
 refine lp (α:=Nat) (fun k=>[(0,(Zb fb)),(10,v),(11,(Za ((natsI vs).length:Int))),(12,(Za k))]) (fun k w1=>St [(w,[])] [] w1/\k<=vs.length) (fun k=>vs.length-k) 0 ⟨rfl,rfl,rfl,eqI (by first|rfl|omega),trivial⟩ (⟨a,o_⟩) ?_
 rintro k j d ⟨hst7,hk7⟩
 refine pPL hst7 2 ?_
 by_cases l:((k:Int):Int)<(((natsI vs).length:Int):Int)
 . obtain⟨x,hx⟩:=get_some' (show k<vs.length by omega)
   refine pLL hst7 11 ?_
   refine ixI (i:=(k:Int)) (el:=(x:Int)) rfl rfl rfl yh ti3 (St.ints0 hst7 s_ hv) o_ (by rw[show ((k:Nat):Int).toNat=k by omega];simp[natsI,hx]) ?_
   intro n o e f p
   have q:=f.i64
   refine ld rfl rfl ye rfl e (pLL hst7 7 ?_)
   refine cl ent200 (has_ok fb nb m ed d (St.roBlk hst7 s_ hf) hb x (by first|omega|exact hlt _ (zg hx))) ?_
   rintro _ s ⟨rfl,g⟩
   have b:=yaa hst7 g
   refine pLQ b 11 ?_
   refine tN (?_)
   exact again (k+1) ⟨rfl,rfl,rfl,eqI (by first|rfl|omega),trivial⟩ (⟨b,o_⟩) (by show (vs.length-(k+1):Nat)<vs.length-k;omega)
 . refine pLQ hst7 16 ?_
   refine ret1 (v:=Zc) Tryz.results144 rfl ?_
   exact⟨rfl,hst7.chg s_⟩
theorem lead_ok(fb nb m:Nat)(ed:Int)(xs:List Nd)(w:World)(hO:Own (Zh fb nb m ed xs) w)(hm:xs.length=m)(hb:m<=1000001)(hI:InN xs)(F:FT)(hF:Fo xs F)(i:Nat)(hi:i≠0)(him:i<m) :
 CR ya 209 (Zn fb i) w (fun r w' => r = .tuple #[]/\∃ ys a R,Exd xs F ys i a R/\InN ys/\Turn (Zh fb nb m ed xs) w w' (Zh fb nb m ed (leadS ys i))):=by
 refine en Tryz.func209 Tryz.ntmps209 ?_
 have hst0:=(yz hO).unpack
 have g:=yc [_,_] _ hst0
 refine pPL hst0 4 ?_
 refine cl ent145 (expose_ok fb nb m ed xs w (yd g (i:=0) rfl) (by first|exact hm|omega) hb hI F hF i o_ o_) ?_
 rintro _ s ⟨l₁,rfl,f,p,q,h,j,ht⟩
 have l:=(yp g ht)
 have t:f.length=m:=by have:=h.len;omega
 refine pLL l 8 ?_
 refine ixa (o' := i*9+0) (i:=(i:Int)) rfl rfl rfl yk ti269 (o9 (show i<(f).length from om)) o_ (fa (o' := i*9+3) rfl rfl yi rfl ti4 rfl (stoL (L' := [blk fb 265 (Zm fb nb m ed),blk nb 269 ((updA f i (fun x=>{ x with flip:=true })).flatMap Nd.cells)]) 1 rfl rfl rfl rfl ti4 rfl rfl l rfl (rec_fit (cf:=Nd.cells) (sz:=9) (k:=i) (off:=3) (n:=1) f_ om (za rfl)) (rec_set (cf:=Nd.cells) (sz:=9) (k:=i) (off:=3) f_ om rfl (za rfl)) rfl ?_))
 intro u o v
 have y:InN (updA f i (fun x=>{ x with flip:=true })):=InN.upd j om (fun x a b c d e=>⟨a,b,c,d,e⟩)
 refine pLQ o 1 ?_
 refine end0 Tryz.results209 ?_
 have e9:leadS f i=updA f i (fun x=>{ x with flip:=true }):=rfl
 exact⟨rfl,f,p,q,h,j,yq (yc [_,_] [] o)⟩
theorem path_ok(fb nb m:Nat)(ed:Int)(xs:List Nd)(w:World)(hO:Own (Zh fb nb m ed xs) w)(hm:xs.length=m)(hb:m<=1000001)(hI:InN xs)(F:FT)(hF:Fo xs F)(i j:Nat)(hi:i≠0)(him:i<m)(hj:j≠0)(hjm:j<m) :
 CR ya 164 (Z1 fb i j) w (fun r w' => r = .tuple #[]/\∃ ys a R zs b R2,Exd xs F ys i a R/\Exd (leadS ys i) ((.nd a i .nil,0) :: R) zs j b R2/\InN zs/\Turn (Zh fb nb m ed xs) w w' (Zh fb nb m ed zs)):=by
 refine en Tryz.func164 Tryz.ntmps164 ?_
 have hst0:=(yz hO).unpack
 have e:=yc [_,_] _ hst0
 refine pPL hst0 4 ?_
 refine cl ent209 (lead_ok fb nb m ed xs w (yd e (i:=0) rfl) (by first|exact hm|omega) hb hI F hF i o_ o_) ?_
 rintro _ p ⟨rfl,c,f,g,d,q,ht⟩
 have h:=(yp e ht)
 have s:c.length=m:=by have:=d.len;omega
 have t:InN (leadS c i):=q.lead o_
 have y:(leadS c i).length=m:=(leadS_len _ _).trans s
 have k:=yc [_,_] _ h
 refine pLL h 5 ?_
 refine cl ent145 (expose_ok fb nb m ed (leadS c i) p (yd k (i:=0) rfl) (by first|exact hm|omega) hb t ((.nd f i .nil,0) :: g) d.led.fo j o_ o_) ?_
 rintro _ z ⟨l₁,rfl,l,u,v,n,x,ht⟩
 have o:=(yp k ht)
 have A:l.length=m:=by have:=n.len;omega
 refine pLQ o 1 ?_
 refine end0 Tryz.results164 ?_
 exact⟨rfl,c,f,g,l,u,v,d,n,x,yq (yc [_,_] [] o)⟩
end
section
open Go Go.Sx
theorem Connected_ok(fb nb m:Nat)(ed:Int)(xs:List Nd)(w:World)(hO:Own (Zh fb nb m ed xs) w)(hm:xs.length=m)(hb:m<=1000001)(hI:InN xs)(F:FT)(hF:Fo xs F)(a b:Nat)(ha:a+1<m)(hb2:b+1<m) :
 CR ya 163 (Z1 fb a b) w (fun r w' => ∃ B zs F2,r = .bool B/\(B=true↔Joined xs F (a+1) (b+1))/\Fo zs F2/\InN zs/\zs.length=m/\(∀ u v,Joined zs F2 u v↔Joined xs F u v)/\(∀ k,(ndA zs k).key=(ndA xs k).key)/\Turn (Zh fb nb m ed xs) w w' (Zh fb nb m ed zs)):=by
 refine en Tryz.func163 Tryz.ntmps163 ?_
 have hst0:=(yz hO).unpack
 refine pPL hst0 10 ?_
 refine cl ent200 (has_ok fb nb m ed w (hst0.at (i:=0) rfl) hb a o_) ?_
 rintro _ q ⟨rfl,s⟩
 have h:=yaa hst0 s
 refine pLL h 4 ?_
 refine cl ent200 (has_ok fb nb m ed q (h.at (i:=0) rfl) hb b o_) ?_
 rintro _ t ⟨rfl,x⟩
 have f:=yaa h x
 refine pLL f 12 ?_
 by_cases D:((a:Int):Int)=((b:Int):Int)
 . refine pLQ f 11 ?_
   refine ret1 (v:=Zf) Tryz.results163 rfl ?_
   have hab:a=b:=by omega
   subst hab
   exact⟨true,xs,F,rfl,⟨fun _=>hF.joined_self o_ o_,fun _=>rfl⟩,hF,hI,hm,fun _ _=>Iff.rfl,fun _=>rfl,yq (yc [_,_] _ f)⟩
 . have j:=yc [_,_] _ f
   refine pLL f 11 ?_
   refine cl ent145 (expose_ok fb nb m ed xs t (yd j (i:=0) rfl) (by first|exact hm|omega) hb hI F hF (a+1) o_ o_) ?_
   rintro _ y ⟨l₁,rfl,l,z,A,d,C,ht⟩
   have n:=(yp j ht)
   have E:l.length=m:=by have:=d.len;omega
   have o:=yc [_,_] _ n
   refine pLL n 7 ?_
   refine cl ent145 (expose_ok fb nb m ed l y (yd o (i:=0) rfl) (by first|exact hm|omega) hb C ((.nd z (a+1) .nil,0) :: A) d.fo (b+1) o_ o_) ?_
   rintro _ G ⟨l₂,rfl,g,H,I,c,p,ht⟩
   have e:=(yp o ht)
   have J:g.length=m:=by have:=c.len;omega
   refine pLL e 10 ?_
   refine ixa (o' := (a+1)*9+0) (i:=(a:Int)+1) rfl rfl rfl yk ti269 (o9 (show (a+1)<(g).length from om)) o_ (fa (o' := (a+1)*9+2) rfl rfl yi rfl ti3 rfl (ld rfl rfl ye rfl (yx e (i:=1) rfl f_ om rfl) ?_))
   by_cases K:(((ndA g (a+1)).up:Int):Int)=(0:Int)
   . refine pLQ e 5 ?_
     refine ret1 (v:=Zp) Tryz.results163 rfl ?_
     have hju:=joined_up d c (show a+1≠b+1 by omega)
     exact⟨false,g,_,rfl,⟨fun h9=>(by cases h9),fun h9=>absurd (hju.2 h9) o_⟩,c.fo,p,by have:=c.len;omega,fun u v=>(c.joined u v).trans (d.joined u v),fun k=>(c.key k).trans (d.key k),yq (yc [_,_] _ e)⟩
   . refine pLQ e 5 ?_
     refine ret1 (v:=Zf) Tryz.results163 rfl ?_
     have hju:=joined_up d c (show a+1≠b+1 by omega)
     exact⟨true,g,_,rfl,⟨fun _=>hju.1 o_,fun _=>rfl⟩,c.fo,p,by have:=c.len;omega,fun u v=>(c.joined u v).trans (d.joined u v),fun k=>(c.key k).trans (d.key k),yq (yc [_,_] _ e)⟩
theorem Set_ok(fb nb m:Nat)(ed:Int)(xs:List Nd)(w:World)(hO:Own (Zh fb nb m ed xs) w)(hm:xs.length=m)(hb:m<=1000001)(hI:InN xs)(F:FT)(hF:Fo xs F)(v:Nat)(hv:v+1<m)(key:Int)(hk:InK .i64 key) :
 CR ya 84 (Z1 fb v key) w (fun r w' => r = .int .i64 0/\∃ zs F2,Fo zs F2/\InN zs/\zs.length=m/\Turn (Zh fb nb m ed xs) w w' (Zh fb nb m ed zs)):=by
 refine en Tryz.func84 Tryz.ntmps84 ?_
 have hst0:=(yz hO).unpack
 refine pPL hst0 10 ?_
 refine bsv (vs:=(Zd v)) (cs:=(Zd v)) rfl rfl yh ti3 rfl (by simp[Value.cells]) rfl rfl rfl hst0 (fun l z H I g=>cl ent144 (check_ok fb nb m ed z (g.at (i:=1) rfl) hb (Zv l) [v] (ybm g (i:=0) rfl (natsI_in (m:=m) (P:=[v]) (by intro j hj;simp at hj;omega) hb)).any (by intro j hj;simp at hj;omega)) ?_)
 rintro _ A ⟨rfl,B⟩
 have o:=yaa g B
 have C:=yj [1,2,0] o
 have p:=yc [_,_] _ C
 refine pLL o 17 ?_
 refine cl ent145 (expose_ok fb nb m ed xs A (yd p (i:=0) rfl) (by first|exact hm|omega) hb hI F hF (v+1) o_ o_) ?_
 rintro _ J ⟨l₁,rfl,f,K,L,h,D,ht⟩
 have q:=(yp p ht)
 have M:f.length=m:=by have:=h.len;omega
 refine pLL q 11 ?_
 refine ixa (o' := (v+1)*9+0) (i:=(v:Int)+1) rfl rfl rfl yk ti269 (o9 (show (v+1)<(f).length from om)) o_ (fa (o' := (v+1)*9+4) rfl rfl yi rfl ti2 rfl (stoL (L' := [blk fb 265 (Zm fb nb m ed),blk nb 269 ((updA f (v+1) (fun x=>{ x with key:=key })).flatMap Nd.cells),rowI .i64 (Zv l) 3 ([(v:Int)])]) 1 rfl rfl rfl rfl ti2 rfl rfl q rfl (rec_fit (cf:=Nd.cells) (sz:=9) (k:=(v+1)) (off:=4) (n:=1) f_ om (za rfl)) (rec_set (cf:=Nd.cells) (sz:=9) (k:=(v+1)) (off:=4) f_ om rfl (za rfl)) rfl ?_))
 intro E s N
 have t:InN (updA f (v+1) (fun x=>{ x with key:=key })):=InN.upd D om (fun x a b c d e=>⟨a,b,c,d,hk⟩)
 have u:=yc [_,_] _ s
 refine pLL s 7 ?_
 refine cl ent143 (refresh_ok fb nb m ed (updA f (v+1) (fun x=>{ x with key:=key })) E (yd u (i:=0) rfl) oa hb t (v+1) om) ?_
 rintro _ O ⟨rfl,ht⟩
 have y:=(yp u ht)
 have G:InN (refreshS (updA f (v+1) (fun x=>{ x with key:=key })) (v+1)):=InN.refresh t om
 refine pLQ y 8 ?_
 refine ret1 (v:=Zc) Tryz.results84 rfl ?_
 have e9:setS f (v+1) key=refreshS (updA f (v+1) (fun x=>{ x with key:=key })) (v+1):=rfl
 have h9:=set_spec (c:=key) h.fo
 exact⟨rfl,refreshS (updA f (v+1) (fun x=>{ x with key:=key })) (v+1),_,h9.1,G,by rw[<-e9,h9.2.1];have:=h.len;omega,yq (yc [_,_] _ y)⟩
theorem Dist_ok(fb nb m:Nat)(ed:Int)(xs:List Nd)(w:World)(hO:Own (Zh fb nb m ed xs) w)(hm:xs.length=m)(hb:m<=1000001)(hI:InN xs)(F:FT)(hF:Fo xs F)(a b:Nat)(ha:a+1<m)(hb2:b+1<m) :
 CR ya 205 (Z1 fb a b) w (fun r w' => ∃ d zs F2,r = .int .i64 d/\Fo zs F2/\InN zs/\zs.length=m/\(d=1->∃ b' R,F2=(.nd b' (b+1) .nil,0) :: R/\sqn zs false (.nd b' (b+1) .nil)=[a+1,b+1])/\Turn (Zh fb nb m ed xs) w w' (Zh fb nb m ed zs)):=by
 refine en Tryz.func205 Tryz.ntmps205 ?_
 have hst0:=(yz hO).unpack
 have k:=yc [_,_] _ hst0
 refine pPL hst0 11 ?_
 refine cl ent163 (Connected_ok fb nb m ed xs w (yd k (i:=0) rfl) (by first|exact hm|omega) hb hI F hF a b o_ o_) ?_
 rintro _ s ⟨t,l,F2₁,rfl,u,h,n,x,y,B,ht⟩
 have f:=(yp k ht)
 refine pLP f 3 ?_
 cases o:(t:Bool)
 . skip
   subst o
   refine pPQ f 8 ?_
   refine ret1 (v:=Zw) Tryz.results205 rfl ?_
   exact⟨-1,l,_,rfl,h,n,x,fun h9=>absurd h9 d_,yq (yc [_,_] _ f)⟩
 . skip
   subst o
   have p:=yc [_,_] _ f
   refine pPL f 10 ?_
   refine cl ent164 (path_ok fb nb m ed l s (yd p (i:=0) rfl) (by first|exact hm|omega) hb n F2₁ h (a+1) (b+1) o_ o_ o_ o_) ?_
   rintro _ C ⟨rfl,D,E,G,c,q,z,j,e,A,ht⟩
   have g:=(yp p ht)
   have H:c.length=m:=by have h7:=e.len;have h8:=j.len;rw[leadS_len]at h7;omega
   have hb9:0<=(ndA c (b+1)).size/\(ndA c (b+1)).size<=1000000:=by have h7:=(e.fo.rep (.nd q (b+1) .nil,0) s_).2.2.1.size;have h8:=e.fo.count;simp only[Tr.mem]at h7 h8;rw[h7];omega
   refine pLL g 10 ?_
   refine ixa (o' := (b+1)*9+0) (i:=(b:Int)+1) rfl rfl rfl yk ti269 (o9 (show (b+1)<(c).length from om)) o_ (fa (o' := (b+1)*9+5) rfl rfl yi rfl ti3 rfl (ld rfl rfl ye rfl (yx g (i:=1) rfl f_ om rfl) (pLQ g 5 ?_)))
   refine ret1 (v:=(Za (((ndA c (b+1)).size)-1))) Tryz.results205 rfl ?_
   have hJ9:=(y (a+1) (b+1)).2 (u.1 rfl)
   have hd9:=fun hs=>dist_two h hJ9 j e hs
   skip
   exact⟨(ndA c (b+1)).size-1,c,_,rfl,e.fo,A,by have h7:=e.len;have h8:=j.len;rw[leadS_len]at h7;omega,fun h9=>⟨q,z,rfl,hd9 o_⟩,yq (yc [_,_] _ g)⟩
theorem Min_ok(fb nb m:Nat)(ed:Int)(xs:List Nd)(w:World)(hO:Own (Zh fb nb m ed xs) w)(hm:xs.length=m)(hb:m<=1000001)(hI:InN xs)(F:FT)(hF:Fo xs F)(a b:Nat)(ha:a+1<m)(hb2:b+1<m) :
 CR ya 112 (Z1 fb a b) w (fun r w' => ∃ (f:Nat) (B:Bool),∃ zs F2,r = .tuple (Zaq f B)/\f+1<m/\Fo zs F2/\InN zs/\zs.length=m/\Turn (Zh fb nb m ed xs) w w' (Zh fb nb m ed zs)):=by
 refine en Tryz.func112 Tryz.ntmps112 ?_
 have hst0:=(yz hO).unpack
 have h:=yc [_,_] _ hst0
 refine pPL hst0 12 ?_
 refine cl ent163 (Connected_ok fb nb m ed xs w (yd h (i:=0) rfl) (by first|exact hm|omega) hb hI F hF a b o_ o_) ?_
 rintro _ s ⟨t,j,F2₁,rfl,y,k,l,u,z,A,ht⟩
 have d:=(yp h ht)
 refine pLP d 3 ?_
 cases n:(t:Bool)
 . skip
   subst n
   refine pPQ d 9 ?_
   refine ret2 (v:=Zc) (v' := Zp) Tryz.results112 rfl rfl ?_
   exact⟨0,false,j,_,rfl,o_,k,l,u,yq (yc [_,_] _ d)⟩
 . skip
   subst n
   have o:=yc [_,_] _ d
   refine pPL d 10 ?_
   refine cl ent164 (path_ok fb nb m ed j s (yd o (i:=0) rfl) (by first|exact hm|omega) hb l F2₁ k (a+1) (b+1) o_ o_ o_ o_) ?_
   rintro _ C ⟨rfl,D,E,G,c,x,H,p,e,q,ht⟩
   have g:=(yp o ht)
   have I:c.length=m:=by have h7:=e.len;have h8:=p.len;rw[leadS_len]at h7;omega
   have hb9:(ndA c (b+1)).first≠0/\(ndA c (b+1)).first<m:=by have h7:=e.fo.rep (.nd x (b+1) .nil,0) s_;have h8:=h7.mem_ok _ h7.2.2.1.first.1;have h9:=q.first (b+1) o_;omega
   refine pLL g 10 ?_
   refine ixa (o' := (b+1)*9+0) (i:=(b:Int)+1) rfl rfl rfl yk ti269 (o9 (show (b+1)<(c).length from om)) o_ (fa (o' := (b+1)*9+6) rfl rfl yi rfl ti3 rfl (ld rfl rfl ye rfl (yx g (i:=1) rfl f_ om rfl) (pLQ g 6 ?_)))
   refine ret2 (v:=(Za (((ndA c (b+1)).first:Int)-1))) (v' := Zf) Tryz.results112 rfl rfl ?_
   exact⟨(ndA c (b+1)).first-1,true,c,_,by rw[show (((ndA c (b+1)).first-1:Nat):Int)=((ndA c (b+1)).first:Int)-1 by omega],o_,e.fo,q,by have h7:=e.len;have h8:=p.len;rw[leadS_len]at h7;omega,yq (yc [_,_] _ g)⟩
theorem Link_ok(fb nb m:Nat)(ed:Int)(xs:List Nd)(w:World)(hO:Own (Zh fb nb m ed xs) w)(hm:xs.length=m)(hb:m<=1000001)(hI:InN xs)(F:FT)(hF:Fo xs F)(a b:Nat)(ha:a+1<m)(hb2:b+1<m) :
 CR ya 165 (Z1 fb a b) w (fun r w' => ∃ e ed', ∃ zs F2,r = .int .i64 e/\Fo zs F2/\InN zs/\zs.length=m/\Turn (Zh fb nb m ed xs) w w' (Zh fb nb m ed' zs)):=by
 refine en Tryz.func165 Tryz.ntmps165 ?_
 have hst0:=(yz hO).unpack
 refine pPL hst0 11 ?_
 refine bsv (vs:=(Zi a b)) (cs:=(Zi a b)) rfl rfl yh ti3 rfl (by simp[Value.cells]) rfl rfl rfl hst0 (fun s M aj ak t=>cl ent144 (check_ok fb nb m ed M (t.at (i:=1) rfl) hb (Zas s) [a,b] (ybm t (i:=0) rfl (natsI_in (m:=m) (P:=[a,b]) (by intro j hj;simp at hj;omega) hb)).any (by intro j hj;simp at hj;omega)) ?_)
 rintro _ N ⟨rfl,O⟩
 have g:=yaa t O
 refine pLL g 17 ?_
 by_cases al:((a:Int):Int)=((b:Int):Int)
 . refine pLQ g 11 ?_
   refine ret1 (v:=(.int .i64 9)) Tryz.results165 rfl ?_
   have Q:=yj [1,2,0] g
   exact⟨_,ed,xs,F,rfl,hF,hI,hm,yq (yc [_,_] _ Q)⟩
 . skip
   have R:=yj [1,2,0] g
   have z:=yc [_,_] _ R
   refine pLL g 12 ?_
   refine cl ent163 (Connected_ok fb nb m ed xs N (yd z (i:=0) rfl) (by first|exact hm|omega) hb hI F hF a b o_ o_) ?_
   rintro _ S ⟨U,u,F2₁,rfl,V,y,A,W,X,am,ht⟩
   have l:=(yp z ht)
   refine pLP l 2 ?_
   cases B:(U:Bool)
   . skip
     subst B
     have C:=yc [_,_] _ l
     refine pPL l 8 ?_
     refine cl ent209 (lead_ok fb nb m ed u S (yd C (i:=0) rfl) (by first|exact hm|omega) hb A F2₁ y (a+1) o_ o_) ?_
     rintro _ Y ⟨rfl,o,Z,aa,p,ab,ht⟩
     have D:=(yp C ht)
     have ac:o.length=m:=by have:=p.len;omega
     have ad:InN (leadS o (a+1)):=ab.lead o_
     have an:(leadS o (a+1)).length=m:=(leadS_len _ _).trans ac
     have E:=yc [_,_] _ D
     refine pLL D 7 ?_
     refine cl ent145 (expose_ok fb nb m ed (leadS o (a+1)) Y (yd E (i:=0) rfl) (by first|exact hm|omega) hb ad ((.nd Z (a+1) .nil,0) :: aa) p.led.fo (b+1) o_ o_) ?_
     rintro _ ao ⟨l₁,rfl,f,ap,aq,q,ae,ht⟩
     have G:=(yp E ht)
     have au:f.length=m:=by have:=q.len;omega
     refine pLL G 12 ?_
     refine ixa (o' := (a+1)*9+0) (i:=(a:Int)+1) rfl rfl rfl yk ti269 (o9 (show (a+1)<(f).length from om)) o_ (fa (o' := (a+1)*9+2) rfl rfl yi rfl ti3 rfl (stoL (L' := [blk fb 265 (Zm fb nb m ed),blk nb 269 ((updA f (a+1) (fun x=>{ x with up:=(b+1) })).flatMap Nd.cells),rowI .i64 (Zas s) 3 ([(a:Int),(b:Int)])]) 1 rfl rfl rfl rfl ti3 rfl rfl G rfl (rec_fit (cf:=Nd.cells) (sz:=9) (k:=(a+1)) (off:=2) (n:=1) f_ om (za rfl)) (rec_set (cf:=Nd.cells) (sz:=9) (k:=(a+1)) (off:=2) f_ om rfl (za rfl)) rfl ?_))
     intro av H aw
     have af:InN (updA f (a+1) (fun x=>{ x with up:=(b+1) })):=InN.upd ae om (fun x a b c d e=>⟨a,b,om,d,e⟩)
     refine pLP H 3 ?_
     refine dr1 H 21 ?_ (hA:=by refine' dar 6 ?k0;case k0=>refine' dax (fun wq hM=>rv (ixa_r (o' := (b+1)*9+0) (i:=(b:Int)+1) rfl rfl yk ti269 (o9 (show (b+1)<(updA f (a+1) (fun x=>{ x with up:=(b+1) })).length from om)) o_)) ?k1;case k1=>refine' dar 8 ?k2;case k2=>refine' dax (fun wq hM=>rv (ixa_r (o' := (a+1)*9+0) (i:=(a:Int)+1) rfl rfl yk ti269 (o9 (show (a+1)<(updA f (a+1) (fun x=>{ x with up:=(b+1) })).length from om)) o_)) ?k3;case k3=>refine' dar 2 ?k4;case k4=>refine' dax (fun wq hM=>rv (ar_r (e:=(IntKind.i64.wrap ((ndA (updA f (a+1) (fun x=>{ x with up:=(b+1) })) (b+1)).light+(ndA (updA f (a+1) (fun x=>{ x with up:=(b+1) })) (a+1)).total))) rfl rfl rfl rfl)) ?k5;case k5=>refine' dax (fun wq hM=>rv (ixa_r (o' := (b+1)*9+0) (i:=(b:Int)+1) rfl rfl yk ti269 (o9 (show (b+1)<(updA f (a+1) (fun x=>{ x with up:=(b+1) })).length from om)) o_)) ?k6;case k6=>exact run2)
     intro wq hM
     refine m_sto (L' := [blk fb 265 (Zm fb nb m ed),blk nb 269 ((updA (updA f (a+1) (fun x=>{ x with up:=(b+1) })) (b+1) (fun x=>{ x with light:=(IntKind.i64.wrap ((ndA (updA f (a+1) (fun x=>{ x with up:=(b+1) })) (b+1)).light+(ndA (updA f (a+1) (fun x=>{ x with up:=(b+1) })) (a+1)).total)) })).flatMap Nd.cells),rowI .i64 (Zas s) 3 ([(a:Int),(b:Int)])]) 1 rfl rfl rfl rfl ti3 rfl rfl hM rfl (ble_of (rec_fit (cf:=Nd.cells) (sz:=9) (k:=(b+1)) (off:=7) (n:=1) f_ om (za rfl))) (rec_set (cf:=Nd.cells) (sz:=9) (k:=(b+1)) (off:=7) f_ om rfl (za rfl)) rfl (fun _ h=>(aft h (fun ag I=>?_)))
     have J:InN (updA (updA f (a+1) (fun x=>{ x with up:=(b+1) })) (b+1) (fun x=>{ x with light:=(IntKind.i64.wrap ((ndA (updA f (a+1) (fun x=>{ x with up:=(b+1) })) (b+1)).light+(ndA (updA f (a+1) (fun x=>{ x with up:=(b+1) })) (a+1)).total)) })):=InN.upd af om (fun x a b c d e=>⟨a,b,c,d,e⟩)
     have K:=yc [_,_] _ I
     refine pQL tt none I 6 ?_
     refine cl ent143 (refresh_ok fb nb m ed (updA (updA f (a+1) (fun x=>{ x with up:=(b+1) })) (b+1) (fun x=>{ x with light:=(IntKind.i64.wrap ((ndA (updA f (a+1) (fun x=>{ x with up:=(b+1) })) (b+1)).light+(ndA (updA f (a+1) (fun x=>{ x with up:=(b+1) })) (a+1)).total)) })) ag (yd K (i:=0) rfl) oa hb J (b+1) om) ?_
     rintro _ ax ⟨rfl,ht⟩
     have L:=(yp K ht)
     have ah:InN (refreshS (updA (updA f (a+1) (fun x=>{ x with up:=(b+1) })) (b+1) (fun x=>{ x with light:=(IntKind.i64.wrap ((ndA (updA f (a+1) (fun x=>{ x with up:=(b+1) })) (b+1)).light+(ndA (updA f (a+1) (fun x=>{ x with up:=(b+1) })) (a+1)).total)) })) (b+1)):=InN.refresh J om
     refine pLL L 8 ?_
     refine ar (e:=(IntKind.i64.wrap (ed+1))) rfl rfl rfl rfl rfl (sLQ L 11 fun ay ai=>?_)
     refine ret1 (v:=Zc) Tryz.results165 rfl ?_
     have hnJ:¬ Joined u F2₁ (a+1) (b+1):=fun h9=>by have h8:=V.2 ((X _ _).1 h9);cases h8
     obtain⟨R3,hR3⟩:=link_pre y p q hnJ o_ o_ o_ o_
     have hk9:=link_spec (q.fo.perm (hR3.cons _))
     have e9:linkS f (a+1) (b+1)=refreshS (updA (updA f (a+1) (fun x=>{ x with up:=(b+1) })) (b+1) (fun x=>{ x with light:=(IntKind.i64.wrap ((ndA (updA f (a+1) (fun x=>{ x with up:=(b+1) })) (b+1)).light+(ndA (updA f (a+1) (fun x=>{ x with up:=(b+1) })) (a+1)).total)) })) (b+1):=rfl
     exact⟨_,_,refreshS (updA (updA f (a+1) (fun x=>{ x with up:=(b+1) })) (b+1) (fun x=>{ x with light:=(IntKind.i64.wrap ((ndA (updA f (a+1) (fun x=>{ x with up:=(b+1) })) (b+1)).light+(ndA (updA f (a+1) (fun x=>{ x with up:=(b+1) })) (a+1)).total)) })) (b+1),_,rfl,hk9.1,ah,by rw[<-e9,hk9.2.1];have h7:=q.len;have h8:=p.len;rw[leadS_len]at h7;omega,yq (yc [_,_] _ ai)⟩
   . skip
     subst B
     refine pPQ l 8 ?_
     refine ret1 (v:=(.int .i64 6)) Tryz.results165 rfl ?_
     exact⟨_,ed,u,_,rfl,y,A,W,yq (yc [_,_] _ l)⟩
theorem Cut_ok(fb nb m:Nat)(ed:Int)(xs:List Nd)(w:World)(hO:Own (Zh fb nb m ed xs) w)(hm:xs.length=m)(hb:m<=1000001)(hI:InN xs)(F:FT)(hF:Fo xs F)(a b:Nat)(ha:a+1<m)(hb2:b+1<m) :
 CR ya 155 (Z1 fb a b) w (fun r w' => ∃ e ed', ∃ zs F2,r = .int .i64 e/\Fo zs F2/\InN zs/\zs.length=m/\Turn (Zh fb nb m ed xs) w w' (Zh fb nb m ed' zs)):=by
 refine en Tryz.func155 Tryz.ntmps155 ?_
 have hst0:=(yz hO).unpack
 refine pPL hst0 11 ?_
 refine bsv (vs:=(Zi a b)) (cs:=(Zi a b)) rfl rfl yh ti3 rfl (by simp[Value.cells]) rfl rfl rfl hst0 (fun l I X Y p=>cl ent144 (check_ok fb nb m ed I (p.at (i:=1) rfl) hb (Zas l) [a,b] (ybm p (i:=0) rfl (natsI_in (m:=m) (P:=[a,b]) (by intro j hj;simp at hj;omega) hb)).any (by intro j hj;simp at hj;omega)) ?_)
 rintro _ J ⟨rfl,K⟩
 have t:=yaa p K
 have L:=yj [1,2,0] t
 have u:=yc [_,_] _ L
 refine pLL t 18 ?_
 refine cl ent205 (Dist_ok fb nb m ed xs J (yd u (i:=0) rfl) (by first|exact hm|omega) hb hI F hF a b o_ o_) ?_
 rintro _ M ⟨N,y,F2₁,rfl,q,z,O,Q,ht⟩
 have g:=(yp u ht)
 by_cases Z:(N:Int)=(1:Int)
 . have A:=yc [_,_] _ g
   refine pLL g 13 ?_
   refine cl ent164 (path_ok fb nb m ed y M (yd A (i:=0) rfl) (by first|exact hm|omega) hb z F2₁ q (a+1) (b+1) o_ o_ o_ o_) ?_
   rintro _ aa ⟨rfl,ab,ac,ad,f,ae,af,s,h,R,ht⟩
   have B:=(yp A ht)
   have ag:f.length=m:=by have h7:=h.len;have h8:=s.len;rw[leadS_len]at h7;omega
   refine pLL B 10 ?_
   refine ixa (o' := (a+1)*9+0) (i:=(a:Int)+1) rfl rfl rfl yk ti269 (o9 (show (a+1)<(f).length from om)) o_ (fa (o' := (a+1)*9+2) rfl rfl yi rfl ti3 rfl (stoL (L' := [blk fb 265 (Zm fb nb m ed),blk nb 269 ((updA f (a+1) (fun x=>{ x with up:=0 })).flatMap Nd.cells),rowI .i64 (Zas l) 3 ([(a:Int),(b:Int)])]) 1 rfl rfl rfl rfl ti3 rfl rfl B rfl (rec_fit (cf:=Nd.cells) (sz:=9) (k:=(a+1)) (off:=2) (n:=1) f_ om (za rfl)) (rec_set (cf:=Nd.cells) (sz:=9) (k:=(a+1)) (off:=2) f_ om rfl (za rfl)) rfl ?_))
   intro ah C ai
   have S:InN (updA f (a+1) (fun x=>{ x with up:=0 })):=InN.upd R om (fun x a b c d e=>⟨a,b,om,d,e⟩)
   refine pLL C 10 ?_
   refine ixa (o' := (b+1)*9+0) (i:=(b:Int)+1) rfl rfl rfl yk ti269 (o9 (show (b+1)<(updA f (a+1) (fun x=>{ x with up:=0 })).length from om)) o_ (fa (o' := (b+1)*9+0) rfl rfl yi rfl ti267 rfl (ixArr (o:=(b+1)*9+0) (o' := (b+1)*9+0) (i:=0) rfl rfl rfl yt ti3 d_ rfl (stoL (L' := [blk fb 265 (Zm fb nb m ed),blk nb 269 ((updA (updA f (a+1) (fun x=>{ x with up:=0 })) (b+1) (fun x=>{ x with k0:=0 })).flatMap Nd.cells),rowI .i64 (Zas l) 3 ([(a:Int),(b:Int)])]) 1 rfl rfl rfl rfl ti3 rfl rfl C rfl (rec_fit (cf:=Nd.cells) (sz:=9) (k:=(b+1)) (off:=0) (n:=1) f_ om (za rfl)) (rec_set (cf:=Nd.cells) (sz:=9) (k:=(b+1)) (off:=0) f_ om rfl (za rfl)) rfl ?_)))
   intro U D aj
   have E:InN (updA (updA f (a+1) (fun x=>{ x with up:=0 })) (b+1) (fun x=>{ x with k0:=0 })):=InN.upd S om (fun x a b c d e=>⟨om,b,c,d,e⟩)
   have G:=yc [_,_] _ D
   refine pLL D 7 ?_
   refine cl ent143 (refresh_ok fb nb m ed (updA (updA f (a+1) (fun x=>{ x with up:=0 })) (b+1) (fun x=>{ x with k0:=0 })) U (yd G (i:=0) rfl) oa hb E (b+1) om) ?_
   rintro _ ak ⟨rfl,ht⟩
   have H:=(yp G ht)
   have V:InN (refreshS (updA (updA f (a+1) (fun x=>{ x with up:=0 })) (b+1) (fun x=>{ x with k0:=0 })) (b+1)):=InN.refresh E om
   refine pLL H 8 ?_
   refine ar (e:=(IntKind.i64.wrap (ed-1))) rfl rfl rfl rfl rfl (sLQ H 11 fun al W=>?_)
   refine ret1 (v:=Zc) Tryz.results155 rfl ?_
   obtain⟨b9,R9,hF9,hs9⟩:=Q o_
   subst hF9
   obtain⟨hb9,ha9⟩:=path_two q hs9 s h
   have hf9:=h.fo
   rw[hb9]at hf9
   have hu9:=unlink_spec hf9
   have e9:unlinkS f (a+1) (b+1)=refreshS (updA (updA f (a+1) (fun x=>{ x with up:=0 })) (b+1) (fun x=>{ x with k0:=0 })) (b+1):=rfl
   exact⟨_,_,refreshS (updA (updA f (a+1) (fun x=>{ x with up:=0 })) (b+1) (fun x=>{ x with k0:=0 })) (b+1),_,rfl,hu9.1,V,by rw[<-e9,hu9.2.1];have h7:=h.len;have h8:=s.len;rw[leadS_len]at h7;omega,yq (yc [_,_] _ W)⟩
 . refine pLQ g 11 ?_
   refine ret1 (v:=Zaw) Tryz.results155 rfl ?_
   exact⟨_,ed,y,_,rfl,q,z,O,yq (yc [_,_] _ g)⟩
end
section
open Go Go.Sx
theorem lctNew_ok(n:Nat)(w:World)(hn:n<=65536) :
 CR ya 83 (Zai n) w (fun r w' => ∃ fb nb,r = .tuple (Zae fb)/\Turn (allR []) w w' (allR (Zd5 fb nb (n+1) (newS n n)))):=by
 refine en Tryz.func83 Tryz.ntmps83 ?_
 have hst0:=yaf w
 refine pPL hst0 10 ?_
 refine cmp rfl rfl rfl (c_nlt o_) (pLL hst0 2 ?_)
 refine cmp rfl rfl rfl (c_ngt o_) (pLL hst0 10 ?_)
 refine mksB (cf:=Nd.cells) (z0:=nd0) (m:=n+1) (c:=n+1) rfl (eqI o_) (eqI o_) yk ti269 rfl f_ d_ (zp _) o_ o_ hst0 ?_
 intro a f p q g
 have h:St [(w,[])] [blk a 269 ((newS n 0).flatMap Nd.cells)] f:=by rw[newS_zero];exact g
 refine bld (pvs:=[(1,(Zu a (n+1)))]) (v:=.agg (Zdv a (n+1))) rfl rfl (buildS [(1,(Zcd a (n+1)))] ti265 pl265 rfl ⟨rfl,rfl,trivial⟩ rfl) (bx (v:=(.agg (Zdv a (n+1)))) (cs:=[Z6,(Zu a (n+1)),Zc]) rfl rfl rfl h (fun b s t u j=>sLP j 20 fun x l=>?_))
 refine lp (α:=Nat) (fun k=>[(4,(Zb b)),(21,(Za n)),(22,(Za k))]) (fun k w1=>St [(w,[])] (Zd5 b a (n+1) (newS n k)) w1/\k<=n) (fun k=>n-k) 0 ⟨rfl,rfl,eqI (by first|rfl|omega),trivial⟩ (⟨l,o_⟩) ?_
 rintro k y o ⟨hst9,hk9⟩
 refine pPL hst9 2 ?_
 by_cases z:((k:Int):Int)<((n:Int):Int)
 . have d:=yc [_,_] [] hst9
   refine pLL hst9 19 ?_
   refine cl ent143 (refresh_ok b a (n+1) 0 (newS n k) o (yd d (i:=0) rfl) (newS_len n k) o_ (newS_in o_) (k+1) o_) ?_
   rintro _ A ⟨rfl,ht⟩
   rw[newS_next (show k<n by omega)]at ht
   have e:=(yp d ht)
   refine pLQ e 7 ?_
   refine tN (?_)
   exact again (k+1) ⟨rfl,rfl,eqI (by first|rfl|omega),trivial⟩ (⟨e,o_⟩) (by show (n-(k+1):Nat)<n-k;omega)
 . refine pLQ hst9 18 ?_
   refine ret2 (v:=(Zb b)) (v' := Zc) Tryz.results83 rfl rfl ?_
   obtain rfl:k=n:=by omega
   exact⟨b,a,rfl,St.eM (yc [_,_] [] hst9)⟩
end
section
open Go Go.Sx
def lctR(fb nb m:Nat):Res where
 foot:=[fb,nb]
 holds w:=∃ (ed:Int) (xs:List Nd) (F:FT),(xs.length=m/\InN xs/\Fo xs F)/\(Zh fb nb m ed xs).holds w
 loc w w' h hh:=by
  obtain⟨ed,xs,F,h1,h2⟩:=hh
  exact⟨ed,xs,F,h1,(Zh fb nb m ed xs).loc w w' (fun b hb=>h b (by simpa[allR,feet,blk]using hb)) h2⟩
theorem lctR_foot(fb nb m:Nat)(ed:Int)(xs:List Nd):(Zh fb nb m ed xs).foot=(lctR fb nb m).foot:=by simp[allR,feet,blk,lctR]
theorem own_lct{fb nb m:Nat}{w:World}(h:Own (lctR fb nb m) w):∃ (ed:Int) (xs:List Nd) (F:FT),xs.length=m/\InN xs/\Fo xs F/\Own (Zh fb nb m ed xs) w:=by
 obtain⟨ed,xs,F,⟨h1,h2,h3⟩,h4⟩:=h.holds
 exact⟨ed,xs,F,h1,h2,h3,h4,by rw[lctR_foot];exact h.nodup,fun b hb=>h.lt b (by rw[lctR_foot]at hb;exact hb)⟩
theorem turn_lct{fb nb m:Nat}{w w' : World}{ed ed' : Int}{xs zs:List Nd}{F:FT}(h:Turn (Zh fb nb m ed xs) w w' (Zh fb nb m ed' zs))(h1:zs.length=m)(h2:InN zs)(h3:Fo zs F):Turn (lctR fb nb m) w w' (lctR fb nb m) :=
 ⟨⟨ed', zs,F,⟨h1,h2,h3⟩,h.holds⟩,by have:=h.chg;rw[lctR_foot]at this;exact this,fun b hb=>by have:=h.place b (by rw[lctR_foot];exact hb);rw[lctR_foot]at this;exact this,by have:=h.nodup;rw[lctR_foot]at this;exact this,fun b hb=>h.lt b (by rw[lctR_foot];exact hb)⟩
theorem turn_lctMade{fb nb m:Nat}{w w' : World}{ed:Int}{xs:List Nd}{F:FT}(h:Turn (allR []) w w' (Zh fb nb m ed xs))(h1:xs.length=m)(h2:InN xs)(h3:Fo xs F):Turn (allR []) w w' (lctR fb nb m) :=
 h.mapR (lctR_foot fb nb m ed xs).symm fun hh=>⟨ed,xs,F,⟨h1,h2,h3⟩,hh⟩
theorem lset_ok(fb nb m:Nat)(w:World)(hO:Own (lctR fb nb m) w)(hb:m<=1000001)(a:Nat)(ha:a+1<m)(key:Int)(hk:InK .i64 key) :
 CR ya 84 (Z1 fb a key) w (fun r w' => r = .int .i64 0/\Turn (lctR fb nb m) w w' (lctR fb nb m)):=by
 obtain⟨ed,xs,F,h1,h2,h3,hO2⟩:=own_lct hO
 exact CR.mono (Set_ok fb nb m ed xs w hO2 h1 hb h2 F h3 a ha key hk) fun r w' ⟨e,zs,F2,h4,h5,h6,ht⟩=>⟨e,turn_lct ht h6 h5 h4⟩
theorem lmin_ok(fb nb m:Nat)(w:World)(hO:Own (lctR fb nb m) w)(hb:m<=1000001)(a b:Nat)(ha:a+1<m)(hb2:b+1<m) :
 CR ya 112 (Z1 fb a b) w (fun r w' => ∃ (f:Nat) (B:Bool),r = .tuple (Zaq f B)/\f+1<m/\Turn (lctR fb nb m) w w' (lctR fb nb m)):=by
 obtain⟨ed,xs,F,h1,h2,h3,hO2⟩:=own_lct hO
 exact CR.mono (Min_ok fb nb m ed xs w hO2 h1 hb h2 F h3 a b ha hb2) fun r w' ⟨f,B,zs,F2,e,hf,h4,h5,h6,ht⟩=>⟨f,B,e,hf,turn_lct ht h6 h5 h4⟩
theorem llink_ok(fb nb m:Nat)(w:World)(hO:Own (lctR fb nb m) w)(hb:m<=1000001)(a b:Nat)(ha:a+1<m)(hb2:b+1<m) :
 CR ya 165 (Z1 fb a b) w (fun r w' => ∃ e:Int,r = .int .i64 e/\Turn (lctR fb nb m) w w' (lctR fb nb m)):=by
 obtain⟨ed,xs,F,h1,h2,h3,hO2⟩:=own_lct hO
 exact CR.mono (Link_ok fb nb m ed xs w hO2 h1 hb h2 F h3 a b ha hb2) fun r w' ⟨e,ed', zs,F2,he,h4,h5,h6,ht⟩=>⟨e,he,turn_lct ht h6 h5 h4⟩
theorem lcut_ok(fb nb m:Nat)(w:World)(hO:Own (lctR fb nb m) w)(hb:m<=1000001)(a b:Nat)(ha:a+1<m)(hb2:b+1<m) :
 CR ya 155 (Z1 fb a b) w (fun r w' => ∃ e:Int,r = .int .i64 e/\Turn (lctR fb nb m) w w' (lctR fb nb m)):=by
 obtain⟨ed,xs,F,h1,h2,h3,hO2⟩:=own_lct hO
 exact CR.mono (Cut_ok fb nb m ed xs w hO2 h1 hb h2 F h3 a b ha hb2) fun r w' ⟨e,ed', zs,F2,he,h4,h5,h6,ht⟩=>⟨e,he,turn_lct ht h6 h5 h4⟩
end
section
open Go Go.Sx
def QS.R(hb n:Nat)(s:QS):Res:=facR (s.ok n) (allR [blk hb 262 [(Zb hb),(Za n),s.iv,s.pv],rowR Ent.cells s.iv 111 2 s.its,rowR pcf s.pv 277 1 s.ps,chk ncf 279 64 s.ps s.pl])
def QS.SR(sb hb n:Nat)(s:QS):Res:=allR [blk sb 166 (Zak n hb),(QS.R hb n s)]
abbrev Za5(a:WW)(b:Nat):=(QS.SR a.sb a.hb b a.q:Res)
abbrev Zbw a (b c d:Nat) (e:Int) (f g:Nat) h:=(allR [a,blk b 80 (Zj c),blk d 2 (Zd e),blk c 166 (Zak f g),QS.R g f h]:Res)
abbrev Zba(a b c:Nat)(d:Int)(e:Nat)(f:Int)(g h:Nat) i:=(allR [blk a 80 (Zj b),blk c 3 (Zd d),blk e 2 (Zd f),blk b 166 (Zak g h),QS.R h g i]:Res)
theorem qnew_ok(n:Nat)(w:World)(hn:n<=65536) :
 CR ya 82 (Zai n) w (fun r w' => ∃ hb s,r = .tuple (Zae hb)/\s.its=[]/\Turn (allR []) w w' (QS.R hb n s)) :=
 CR.mono (hnew_ok n w hn) fun r w' ⟨hb,pv,h1,ht⟩=>⟨hb,⟨.slice none 0 0,pv,List.replicate ((n+63) / 64) none,[],List.replicate (64*((n+63) / 64)) 0⟩,h1,rfl,ht.witr ⟨Hp.new rfl,Plc.new hn rfl,Ord.nil⟩⟩
theorem qkey0_ok(hb n:Nat)(s:QS)(w:World)(hO:Own (QS.R hb n s) w)(i:Nat)(hi:i<n)(hf:∀ e∈s.its,e.ix≠i) :
 CR ya 157 (Zn hb i) w (fun r w' => r = .tuple Zch/\Turn (QS.R hb n s) w w' (QS.R hb n s)) :=
 CR.mono (hkey0_ok hb n s.iv s.pv s.ps s.its s.pl w hO.un hO.fact.hp hO.fact.plc i hi (hO.fact.free hi hf)) fun r w' ⟨h1,ht⟩=>⟨h1,ht.wit hO.fact⟩
theorem qpush_ok(hb n:Nat)(s:QS)(w:World)(hO:Own (QS.R hb n s) w)(i:Nat)(hi:i<n)(hf:∀ e∈s.its,e.ix≠i)(key:Int)(hk:InK .i64 key) :
 CR ya 110 (Z1 hb i key) w (fun r w' => ∃ s2,r = .int .i64 0/\(∀ e,e∈s2.its↔e∈s.its\/e=⟨i,key⟩)/\Turn (QS.R hb n s) w w' (QS.R hb n s2)) :=
 CR.mono (hpush_ok hb n s.iv s.pv s.ps s.its s.pl w hO.un hO.fact.hp hO.fact.plc hO.fact.ord i hi (hO.fact.free hi hf) key hk) fun r w' ⟨h1,jv,qs,ys,zl,a,b,c,d,_,_,ht⟩=>⟨⟨jv,s.pv,qs,ys,zl⟩,h1,d,ht.wit ⟨a,b,c⟩⟩
theorem qpushed_ok(hb n:Nat)(s:QS)(w:World)(hO:Own (QS.R hb n s) w)(i:Nat)(hi:i<n)(key:Int)(hk:InK .i64 key) :
 CR ya 110 (Z1 hb i key) w (fun r w' => ∃ z s2,r = .int .i64 z/\Turn (QS.R hb n s) w w' (QS.R hb n s2)):=by
 rcases zbo (ndA s.pl i)with h0|h0
 . exact CR.mono (hpush_ok hb n s.iv s.pv s.ps s.its s.pl w hO.un hO.fact.hp hO.fact.plc hO.fact.ord i hi h0 key hk) fun r w' ⟨h1,jv,qs,ys,zl,a,b,c,d,_,_,ht⟩=>⟨0,⟨jv,s.pv,qs,ys,zl⟩,h1,ht.wit ⟨a,b,c⟩⟩
 . exact CR.mono (hpushed_ok hb n s.iv s.pv s.ps s.its s.pl w hO.un hO.fact.hp hO.fact.plc i hi (ndA s.pl i-1) o_ key) fun r w' ⟨h1,ht⟩=>⟨6,s,h1,ht.wit hO.fact⟩
theorem qmin0_ok(hb n:Nat)(s:QS)(w:World)(hO:Own (QS.R hb n s) w)(h0:s.its.length=0) :
 CR ya 90 (Zk hb) w (fun r w' => r = .tuple Zbq/\Turn (QS.R hb n s) w w' (QS.R hb n s)) :=
 CR.mono (hmin0_ok hb n s.iv s.pv s.ps s.its s.pl w hO.un hO.fact.hp hO.fact.plc h0) fun r w' ⟨h1,ht⟩=>⟨h1,ht.wit hO.fact⟩
theorem qmin1_ok(hb n:Nat)(s:QS)(w:World)(hO:Own (QS.R hb n s) w)(h0:0<s.its.length) :
 CR ya 90 (Zk hb) w (fun r w' => r = .tuple (Zbh ((ndA s.its 0).ix:Int) ((ndA s.its 0).key))/\Turn (QS.R hb n s) w w' (QS.R hb n s)) :=
 CR.mono (hmin1_ok hb n s.iv s.pv s.ps s.its s.pl w hO.un hO.fact.hp hO.fact.plc h0) fun r w' ⟨h1,ht⟩=>⟨h1,ht.wit hO.fact⟩
theorem qpop0_ok(hb n:Nat)(s:QS)(w:World)(hO:Own (QS.R hb n s) w)(h0:s.its.length=0) :
 CR ya 103 (Zk hb) w (fun r w' => r = .tuple Zbq/\Turn (QS.R hb n s) w w' (QS.R hb n s)) :=
 CR.mono (hpop0_ok hb n s.iv s.pv s.ps s.its s.pl w hO.un hO.fact.hp hO.fact.plc h0) fun r w' ⟨h1,ht⟩=>⟨h1,ht.wit hO.fact⟩
theorem qpop1_ok(hb n:Nat)(s:QS)(w:World)(hO:Own (QS.R hb n s) w)(h0:0<s.its.length) :
 CR ya 103 (Zk hb) w (fun r w' => ∃ s2,r = .tuple (Zbh ((ndA s.its 0).ix:Int) ((ndA s.its 0).key))/\((∀ e,e∈s2.its↔e∈s.its/\e.ix≠(ndA s.its 0).ix)/\s2.its.length+1=s.its.length)/\Turn (QS.R hb n s) w w' (QS.R hb n s2)) :=
 CR.mono (hpop1_ok hb n s.iv s.pv s.ps s.its s.pl w hO.un hO.fact.hp hO.fact.plc hO.fact.ord h0) fun r w' ⟨h1,jv,qs,ys,zl,a,b,c,d,_,f,ht⟩=>⟨⟨jv,s.pv,qs,ys,zl⟩,h1,⟨d,f⟩,ht.wit ⟨a,b,c⟩⟩
theorem qcopy_ok(hb n:Nat)(s:QS)(w:World)(hO:Own (QS.R hb n s) w) :
 CR ya 96 (Zk hb) w (fun r w' => ∃ hb2 s2,r = .pointer (some ⟨hb2,0,none⟩)/\s2.its=s.its/\Turn (QS.R hb n s) w w' (allR [QS.R hb n s,QS.R hb2 n s2])) :=
 CR.mono (hcopy_ok hb n s.iv s.pv s.ps s.its s.pl w hO.un hO.fact.hp hO.fact.plc) fun r w' ⟨hb2,iv2,pv2,qs,h1,h2,_,ht⟩=>⟨hb2,⟨iv2,pv2,qs,s.its,s.pl⟩,h1,rfl,(Turn.flat2 (A:=[blk hb 262 [(.pointer (some ⟨hb,0,none⟩)),(.int .i64 n),s.iv,s.pv],rowR Ent.cells s.iv 111 2 s.its,rowR pcf s.pv 277 1 s.ps,chk ncf 279 64 s.ps s.pl]) (B:=[blk hb2 262 [(.pointer (some ⟨hb2,0,none⟩)),(.int .i64 n),iv2,pv2],rowR Ent.cells iv2 111 2 s.its,rowR pcf pv2 277 1 qs,chk ncf 279 64 qs s.pl]) ht).unL.mapR rfl (fun h=>by
  intro Q hQ
  simp only[ze,zba,or_false]at hQ
  rcases hQ with rfl|rfl
  . exact⟨hO.fact,h _ s_⟩
  . exact⟨⟨hO.fact.hp,h2,hO.fact.ord⟩,h _ s_⟩)⟩
end
section
open Go Go.Sx
theorem svalid_ok(sb hb n:Nat)(s:QS)(w:World)(hO:Own (QS.SR sb hb n s) w) :
 CR ya 89 (Zk sb) w (fun r w' => r = .bool true/\Turn (QS.SR sb hb n s) w w' (QS.SR sb hb n s)):=by
 refine en Tryz.func89 Tryz.ntmps89 ?_
 have hst0:=Own.of hO
 have hok:=(yac hst0 (i:=1) rfl:s.ok n)
 refine pPL hst0 8 ?_
 refine neP (a:=some ⟨sb,0,none⟩) (c:=true) rfl rfl rfl Tryz.underlying80 rfl (pLL hst0 5 ?_)
 refine neP (a:=some ⟨hb,0,none⟩) (c:=true) rfl rfl rfl ybc rfl (pLQ hst0 5 ?_)
 refine ret1 (v:=Zf) Tryz.results89 rfl ?_
 exact⟨rfl,yq (yc [_,_] _ hst0)⟩
theorem snew_ok(n:Nat)(w:World)(hn:n<=65536) :
 CR ya 40 (Zai n) w (fun r w' => ∃ sb hb s,r = .tuple (Zae sb)/\s.its=[]/\Turn (allR []) w w' (QS.SR sb hb n s)):=by
 refine en Tryz.func40 Tryz.ntmps40 ?_
 have hst0:=yaf w
 refine pPL hst0 9 ?_
 refine cl ent82 (qnew_ok n w hn) ?_
 rintro _ g ⟨a,e,rfl,f,ht⟩
 have b:=(ya9 hst0 ht)
 refine pLL b 21 ?_
 refine bld (pvs:=[(0,(Za n)),(1,(Zb a))]) (v:=.agg #[(Za n),(Zb a)]) rfl rfl (buildS [(0,(Zd n)),(1,(Zj a))] ti166 pl166 rfl ⟨rfl,rfl,rfl,rfl,trivial⟩ rfl) (bx (v:=(Zb1 n a)) (cs:=(Zak n a)) rfl rfl rfl b (fun c h i j d=>pLQ d 5 ?_))
 refine ret2 (v:=(Zb c)) (v' := Zc) Tryz.results40 rfl rfl ?_
 exact⟨c,a,e,rfl,f,St.eM (yc [_,_] _ d)⟩
theorem snext0_ok(sb hb n:Nat)(s:QS)(w:World)(hO:Own (QS.SR sb hb n s) w)(h0:s.its.length=0) :
 CR ya 45 (Zk sb) w (fun r w' => r = .tuple Zbq/\Turn (QS.SR sb hb n s) w w' (QS.SR sb hb n s)):=by
 refine en Tryz.func45 Tryz.ntmps45 ?_
 have hst0:=Own.of hO
 have hok:=(yac hst0 (i:=1) rfl:s.ok n)
 refine pPL hst0 2 ?_
 refine al (cs:=Z3) rfl ti111 rfl hst0 ?_
 intro k e l m b
 have f:=yj [1,2,0] b
 have c:=yc [_,_] _ f
 refine pLL b 7 ?_
 refine cl ent89 (svalid_ok sb hb n s e (yd c (i:=0) rfl)) ?_
 rintro _ g ⟨rfl,ht⟩
 have h:=yu 0 c ht
 have a:=yan h
 refine pLL a 12 ?_
 refine cl ent90 (qmin0_ok hb n s g (yd a (i:=1) rfl) h0) ?_
 rintro _ p ⟨rfl,ht⟩
 have j:=yu 1 a ht
 refine sLQ j 7 fun q d=>?_
 refine retL2 (v:=Zcf) (v' := Zp) Tryz.results45 (rvA (cs:=Z3) rfl yr rfl ti111 rfl (yab d (i:=2) (o:=0) (vs:=Z3) rfl rfl)) (rvT rfl) ?_
 exact⟨rfl,yq (yc [_,_] _ d)⟩
theorem snext1_ok(sb hb n:Nat)(s:QS)(w:World)(hO:Own (QS.SR sb hb n s) w)(h0:0<s.its.length) :
 CR ya 45 (Zk sb) w (fun r w' => r = .tuple (Zbh ((ndA s.its 0).ix:Int) ((ndA s.its 0).key))/\Turn (QS.SR sb hb n s) w w' (QS.SR sb hb n s)):=by
 refine en Tryz.func45 Tryz.ntmps45 ?_
 have hst0:=Own.of hO
 have hok:=(yac hst0 (i:=1) rfl:s.ok n)
 refine pPL hst0 2 ?_
 refine al (cs:=Z3) rfl ti111 rfl hst0 ?_
 intro k e l m b
 have f:=yj [1,2,0] b
 have c:=yc [_,_] _ f
 refine pLL b 7 ?_
 refine cl ent89 (svalid_ok sb hb n s e (yd c (i:=0) rfl)) ?_
 rintro _ g ⟨rfl,ht⟩
 have h:=yu 0 c ht
 have a:=yan h
 refine pLL a 12 ?_
 refine cl ent90 (qmin1_ok hb n s g (yd a (i:=1) rfl) h0) ?_
 rintro _ p ⟨rfl,ht⟩
 have j:=yu 1 a ht
 refine sLQ j 7 fun q d=>?_
 refine retL2 (v:=(Zag ((ndA s.its 0).ix:Int) ((ndA s.its 0).key))) (v' := Zf) Tryz.results45 (rvA (cs:=(Zi ((ndA s.its 0).ix:Int) ((ndA s.its 0).key))) rfl yr rfl ti111 rfl (yab d (i:=2) (o:=0) (vs:=(Zi ((ndA s.its 0).ix:Int) ((ndA s.its 0).key))) rfl rfl)) (rvT rfl) ?_
 exact⟨rfl,yq (yc [_,_] _ d)⟩
theorem set1_ok(b1 b2 b3 sb hb n:Nat)(s:QS)(w:World)(i:Nat)(hi:i<n)(hf:∀ e∈s.its,e.ix≠i)(key:Int)(hk:InK .i64 key)(hO:Own (Zba b1 sb b2 i b3 key n hb s) w) :
 CR ya 108 #[Zp,(Zb b1),(Zb b2),(Zb b3)] w (fun r w' => ∃ s2,r = .int .i64 0/\(∀ e,e∈s2.its↔e∈s.its\/e=⟨i,key⟩)/\Turn (Zba b1 sb b2 i b3 key n hb s) w w' (Zba b1 sb b2 i b3 key n hb s2)):=by
 refine en Tryz.func108 Tryz.ntmps108 ?_
 have hst0:=Own.of hO
 refine pPP hst0 15 ?_
 refine dr1 hst0 6 ?_
 intro wq hM
 refine mcl rfl rfl (clF_r rfl ent110) (qpush_ok hb n s wq (yd hM (i:=4) rfl) i hi hf key hk) ?_
 rintro _ _ ⟨c,rfl,hF1,ht1⟩
 refine aft (yu 4 hM (ht1.witr hF1)) (fun h d=>?_)
 have a:=yj [4,0,1,2,3] d
 have f:=ya6 a
 have b:=yav a
 refine pQQ tt none b 2 ?_
 refine ret1 (v:=Zc) Tryz.results108 rfl ?_
 have g:=yj [1,2,3,4,0] b
 exact⟨c,rfl,f,yq (yc [_,_,_,_,_] _ g)⟩
theorem swith_ok(b1 b2 b3 sb hb n:Nat)(s:QS)(w:World)(i:Nat)(hi:i<n)(hf:∀ e∈s.its,e.ix≠i)(key:Int)(hk:InK .i64 key)(hO:Own (Zba b1 sb b2 i b3 key n hb s) w) :
 CR ya 107 #[(Zb sb),(Za i),(.func (.func 108) #[] #[(Zb b1),(Zb b2),(Zb b3)])] w (fun r w' => ∃ s2,r = .int .i64 0/\(∀ e,e∈s2.its↔e∈s.its\/e=⟨i,key⟩)/\Turn (Zba b1 sb b2 i b3 key n hb s) w w' (Zba b1 sb b2 i b3 key n hb s2)):=by
 refine en Tryz.func107 Tryz.ntmps107 ?_
 have hst0:=Own.of hO
 have g:=yj [3,4,0,1,2] hst0
 have b:=yc [_,_] _ g
 refine pPL hst0 9 ?_
 refine cl ent89 (svalid_ok sb hb n s w (yd b (i:=0) rfl)) ?_
 rintro _ h ⟨rfl,ht⟩
 have j:=yu 0 b ht
 have a:=yan j
 refine pLL a 10 ?_
 refine cmp rfl rfl rfl (c_nlt o_) (pLL a 6 ?_)
 refine cmp rfl rfl rfl (c_nge o_) (pLL a 13 ?_)
 refine cl ent157 (qkey0_ok hb n s h (yd a (i:=1) rfl) i hi hf) ?_
 rintro _ k ⟨rfl,ht⟩
 have c:=yu 1 a ht
 have l:=yj [2,3,4,0,1] c
 have d:=yc [_,_,_,_,_] _ l
 refine pLL c 11 ?_
 refine clV (fi:=[]) (ca:=(Zdu b1 b2 b3)) rfl rfl rfl ent108 (set1_ok b1 b2 b3 sb hb n s k i hi hf key hk (yd d (i:=0) rfl)) ?_
 rintro _ q ⟨m,rfl,o,ht⟩
 have p:=yu 0 d ht
 have f:=yan p
 refine pLQ f 4 ?_
 refine ret1 (v:=Zc) Tryz.results107 rfl ?_
 exact⟨m,rfl,o,yq (yc [_,_,_,_,_] _ f)⟩
theorem sset_ok(sb hb n:Nat)(s:QS)(w:World)(hO:Own (QS.SR sb hb n s) w)(i:Nat)(hi:i<n)(hf:∀ e∈s.its,e.ix≠i)(key:Int)(hk:InK .i64 key) :
 CR ya 55 (Z1 sb i key) w (fun r w' => ∃ s2,r = .int .i64 0/\(∀ e,e∈s2.its↔e∈s.its\/e=⟨i,key⟩)/\Turn (QS.SR sb hb n s) w w' (QS.SR sb hb n s2)):=by
 refine en Tryz.func55 Tryz.ntmps55 ?_
 have hst0:=Own.of hO
 have hok:=(yac hst0 (i:=1) rfl:s.ok n)
 refine pPL hst0 2 ?_
 refine bx (v:=(Zb sb)) (cs:=(Zj sb)) rfl rfl rfl hst0 (fun a t u x h=>bx (v:=(Za i)) (cs:=(Zd i)) rfl rfl rfl h (fun b y z A j=>bx (v:=(Za key)) (cs:=(Zd key)) rfl rfl rfl j (fun c k B C d=>pLL d 7 ?_)))
 refine mkf (vf:=[]) (vc:=(Zdu a b c)) rfl rfl rfl ?_
 have l:=yj [2,1,0,3,4] d
 have f:=yc [_,_,_,_,_] _ l
 refine cl ent107 (swith_ok a b c sb hb n s k i hi hf key hk (yd f (i:=0) rfl)) ?_
 rintro _ D ⟨m,rfl,o,ht⟩
 have p:=yu 0 f ht
 have g:=yan p
 refine pLQ g 4 ?_
 refine ret1 (v:=Zc) Tryz.results55 rfl ?_
 have q:=yj [3,4,0,1,2] g
 exact⟨m,rfl,o,yq (yc [_,_] _ q)⟩
end
section
open Go Go.Sx
theorem due_ok(sb:Nat)(now:Int)(w:World) :
 CR ya 97 (Zn sb now) w (fun r w' => ∃ xb tb,r = .func (.func 151) #[] (Zb6 xb tb)/\Turn (allR []) w w' (allR [blk xb 80 (Zj sb),blk tb 2 (Zd now)])):=by
 refine en Tryz.func97 Tryz.ntmps97 ?_
 have hst0:=yaf w
 refine pPL hst0 2 ?_
 refine bx (v:=(Zb sb)) (cs:=(Zj sb)) rfl rfl rfl hst0 (fun a f g h d=>bx (v:=(Za now)) (cs:=(Zd now)) rfl rfl rfl d (fun b i j k c=>pLL c 5 ?_))
 refine mkf (vf:=[]) (vc:=(Za3 a b)) rfl rfl rfl (pLQ c 4 ?_)
 refine ret1 (v:=(.func (.func 151) #[] (Zb6 a b))) Tryz.results97 rfl ?_
 have e:=yj [1,0] c
 exact⟨a,b,rfl,St.eM (yc [_,_] _ e)⟩
theorem due1_ok{γ:Type}(Cl:γ->Res)(pr:γ->List Nat)(z0:γ)(l xb tb sb hb n:Nat)(s:QS)(now:Int)(w:World)(hy:∀ (z:γ) (i:Nat) (bs:List (World×List Nat)) (L:List Res) (w:World),i<n->(pr z).length<=65536->St bs (Cl z :: L) w->YR ya l (Zd i) w (fun v w' => v = .bool true/\∃ z2,pr z2=pr z++[i]/\St bs (Cl z2 :: L) w'))(hz0:(pr z0).length=0)(hn:n<=65536)(hO:Own (Zbw (Cl z0) xb sb tb now n hb s) w) :
 CR ya 151 (Zdw (.func (.yield l) #[] #[]) xb tb) w (fun r w' => ∃ z s2 ds,r = .tuple #[]/\pr z=pr z0++ds/\Dued n s s2 ds now/\Turn (Zbw (Cl z0) xb sb tb now n hb s) w w' (Zbw (Cl z) xb sb tb now n hb s2)):=by
 refine en Tryz.func151 Tryz.ntmps151 ?_
 have hst0:=Own.of hO
 have hok:=(yac hst0 (i:=4) rfl:s.ok n)
 refine pPP hst0 1 ?_
 refine lp (α:=γ×QS) (fun(z,t)=>[(0,(.func (.yield l) #[] #[])),(1,(Zb xb)),(2,(Zb tb))]) (fun(z,t) w1=>St [(w,(Zbw (Cl z0) xb sb tb now n hb s).foot)] [(Cl z),blk xb 80 (Zj sb),blk tb 2 (Zd now),blk sb 166 (Zak n hb),(QS.R hb n t)] w1/\∃ ds,DueI s.its t.its ds now/\pr z=pr z0++ds) (fun(z,t)=>t.its.length) (z0,s) ⟨rfl,rfl,rfl,trivial⟩ (⟨hst0,[],DueI.start _ _,by rw[zal]⟩) ?_
 rintro⟨z,t⟩ D c ⟨hst3,ds,hI,hpz⟩
 have hkt:=(yac hst3 (i:=4) rfl:t.ok n)
 obtain⟨k,E⟩:∃ q,zbo t.its.length=q:=⟨_,rfl⟩
 refine pPL hst3 7 ?_
 rcases k with h0|h0
 . skip
   refine cl ent90 (qmin0_ok hb n t c (yd hst3 (i:=4) rfl) h0) ?_
   rintro _ G ⟨rfl,ht⟩
   have d:=yu 4 hst3 ht
   refine pLL d 3 ?_
   refine al (cs:=Z3) rfl ti111 rfl d (fun H I J K m=>sLQ m 23 fun M o=>?_)
   refine ret0 Tryz.results151 ?_
   have p:=yj [1,2,3,4,5,0] o
   have hdn:=hI.fin hok hkt (Or.inl h0)
   exact⟨z,t,ds,rfl,hpz,hdn,yq (yc [_,_,_,_,_] _ p)⟩
 . skip
   refine cl ent90 (qmin1_ok hb n t c (yd hst3 (i:=4) rfl) h0) ?_
   rintro _ N ⟨rfl,ht⟩
   have e:=yu 4 hst3 ht
   refine pLL e 3 ?_
   refine al (cs:=Z3) rfl ti111 rfl e (fun O P Q S u=>sLL u 13 fun x a=>?_)
   by_cases f:((ndA t.its 0).key:Int)>(now:Int)
   . have hkey:now<(ndA t.its 0).key:=by have h7:=@f;omega
     refine pLQ a 10 ?_
     refine ret0 Tryz.results151 ?_
     have y:=yj [1,2,3,4,5,0] a
     have hdn:=hI.fin hok hkt (Or.inr hkey)
     exact⟨z,t,ds,rfl,hpz,hdn,yq (yc [_,_,_,_,_] _ y)⟩
   . have hkey:(ndA t.its 0).key<=now:=by have h7:=@f;omega
     refine pLL a 13 ?_
     refine cl ent103 (qpop1_ok hb n t x (yd a (i:=5) rfl) h0) ?_
     rintro _ U ⟨g,rfl,b,ht⟩
     have h:=yu 5 a ht
     have A:=yj [1,2,3,4,5,0] h
     have hxi:=hkt.lt (mem_nd.2 ⟨0,h0,rfl⟩)
     have hpl9:(pr z).length<=65536:=by have h7:=hI.len;have h8:=hok.hp.len;rw[hpz,zo,hz0];omega
     refine pLL h 7 ?_
     refine yl (vl:=(Zd ((ndA t.its 0).ix:Int))) rfl rfl rfl (hy z (ndA t.its 0).ix _ _ _ hxi hpl9 A) ?_
     rintro _ V ⟨rfl,B,hz9,j⟩
     refine pLQ j 6 ?_
     refine tN (?_)
     have C:=yj [0,1,2,3,4] j
     exact again (B,g) ⟨rfl,rfl,rfl,trivial⟩ (⟨C,(ds++[(ndA t.its 0).ix]),hI.step h0 hkey b.1 b.2,by rw[hz9,hpz,zaf]⟩) (by have h7:=b.2;show g.its.length<t.its.length;omega)
theorem natsI_snocA(ds:List Nat)(i:Nat):natsI (ds++[i])=natsI ds++[(i:Int)]:=by simp[natsI]
theorem sdue_ok(sb hb n:Nat)(s:QS)(w:World)(hO:Own (QS.SR sb hb n s) w)(now:Int)(hn:n<=65536) :
 CR ya 48 (Zn sb now) w (fun r w' => ∃ v ds t,r=v/\Dued n s t ds now/\Turn (QS.SR sb hb n s) w w' (allR [(QS.SR sb hb n t),rowI .i64 v 3 (natsI ds)])):=by
 refine enterM (vs:=(Za2 sb now)) Tryz.func48 rfl Tryz.ntmps48 rfl ?_
 have hst0:=Own.of hO
 have hok:=(yac hst0 (i:=1) rfl:s.ok n)
 have f:=yc [_,_] _ hst0
 refine pPL hst0 9 ?_
 refine cl ent89 (svalid_ok sb hb n s w (yd f (i:=0) rfl)) ?_
 rintro _ M ⟨rfl,ht⟩
 have u:=yu 0 f ht
 have g:=yan u
 refine pLL g 8 ?_
 refine al (cs:=[Zl]) rfl ti115 rfl g (fun a x N O h=>pLL h 7 ?_)
 refine cl ent97 (due_ok sb now x) ?_
 rintro _ y ⟨c,d,rfl,ht⟩
 have j:=yan (ya9 h ht)
 have A:St _ [rowI .i64 Zl 3 ([]),blk c 80 (Zj sb),blk d 2 (Zd now),blk a 115 [Zl],blk sb 166 (Zak n hb),(QS.R hb n s)] y:=ybd j 3 1
 have B:=yj [3,0,1,2,4,5] A
 have C:=B
 have D:=C
 refine pLP j 3 ?_
 refine rf (α:=Value×List Nat×QS) (ps:=[13]) (fi:=[]) (ca:=(Za3 c d)) (fun(v,ds,t)=>[blk a 115 [v],rowI .i64 v 3 (natsI ds),blk c 80 (Zj sb),blk d 2 (Zd now),blk sb 166 (Zak n hb),(QS.R hb n t)]) (fun(v,ds,t)=>Dued n s t ds now) D rfl ent151 ?_ ?_
 . intro fn dd l wl rc hrc hsl
   have E:=yj [0,2,3,4,5,6,7,1] hsl
   have hpk:=yc [lobj l rc,blk a 115 [Zl],rowI .i64 Zl 3 (natsI ([]))] [blk c 80 (Zj sb),blk d 2 (Zd now),blk sb 166 (Zak n hb),(QS.R hb n s),dobj dd (some [])] E
   have hr1:rc.state = .ready:=by rw[hrc]
   have hr2:rc.pending=none:=by rw[hrc]
   have hround:∀ (z:Value×List Nat) (i:Nat) (bs:List (World×List Nat)) (L:List Res) (w:World),i<n->((Prod.snd:Value×List Nat->List Nat) z).length<=65536->St bs ((fun((v,ds):Value×List Nat)=>allR [lobj l rc,blk a 115 [v],rowI .i64 v 3 (natsI ds)]) z :: L) w->YR ya l (Zd i) w (fun v w' => v = .bool true/\∃ z2,(Prod.snd:Value×List Nat->List Nat) z2=(Prod.snd:Value×List Nat->List Nat) z++[i]/\St bs ((fun((v,ds):Value×List Nat)=>allR [lobj l rc,blk a 115 [v],rowI .i64 v 3 (natsI ds)]) z2 :: L) w'):=by
    intro z i bs LT wr hi hlz hsr
    have hsr:=hsr.unpack
    refine rnd (vl:=(Zd i)) 0 hrc hsr rfl rfl rfl (pPQ hsr 3 ?_)
    refine tN (?_)
    refine begR 0 hsr rfl hr1 rfl (fun P m=>pPL m 4 ?_)
    refine bsv (vs:=(Zd i)) (cs:=(Zd i)) rfl rfl yh ti3 rfl (by simp[Value.cells]) rfl rfl rfl m (fun G Q S U o=>apdI (k:=.i64) (ys:=natsI z.2) (zs:=[(i:Int)]) (LL:=fun b=>(rowI .i64 (Zv G) 3 ([(i:Int)]) :: lobj l { rc with state:=.busy } :: blk a 115 [z.1] :: rowI .i64 b 3 ((natsI z.2)++([(i:Int)])) :: LT)) 3 rfl rfl rfl yh ti3 rfl o rfl (yaq o (i:=0) rfl) (by simp only[natsI,zu,zk,zq,maxLen];first|omega|skip) (by simp only[natsI,zu,zk,zq,maxLen];first|omega|skip) f_ ?_)
    intro b V H W
    have e:=St.sub (L' := (lobj l { rc with state:=.busy } :: blk a 115 [z.1] :: rowI .i64 b 3 ((natsI z.2)++([(i:Int)])) :: LT)) H (List.Sublist.cons _ (List.Sublist.refl _))
    refine sto (L' := (lobj l { rc with state:=.busy } :: blk a 115 [b] :: rowI .i64 b 3 ((natsI z.2)++([(i:Int)])) :: LT)) 1 rfl rfl rfl (cells_one (ya0 e (i:=2) rfl)) ti115 rfl (all1 (ya0 e (i:=2) rfl) all0) e rfl rfl rfl rfl (fun X p=>pLQ p 2 ?_)
    refine endR 0 p rfl hr1 hr2 rfl ?_
    intro Y I
    have hs7:=I
    rw[<-natsI_snocA]at hs7
    exact⟨_,rfl,rfl,(b,z.2++[i]),rfl,yc [_,_,_] _ hs7⟩
   have hpk2:=yc [_,_,_,_,_] _ hpk
   refine CR.mono (due1_ok (fun((v,ds):Value×List Nat)=>allR [lobj l rc,blk a 115 [v],rowI .i64 v 3 (natsI ds)]) Prod.snd (.slice none 0 0,[]) l c d sb hb n s now wl hround rfl hn (yd hpk2 (i:=0) rfl)) ?_
   rintro _ w9 ⟨z,t,ds,-,hpz,hdn,hturn⟩
   have hs9:=(yp hpk2 hturn).unpack
   have J:=yj [0,7,1,2,3,4,5,6] hs9
   exact⟨(z.1,z.2,t),by rw[show z.2=ds by simpa using hpz];exact hdn,J⟩
 . rintro⟨v,ds,t⟩ dd Z hC q
   refine pQQ tt none q 9 ?_
   refine leaveM 0 q rfl rfl ?_
   intro w8 hs8
   have K:=yj [5,6,2,0,1,3,4] hs8
   have hp9:=yc [_,_] _ K
   have hp10:St _ (allR [(QS.SR sb hb n t),rowI .i64 v 3 (natsI ds)] :: _) _:=yc [_,_] _ hp9
   have hT:Turn (QS.SR sb hb n s) w _ (allR [(QS.SR sb hb n t),rowI .i64 v 3 (natsI ds)]):=yq hp10
   exact⟨_,results_tmp Tryz.results48 _ _ _,_,rfl,by rw[getD_Fr];exact⟨v,ds,t,rfl,hC,hT⟩⟩
theorem scopy_ok(sb hb n:Nat)(s:QS)(w:World)(hO:Own (QS.SR sb hb n s) w) :
 CR ya 47 (Zk sb) w (fun r w' => ∃ sb2 hb2 s2,r = .pointer (some ⟨sb2,0,none⟩)/\s2.its=s.its/\Turn (QS.SR sb hb n s) w w' (allR [(QS.SR sb hb n s),(QS.SR sb2 hb2 n s2)])):=by
 refine en Tryz.func47 Tryz.ntmps47 ?_
 have hst0:=Own.of hO
 have hok:=(yac hst0 (i:=1) rfl:s.ok n)
 have b:=yc [_,_] _ hst0
 refine pPL hst0 9 ?_
 refine cl ent89 (svalid_ok sb hb n s w (yd b (i:=0) rfl)) ?_
 rintro _ o ⟨rfl,ht⟩
 have f:=yu 0 b ht
 have c:=yan f
 refine pLP c 7 ?_
 refine rgs (Γ:=Nat×QS×Nat) mixed [[],[0],[0,1],[0,1,2],[],[4],[4,5],[4,5,6],[4,5,6,7],[0,1,2,3,4,5,6,7,8],[0,1,2,3,4,5,6,7,8,9],[0,1,2,3,4,5,6,7,8,9,10]] [8,10] d_ [fun _=>(Zb sb),fun _=>(Zb sb),fun _=>(Zb sb),fun _=>(Za n),fun _=>(Zb sb),fun _=>(Zb sb),fun _=>(Zbg sb),fun _=>(Zb hb),fun(hb2₁,s2₁,a)=>(Zb hb2₁),fun(hb2₁,s2₁,a)=>(Zb1 n hb2₁),fun(hb2₁,s2₁,a)=>(Zb a),fun(hb2₁,s2₁,a)=>(Zb a)] [(fun(hb2₁,s2₁,a)=>[blk sb 166 (Zak n hb),(QS.R hb n s)],fun _ _=>True),(fun(hb2₁,s2₁,a)=>[blk sb 166 (Zak n hb),facR (s2₁.its=s.its) (allR [(QS.R hb n s),(QS.R hb2₁ n s2₁)])],fun _ _=>True),(fun(hb2₁,s2₁,a)=>[blk a 166 (Zak n hb2₁),blk sb 166 (Zak n hb),facR (s2₁.its=s.its) (allR [(QS.R hb n s),(QS.R hb2₁ n s2₁)])],fun _ _=>True)] (hb,s,0) (fun(hb2₁,s2₁,a)=>(2,(Zb a)) :: (16,(Zb a)) :: (15,(Zb1 n hb2₁)) :: (14,(Zb hb2₁)) :: (13,(Zb hb)) :: (12,(Zbg sb)) :: (11,(Zb sb)) :: (10,(Zb sb)) :: (9,(Za n)) :: (8,(Zb sb)) :: (7,(Zb sb)) :: (6,(Zb sb)) :: _) rfl c (fun _ _=>trivial) ?_ (fun(hb2₁,s2₁,a)=>rfl) rfl ?_
 . skip
   refine obv (fun(hb2₁,s2₁,a) _=>mv_r (v:=(Zb sb)) rfl) ?_
   refine obv (fun(hb2₁,s2₁,a) _=>nilc_r rfl) ?_
   refine obv (fun(hb2₁,s2₁,a) _=>fa_r (o' := 0) rfl ybi rfl ti3 rfl) ?_
   refine ob_q2 rfl rfl rfl rfl rfl (fun(hb2₁,s2₁,a) wq hM hF=>qv rfl rfl (ld_r rfl ye rfl (yo hM (i:=0) rfl rfl))) (fun(hb2₁,s2₁,a) wq hM hF=>qv rfl rfl (ld_r rfl ye rfl (yo hM (i:=0) rfl rfl))) (obv (fun(hb2₁,s2₁,a) _=>mv_r (v:=(Zb sb)) rfl) ?_)
   refine obv (fun(hb2₁,s2₁,a) _=>nilc_r rfl) ?_
   refine obv (fun(hb2₁,s2₁,a) _=>fa_r (o' := 1) rfl ybi rfl ti162 rfl) ?_
   refine ob_q1 rfl rfl rfl rfl (fun(hb2₁,s2₁,a) wq hM hF=>qv rfl rfl (ld_r rfl ybc rfl (yo hM (i:=0) rfl rfl))) (ob_m rfl rfl rfl rfl (fun(hb2₁,s2₁,a) wq hM hF=>mcl rfl rfl (clF_r rfl ent96) (qcopy_ok hb n s wq (yd hM (i:=1) rfl)) (fun _ _ hz=>by obtain⟨hb2₁', s2₁', rfl,hF1,ht1⟩:=hz;exact⟨(hb2₁', s2₁', a),⟨(yu 1 hM (ht1.witr hF1)),trivial⟩,rfl,st_c rfl (st_c rfl (st_c rfl (st_c rfl (st_c rfl (st_c rfl (st_c rfl (st_c rfl (st_c trivial (st_c trivial (st_c trivial (st_c trivial (st_n))))))))))))⟩)) (obv (fun(hb2₁,s2₁,a) _=>bld_r (pvs:=[(0,(Za n)),(1,(Zb hb2₁))]) (v:=.agg #[(Za n),(Zb hb2₁)]) rfl (buildS [(0,(Zd n)),(1,(Zj hb2₁))] ti166 pl166 rfl ⟨rfl,rfl,rfl,rfl,trivial⟩ rfl)) ?_))
   refine ob_m rfl rfl rfl rfl (fun(hb2₁,s2₁,a) wq hM hF=>m_bx (v:=(Zb1 n hb2₁)) (cs:=(Zak n hb2₁)) rfl rfl rfl hM (fun g _ h=>⟨(hb2₁,s2₁,g),⟨h,trivial⟩,rfl,st_c rfl (st_c rfl (st_c rfl (st_c rfl (st_c rfl (st_c rfl (st_c rfl (st_c rfl (st_c rfl (st_c rfl (st_c trivial (st_c trivial (st_n))))))))))))⟩)) (obv (fun(hb2₁,s2₁,a) _=>asg_r (v:=(Zb a)) rfl) ?_)
   exact ob_n
 rintro⟨hb2₁,s2₁,a⟩ p j -
 have d:=yj [2,0,1] j
 have k:=ya6 d
 have l:=yav d
 have e:=yan l
 refine pQQ tt none e 2 ?_
 refine ret1 (v:=(Zb a)) Tryz.results47 rfl ?_
 have m:=yj [3,0,2,1] e
 exact⟨a,hb2₁,s2₁,rfl,k,(Turn.flat2 (A:=[_,_]) (B:=[_,_]) (yq (yc [_,_,_,_] _ m)))⟩
end
section
open Go Go.Sx
def GW.R(verts edges ob:Nat)(s:GW):Res:=facR (s.ok verts edges) (allR [blk ob 174 (Zbb verts edges s (some s.mb)),(lctR s.fb s.nb (edges+verts+1)),(QS.R s.hb edges s.q),mapV s.mb .i64 Ed.enc s.m])
abbrev Zec(a b:Nat)(c:WW):=(GW.R a b c.ob c.g:Res)
abbrev Zc7(a:Nat)(b c:Int)(d:Lv)(e:Int)(f:WW)(g:Int)(h i j k:Nat)(l:Int) m n:=([blk a 34 [.int .i64 b,.int .u64 c,.int .u64 d.u,.int .u64 d.v,.int .i64 d.wt,.int .i64 d.t,.int .i64 e],blk f.cb 107 (Zi g f.now),blk h 32 (Zo d),blk i 83 (Za0 g j k l f),facR m (Sto.R k j f.ub n),QS.SR f.sb f.hb j f.q,GW.R k j f.ob f.g]:List Res)
theorem gvalid_ok(verts edges ob:Nat)(s:GW)(w:World)(hO:Own (GW.R verts edges ob s) w) :
 CR ya 102 (Zk ob) w (fun r w' => r = .bool true/\Turn (GW.R verts edges ob s) w w' (GW.R verts edges ob s)):=by
 refine en Tryz.func102 Tryz.ntmps102 ?_
 have hst0:=Own.of hO.un
 have hG:s.ok verts edges:=hO.fact
 refine pPL hst0 8 ?_
 refine neP (a:=some ⟨ob,0,none⟩) (c:=true) rfl rfl rfl Tryz.underlying81 rfl (pLL hst0 5 ?_)
 refine neM (a:=some s.mb) (c:=true) rfl rfl rfl yaj rfl (pLQ hst0 5 ?_)
 refine ret1 (v:=Zf) Tryz.results102 rfl ?_
 exact⟨rfl,yv (yw (p:=s.ok verts edges) (yc [_,_,_,_] _ hst0) hG) zh⟩
theorem ghas_ok(verts edges ob:Nat)(s:GW)(w:World)(hO:Own (GW.R verts edges ob s) w)(v:Nat)(hv:v<verts) :
 CR ya 111 (Zn ob v) w (fun r w' => r = .bool true/\Turn (GW.R verts edges ob s) w w' (GW.R verts edges ob s)):=by
 have hvn:=hO.fact.vn
 have hv2:=hO.fact.v2
 have hen:=hO.fact.en
 refine en Tryz.func111 Tryz.ntmps111 ?_
 have hst0:=Own.of hO.un
 have hG:s.ok verts edges:=hO.fact
 have b:=yw (p:=GW.ok verts edges s) (yc [_,_,_,_] _ hst0) hG
 refine pPL hst0 8 ?_
 refine cl ent102 (gvalid_ok verts edges ob s w (yd b (i:=0) rfl)) ?_
 rintro _ d ⟨rfl,ht⟩
 have c:=yu 0 b ht
 have a:=(yav c).unpack
 refine pLL a 2 ?_
 refine cmp rfl rfl rfl (c_ge o_) (pLL a 7 ?_)
 refine cmp rfl rfl rfl (c_lt o_) (pLQ a 5 ?_)
 refine ret1 (v:=Zf) Tryz.results111 rfl ?_
 exact⟨rfl,yv (yw (p:=s.ok verts edges) (yc [_,_,_,_] _ a) hG) zh⟩
theorem gfasten_ok(verts edges ob:Nat)(s:GW)(w:World)(hO:Own (GW.R verts edges ob s) w)(k:Nat)(hk:k+1<(edges+verts+1)) :
 CR ya 113 (Zn ob k) w (fun r w' => ∃ (s2:GW),r = .tuple #[]/\Turn (GW.R verts edges ob s) w w' (GW.R verts edges ob s2)):=by
 have hvn:=hO.fact.vn
 have hv2:=hO.fact.v2
 have hen:=hO.fact.en
 have hke:=hO.fact.get (k:Int)
 have hka:=hke.a
 have hkb:=hke.b
 refine en Tryz.func113 Tryz.ntmps113 ?_
 have hst0:=Own.of hO.un
 have hG:s.ok verts edges:=hO.fact
 refine pPL hst0 7 ?_
 refine lkV (a:=(k:Int)) (mm:=s.m) (enc:=Ed.enc) (k:=.i64) 3 rfl rfl rfl yaj ye ti192 rfl hst0 rfl (al (cs:=Zce) rfl ti192 rfl hst0 (fun j y z A l=>sLP l 4 fun B n=>?_))
 refine dr1 n 8 ?_
 intro wq hM
 refine mcl rfl rfl (clF_r rfl ent84) (lset_ok s.fb s.nb (edges+verts+1) wq (yd hM (i:=2) rfl) o_ k hk ((mgt s.m (k:Int)).exp) hke.exp) ?_
 rintro _ _ ⟨rfl,ht1⟩
 refine aft (yu 2 hM ht1) (fun C o=>?_)
 have d:=yj [2,0,1,3,4] o
 refine pQP tt none d 2 ?_
 refine dr1 d 13 ?_ (hA:=by refine' dar 12 ?k0;case k0=>refine' dax (fun wq hM=>rv (ar_r (e:=(((edges+(mgt s.m (k:Int)).a):Nat):Int)) rfl rfl rfl (by rw[w64 o_];omega))) ?k1;case k1=>exact run2)
 intro wq hM
 refine mcl rfl rfl (clF_r rfl ent165) (llink_ok s.fb s.nb (edges+verts+1) wq (yd hM (i:=0) rfl) o_ k (edges+(mgt s.m (k:Int)).a) hk o_) ?_
 rintro _ _ ⟨D,rfl,ht1⟩
 refine aft (yu 0 hM ht1) (fun E f=>?_)
 refine pQP tt none f 2 ?_
 refine dr1 f 13 ?_ (hA:=by refine' dar 12 ?k0;case k0=>refine' dax (fun wq hM=>rv (ar_r (e:=(((edges+(mgt s.m (k:Int)).b):Nat):Int)) rfl rfl rfl (by rw[w64 o_];omega))) ?k1;case k1=>exact run2)
 intro wq hM
 refine mcl rfl rfl (clF_r rfl ent165) (llink_ok s.fb s.nb (edges+verts+1) wq (yd hM (i:=0) rfl) o_ k (edges+(mgt s.m (k:Int)).b) hk o_) ?_
 rintro _ _ ⟨G,rfl,ht1⟩
 refine aft (yu 0 hM ht1) (fun H t=>?_)
 refine sQP tt none t 8 fun I u=>?_
 refine dr1 u 6 ?_
 intro wq hM
 refine m_muV (a:=(k:Int)) (c:=(⟨((mgt s.m (k:Int)).a),((mgt s.m (k:Int)).b),(mgt s.m (k:Int)).exp,true⟩:Ed)) (mm:=s.m) (enc:=Ed.enc) (k:=.i64) (L' := [(lctR s.fb s.nb (edges+verts+1)),blk j 192 [(Za ((mgt s.m (k:Int)).a:Int)),(Za ((mgt s.m (k:Int)).b:Int)),(Za ((mgt s.m (k:Int)).exp)),Zf],blk ob 174 (Zbb verts edges s (some s.mb)),(QS.R s.hb edges s.q),mapV s.mb .i64 Ed.enc (mput s.m (k:Int) (⟨((mgt s.m (k:Int)).a),((mgt s.m (k:Int)).b),(mgt s.m (k:Int)).exp,true⟩:Ed))]) 4 rfl rfl rfl rfl yaj ye hM rfl rfl (fun _ h=>(aft h (fun J g=>?_)))
 refine pQL tt none g 6 ?_
 refine ar (e:=(IntKind.i64.wrap (s.trees+1))) rfl rfl rfl rfl rfl (sLQ g 4 fun K v=>?_)
 refine end0 Tryz.results113 ?_
 have x:=yj [2,0,3,4,1] v
 exact⟨(⟨s.fb,s.nb,s.hb,s.mb,(IntKind.i64.wrap (s.trees+1)),s.q,(mput s.m (k:Int) (⟨((mgt s.m (k:Int)).a),((mgt s.m (k:Int)).b),(mgt s.m (k:Int)).exp,true⟩:Ed))⟩:GW),rfl,yv (yw (p:=GW.ok verts edges (⟨s.fb,s.nb,s.hb,s.mb,(IntKind.i64.wrap (s.trees+1)),s.q,(mput s.m (k:Int) (⟨((mgt s.m (k:Int)).a),((mgt s.m (k:Int)).b),(mgt s.m (k:Int)).exp,true⟩:Ed))⟩:GW)) (yc [_,_,_,_] _ x) (hG.put (by exact⟨hke.a,hke.b,hke.exp⟩))) zh⟩
theorem gloosen_ok(verts edges ob:Nat)(s:GW)(w:World)(hO:Own (GW.R verts edges ob s) w)(k:Nat)(hk:k+1<(edges+verts+1)) :
 CR ya 104 (Zn ob k) w (fun r w' => ∃ (s2:GW),r = .tuple #[]/\Turn (GW.R verts edges ob s) w w' (GW.R verts edges ob s2)):=by
 have hvn:=hO.fact.vn
 have hv2:=hO.fact.v2
 have hen:=hO.fact.en
 have hke:=hO.fact.get (k:Int)
 have hka:=hke.a
 have hkb:=hke.b
 refine en Tryz.func104 Tryz.ntmps104 ?_
 have hst0:=Own.of hO.un
 have hG:s.ok verts edges:=hO.fact
 refine pPL hst0 7 ?_
 refine lkV (a:=(k:Int)) (mm:=s.m) (enc:=Ed.enc) (k:=.i64) 3 rfl rfl rfl yaj ye ti192 rfl hst0 rfl (al (cs:=Zce) rfl ti192 rfl hst0 (fun g x y z j=>sLP j 4 fun A l=>?_))
 refine dr1 l 13 ?_ (hA:=by refine' dar 12 ?k0;case k0=>refine' dax (fun wq hM=>rv (ar_r (e:=(((edges+(mgt s.m (k:Int)).a):Nat):Int)) rfl rfl rfl (by rw[w64 o_];omega))) ?k1;case k1=>exact run2)
 intro wq hM
 refine mcl rfl rfl (clF_r rfl ent155) (lcut_ok s.fb s.nb (edges+verts+1) wq (yd hM (i:=2) rfl) o_ k (edges+(mgt s.m (k:Int)).a) hk o_) ?_
 rintro _ _ ⟨B,rfl,ht1⟩
 refine aft (yu 2 hM ht1) (fun C n=>?_)
 have d:=yj [2,0,1,3,4] n
 refine pQP tt none d 2 ?_
 refine dr1 d 13 ?_ (hA:=by refine' dar 12 ?k0;case k0=>refine' dax (fun wq hM=>rv (ar_r (e:=(((edges+(mgt s.m (k:Int)).b):Nat):Int)) rfl rfl rfl (by rw[w64 o_];omega))) ?k1;case k1=>exact run2)
 intro wq hM
 refine mcl rfl rfl (clF_r rfl ent155) (lcut_ok s.fb s.nb (edges+verts+1) wq (yd hM (i:=0) rfl) o_ k (edges+(mgt s.m (k:Int)).b) hk o_) ?_
 rintro _ _ ⟨D,rfl,ht1⟩
 refine aft (yu 0 hM ht1) (fun E o=>?_)
 refine sQP tt none o 8 fun G t=>?_
 refine dr1 t 6 ?_
 intro wq hM
 refine m_muV (a:=(k:Int)) (c:=(⟨((mgt s.m (k:Int)).a),((mgt s.m (k:Int)).b),(mgt s.m (k:Int)).exp,false⟩:Ed)) (mm:=s.m) (enc:=Ed.enc) (k:=.i64) (L' := [(lctR s.fb s.nb (edges+verts+1)),blk g 192 [(Za ((mgt s.m (k:Int)).a:Int)),(Za ((mgt s.m (k:Int)).b:Int)),(Za ((mgt s.m (k:Int)).exp)),Zp],blk ob 174 (Zbb verts edges s (some s.mb)),(QS.R s.hb edges s.q),mapV s.mb .i64 Ed.enc (mput s.m (k:Int) (⟨((mgt s.m (k:Int)).a),((mgt s.m (k:Int)).b),(mgt s.m (k:Int)).exp,false⟩:Ed))]) 4 rfl rfl rfl rfl yaj ye hM rfl rfl (fun _ h=>(aft h (fun H f=>?_)))
 refine pQL tt none f 6 ?_
 refine ar (e:=(IntKind.i64.wrap (s.trees-1))) rfl rfl rfl rfl rfl (sLQ f 4 fun I u=>?_)
 refine end0 Tryz.results104 ?_
 have v:=yj [2,0,3,4,1] u
 exact⟨(⟨s.fb,s.nb,s.hb,s.mb,(IntKind.i64.wrap (s.trees-1)),s.q,(mput s.m (k:Int) (⟨((mgt s.m (k:Int)).a),((mgt s.m (k:Int)).b),(mgt s.m (k:Int)).exp,false⟩:Ed))⟩:GW),rfl,yv (yw (p:=GW.ok verts edges (⟨s.fb,s.nb,s.hb,s.mb,(IntKind.i64.wrap (s.trees-1)),s.q,(mput s.m (k:Int) (⟨((mgt s.m (k:Int)).a),((mgt s.m (k:Int)).b),(mgt s.m (k:Int)).exp,false⟩:Ed))⟩:GW)) (yc [_,_,_,_] _ v) (hG.put (by exact⟨hke.a,hke.b,hke.exp⟩))) zh⟩
end
end Go.Proofs.YtdopagghhibopaaGreat
