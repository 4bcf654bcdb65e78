/- What the functions that the statements reach do: walks through the code of the program and of the references, one theorem a function; under what is said of its arguments. -/
import Derived.Test.YtdopagghhibopaaGreatFc
import Derived.Test.YtdopagghhibopaaGreatVa
import Derived.Test.YtdopagghhibopaaGreatFa
import Derived.Test.YtdopagghhibopaaGreatFd
import Derived.Ground.Names2Prog
import Derived.Shelf.Slices.Delete
import Derived.Test.YtdopagghhibopaaGreatFb
set_option linter.unusedVariables false
set_option linter.unusedSimpArgs false
set_option maxRecDepth 100000
set_option maxHeartbeats 4000000
namespace Go.Proofs.YtdopagghhibopaaGreat
section
open Go Go.Sx
theorem IF(tb ab:Nat)(t:TW)(w:World)(hO:Own (TW.R tb ab t) w)(id:Int)(i:Nat)(hi:t.A.ia i)(hid:fM t.ids i=id) :
 CR ya 101 (qJ tb id) w (fun r w' => ∃ (t2:TW),r = .int .i64 0/\((∀ x,t2.mem x↔t.mem x/\x≠id)/\t2.A.n=t.A.n/\t2.A.used=t.A.used-1/\0<t.A.used)/\gm (TW.R tb ab t) w w' (TW.R tb ab t2)):=by
 have hnl:t.cs.length=t.n:=rfl
 have htop:=hO.fact.top
 obtain⟨p,hp,hc,hf⟩:=hO.fact.Ir hi
 rw[hid]at hf
 have hin:=(hO.fact.val hp hc).2.2.2
 have hin2:i<65536:=z6 hin hO.fact.an
 have hil:=(hO.fact.val hp hc).2.2.1
 refine en Tryz.func101 Tryz.ntmps101 ?_
 have hst0:=Own.of hO.un
 have hT:t.ok:=hO.fact
 have j:=yc [_,_,_] _ hst0
 refine gf hst0 9 ?_
 refine cl xB (xe tb ab t w (yd j (i:=0) rfl) hT) ?_
 rintro _ s ⟨rfl,ht⟩
 have l:=(yp j ht)
 have m:=yc [_,_,_] _ l
 refine fQ l 10 ?_
 refine cl B2 (BC tb ab t s (yd m (i:=0) rfl) hT id p true hf) ?_
 rintro _ u ⟨rfl,ht⟩
 have a:=(yp m ht)
 refine fQ a 24 ?_
 refine jj (cf:=gP) (k:=p) (i:=(p:Int)) rfl rfl rfl yh gn (yf a (i:=2) rfl f_) o_ o_ (gA om) (l6 (cf:=gP) rfl rfl ye rfl (yf a (i:=2) rfl f_) (gA om) rfl (ar (e:=((i:Nat):Int)) rfl rfl rfl rfl (by rw[iZ o_];omega) (fQ a 11 ?_)))
 refine cl Pc (Ng ab t.w u (yd a (i:=3) rfl) i hi) ?_
 rintro _ y ⟨b,rfl,c,ht⟩
 have d:=yu 3 a ht
 have hA9:=(kj d (i:=3) rfl:b.A.ok)
 have o:=yc [_,_,_] _ d
 refine fQ d 16 ?_
 refine cl XP (TQ tb ab t y (yd o (i:=0) rfl) hT p i hp hc) ?_
 rintro _ z ⟨rfl,g,hnl9,hcd9,ht⟩
 have h:=(yp o ht)
 refine fQ h 9 ?_
 refine jj (cf:=jH) (k:=i) (i:=((i:Nat):Int)) rfl rfl rfl nj iU (yf h (i:=1) rfl f_) o_ o_ (gA om) (se (f:=(fun _=>0)) (L' := (Rj tb ab t (fR t.ids i (fun _=>0)) g b)) 1 rfl rfl rfl rfl iU rfl rfl h rfl f_ om rfl rfl rfl (fun B q=>fW q 8 ?_))
 refine gw (v:=Zc) Tryz.results101 rfl ?_
 have hpo:=hT.del hi hA9 c hnl9 hcd9 t.iv t.cv (is2:=fR t.ids i (fun _=>0)) rfl
 rw[hid]at hpo
 exact⟨⟨t.iv,t.cv,b,fR t.ids i (fun _=>0),g⟩,rfl,⟨hpo.2,c.n,c.used,c.pos⟩,yv (yw (p:=(⟨t.iv,t.cv,b,fR t.ids i (fun _=>0),g⟩:TW).ok) (yc [_,_,_,_] _ q) hpo.1) zh⟩
theorem Ug(v:Value)(xs:List Int)(w:World)(hv:jx 1 jH (fun _=>True) w v xs)(hl0:xs.length<=1000000) :
 CR ya 142 #[v] w (fun r w' => pQ 1 jH w w' r 30 xs/\gB [] w w'):=by
 refine en Tryz.func142 Tryz.ntmps142 ?_
 have hst0:=jO w
 refine gf hst0 9 ?_
 refine Ek (v:=v) rfl rfl rfl nj hv (gL hst0 2 ?_)
 cases e:(xW v:Bool)
 . skip
   refine gf hst0 5 ?_
   refine lC (vs:=[]) (cs:=[]) rfl rfl nj iU rfl (by intro v hv;simp at hv) rfl rfl rfl hst0 ?_
   intro f g h i c
   have d:=c
   refine fQ c 1 ?_
   refine mZ (cf:=jH) (ys:=[]) (zs:=xs) (LL:=fun a=>[fV jH a 30 1 xs]) 0 rfl rfl rfl nj iU rfl d_ d rfl (jx.src (lZ d s_ d_ hv) f_) (zM f_ _) (by simp only[zq];omega) (by simp only[zq];omega) f_ (fun a j b k=>fW b 4 ?_)
   refine gw (v:=a) Tryz.results142 rfl ?_
   exact⟨AQ b s_,b.gK s_⟩
 . skip
   refine jm hst0 8 ?_
   refine gw (v:=Zk) Tryz.results142 rfl ?_
   obtain rfl:=DZ e hv
   exact⟨pQ.Fg, hst0.gK s_⟩
theorem Mf(v:Value)(xs:List Nat)(w:World)(hv:jx 1 gP (fun _=>True) w v xs)(hl0:xs.length<=1000000) :
 CR ya 95 #[v] w (fun r w' => pQ 1 gP w w' r 3 xs/\gB [] w w'):=by
 refine en Tryz.func95 Tryz.ntmps95 ?_
 have hst0:=jO w
 refine gf hst0 9 ?_
 refine Ek (v:=v) rfl rfl rfl yh hv (gL hst0 2 ?_)
 cases e:(xW v:Bool)
 . skip
   refine gf hst0 5 ?_
   refine lC (vs:=[]) (cs:=[]) rfl rfl yh gn rfl (by intro v hv;simp at hv) rfl rfl rfl hst0 ?_
   intro f g h i c
   have d:=c
   refine fQ c 1 ?_
   refine mZ (cf:=gP) (ys:=[]) (zs:=xs) (LL:=fun a=>[fV gP a 3 1 xs]) 0 rfl rfl rfl yh gn rfl d_ d rfl (jx.src (lZ d s_ d_ hv) f_) (zM f_ _) (by simp only[zq];omega) (by simp only[zq];omega) f_ (fun a j b k=>fW b 4 ?_)
   refine gw (v:=a) Tryz.results95 rfl ?_
   exact⟨AQ b s_,b.gK s_⟩
 . skip
   refine jm hst0 8 ?_
   refine gw (v:=Zk) Tryz.results95 rfl ?_
   obtain rfl:=DZ e hv
   exact⟨pQ.Fg, hst0.gK s_⟩
theorem U5(tb ab:Nat)(t:TW)(w:World)(hO:Own (TW.R tb ab t) w) :
 CR ya 92 (Zl tb) w (fun r w' => ∃ (tb2 ab2:Nat) (t2:TW),r = .pointer (some ⟨tb2,0,none⟩)/\((∀ x,t2.mem x↔t.mem x)/\t2.A.n=t.A.n/\t2.A.used=t.A.used)/\gm (TW.R tb ab t) w w' (gF [(TW.R tb ab t),(TW.R tb2 ab2 t2)])):=by
 have hnl:t.cs.length=t.n:=rfl
 have htop:=hO.fact.top
 have hil:t.ids.length=t.w.A.begun:=hO.fact.yL
 have hbeg:t.w.A.begun<=t.w.A.n:=hO.fact.o5
 have han:t.w.A.n<=65536:=hO.fact.an
 refine en Tryz.func92 Tryz.ntmps92 ?_
 have hst0:=Own.of hO.un
 have hT:t.ok:=hO.fact
 have f:=yc [_,_,_] _ hst0
 refine gf hst0 9 ?_
 refine cl xB (xe tb ab t w (yd f (i:=0) rfl) hT) ?_
 rintro _ D ⟨rfl,ht⟩
 have g:=(yp f ht)
 refine gL g 7 ?_
 refine oh (Γ:=Nat×AW×Value×Value×Nat) mixed [[],[0],[0,1],[0,1,2],[0,1,2,3],[],[5],[5,6],[5,6,7],[0,1,2,3,4,5,6,7,8],[],[10],[10,11],[10,11,12],[0,1,2,3,4,5,6,7,8,9,10,11,12,13],[0,1,2,3,4,5,6,7,8,9,10,11,12,13,14],[0,1,2,3,4,5,6,7,8,9,10,11,12,13,14,15],[0,1,2,3,4,5,6,7,8,9,10,11,12,13,14,15,16]] [4,9,14,16] d_ [fun _=>(Zb tb),fun _=>(Zb tb),fun _=>(Bo tb),fun _=>(Zb ab),fun(c,d,a,b,e)=>(Zb c),fun _=>(Zb tb),fun _=>(Zb tb),fun _=>(qh tb),fun _=>t.iv,fun(c,d,a,b,e)=>a,fun _=>(Zb tb),fun _=>(Zb tb),fun _=>(yT tb),fun _=>t.cv,fun(c,d,a,b,e)=>b,fun(c,d,a,b,e)=>(Kj c a b),fun(c,d,a,b,e)=>(Zb e),fun(c,d,a,b,e)=>(Zb e)] [(fun(c,d,a,b,e)=>[blk tb 258 (oq tb ab t),fV jH t.iv 30 1 t.ids,fV gP t.cv 3 1 t.cs,(AW.R ab t.w)],fun _ _=>True),(fun(c,d,a,b,e)=>[blk tb 258 (oq tb ab t),fV jH t.iv 30 1 t.ids,fV gP t.cv 3 1 t.cs,jZ (∃ qs,d.A={ t.w.A with ps:=qs }) (Cz ab t.w c d)],fun _ _=>True),(fun(c,d,a,b,e)=>[fV jH a 30 1 t.ids,blk tb 258 (oq tb ab t),fV jH t.iv 30 1 t.ids,fV gP t.cv 3 1 t.cs,jZ (∃ qs,d.A={ t.w.A with ps:=qs }) (Cz ab t.w c d)],fun _ _=>True),(fun(c,d,a,b,e)=>[fV gP b 3 1 t.cs,fV jH a 30 1 t.ids,blk tb 258 (oq tb ab t),fV jH t.iv 30 1 t.ids,fV gP t.cv 3 1 t.cs,jZ (∃ qs,d.A={ t.w.A with ps:=qs }) (Cz ab t.w c d)],fun _ _=>True),(fun(c,d,a,b,e)=>[blk e 258 [Z6,(Zb c),a,b],fV gP b 3 1 t.cs,fV jH a 30 1 t.ids,blk tb 258 (oq tb ab t),fV jH t.iv 30 1 t.ids,fV gP t.cv 3 1 t.cs,jZ (∃ qs,d.A={ t.w.A with ps:=qs }) (Cz ab t.w c d)],fun _ _=>True)] (ab,t.w,Zk,Zk,0) (fun(c,d,a,b,e)=>(3,(Zb e)) :: (23,(Zb e)) :: (22,(Kj c a b)) :: (21,b) :: (20,t.cv) :: (19,(yT tb)) :: (18,(Zb tb)) :: (17,(Zb tb)) :: (16,a) :: (15,t.iv) :: (14,(qh tb)) :: (13,(Zb tb)) :: (12,(Zb tb)) :: (11,(Zb c)) :: (10,(Zb ab)) :: (9,(Bo tb)) :: (8,(Zb tb)) :: (7,(Zb tb)) :: _) rfl g (fun _ _=>trivial) ?_ (fun(c,d,a,b,e)=>rfl) rfl ?_
 . skip
   refine gp (fun(c,d,a,b,e) _=>iy (v:=(Zb tb)) rfl) ?_
   refine gp (fun(c,d,a,b,e) _=>j6 rfl) ?_
   refine gp (fun(c,d,a,b,e) _=>jy (o' := 1) rfl yZ rfl Cc rfl) ?_
   refine l9 rfl rfl rfl rfl (fun(c,d,a,b,e) wq hM hF=>qv rfl rfl (gU rfl Gp rfl (yo hM (i:=0) rfl rfl))) (jK rfl rfl rfl rfl (fun(c,d,a,b,e) wq hM hF=>kD rfl rfl (i6 rfl PJ) (M4 ab t.w wq (yd hM (i:=3) rfl)) (fun _ _ hz=>by obtain⟨k,l,rfl,hF1,ht1⟩:=hz;exact⟨(k,l,a,b,e),⟨(yu 3 hM (ht1.oC hF1)),trivial⟩,rfl,fS rfl (fS rfl (fS rfl (fS rfl (fS trivial (fS rfl (fS rfl (fS rfl (fS rfl (fS trivial (fS rfl (fS rfl (fS rfl (fS rfl (fS trivial (fS trivial (fS trivial (fS trivial (kO))))))))))))))))))⟩)) (gp (fun(c,d,a,b,e) _=>iy (v:=(Zb tb)) rfl) ?_))
   refine gp (fun(c,d,a,b,e) _=>j6 rfl) ?_
   refine gp (fun(c,d,a,b,e) _=>jy (o' := 2) rfl yZ rfl AF rfl) ?_
   refine nL rfl rfl rfl rfl rfl (fun(c,d,a,b,e) wq hM hF=>qv rfl rfl (gU rfl nj rfl (yo hM (i:=0) rfl rfl))) (fun(c,d,a,b,e) wq hM hF=>qv rfl rfl (gU rfl nj rfl (yo hM (i:=0) rfl rfl))) (jK rfl rfl rfl rfl (fun(c,d,a,b,e) wq hM hF=>kD rfl rfl (i6 rfl XJ) (Ug t.iv t.ids wq (yf hM (i:=1) rfl f_).any (by first|omega|(simp;omega))) (fun m _ hz=>⟨(c,d,m,b,e),⟨(uT hM hz.2 hz.1),trivial⟩,rfl,fS rfl (fS rfl (fS rfl (fS rfl (fS rfl (fS rfl (fS rfl (fS rfl (fS rfl (fS trivial (fS rfl (fS rfl (fS rfl (fS rfl (fS trivial (fS trivial (fS trivial (fS trivial (kO))))))))))))))))))⟩)) (gp (fun(c,d,a,b,e) _=>iy (v:=(Zb tb)) rfl) ?_))
   refine gp (fun(c,d,a,b,e) _=>j6 rfl) ?_
   refine gp (fun(c,d,a,b,e) _=>jy (o' := 3) rfl yZ rfl ox rfl) ?_
   refine vR rfl rfl rfl rfl rfl rfl (fun(c,d,a,b,e) wq hM hF=>qv rfl rfl (gU rfl yh rfl (yo hM (i:=0) rfl rfl))) (fun(c,d,a,b,e) wq hM hF=>qv rfl rfl (gU rfl yh rfl (yo hM (i:=0) rfl rfl))) (fun(c,d,a,b,e) wq hM hF=>qv rfl rfl (gU rfl yh rfl (yo hM (i:=1) rfl rfl))) (jK rfl rfl rfl rfl (fun(c,d,a,b,e) wq hM hF=>kD rfl rfl (i6 rfl O1) (Mf t.cv t.cs wq (yf hM (i:=3) rfl f_).any (by first|omega|(simp;omega))) (fun o _ hz=>⟨(c,d,a,o,e),⟨(uT hM hz.2 hz.1),trivial⟩,rfl,fS rfl (fS rfl (fS rfl (fS rfl (fS rfl (fS rfl (fS rfl (fS rfl (fS rfl (fS rfl (fS rfl (fS rfl (fS rfl (fS rfl (fS trivial (fS trivial (fS trivial (fS trivial (kO))))))))))))))))))⟩)) (l9 rfl rfl rfl rfl (fun(c,d,a,b,e) wq hM hF=>qv rfl rfl (xH (pvs:=[(1,(Zb c)),(2,a),(3,b)]) (v:=.agg #[Z6,(Zb c),a,b]) rfl (jS [(1,(Zj c)),(2,[a]),(3,[b])] EN Pw rfl ⟨rfl,rfl,rfl,(cells_one (mS hM (i:=1) rfl)),rfl,(cells_one (mS hM (i:=0) rfl)),trivial⟩ rfl))) (jK rfl rfl rfl rfl (fun(c,d,a,b,e) wq hM hF=>Fi (v:=(Kj c a b)) (cs:=[Z6,(Zb c),a,b]) rfl rfl rfl hM (fun q _ h=>⟨(c,d,a,b,q),⟨h,trivial⟩,rfl,fS rfl (fS rfl (fS rfl (fS rfl (fS rfl (fS rfl (fS rfl (fS rfl (fS rfl (fS rfl (fS rfl (fS rfl (fS rfl (fS rfl (fS rfl (fS rfl (fS trivial (fS trivial (kO))))))))))))))))))⟩)) (gp (fun(c,d,a,b,e) _=>pV (v:=(Zb e)) rfl) ?_))))
   exact og
 rintro⟨c,d,a,b,e⟩ E s -
 have j:=yi [6,0,1,2,3,4,5] s
 have u:=nT j
 have y:=kB j
 have z:=mG y
 refine KS tt none z 17 fun G B=>?_
 refine gw (v:=(Zb e)) Tryz.results92 rfl ?_
 have C:=yi [5,6,7,0,2,4,3,1] B
 obtain⟨qs9,hq9⟩:=u
 have hpo:=hT.copy hq9 a b
 have hs9:=yw (p:=t.ok) (yc [_,_,_,_] _ C) hT
 have hs10:=yw (p:=(⟨a,b,d,t.ids,t.cs⟩:TW).ok) (yc [_,_,_,_] _ (oH hs9 (sC (l₁:=[_]) (l₂:=[_,_,_,_]) |>.append_right _))) hpo.1
 have hs11:=oH hs10 (List.Perm.swap _ _ _)
 exact⟨e,c,⟨a,b,d,t.ids,t.cs⟩,rfl,⟨hpo.2,by rw[show TW.A ⟨a,b,d,t.ids,t.cs⟩=_ from hq9],by rw[show TW.A ⟨a,b,d,t.ids,t.cs⟩=_ from hq9]⟩,yq (yc [_,_] _ hs11)⟩
theorem Xc(m:Nat)(w:World)(hm:m<=65536) :
 CR ya 81 (sM ((m:Nat):Int)) w (fun r w' => ∃ (tb ab:Nat) (t:TW),r = .tuple (qS tb)/\((∀ x,¬ t.mem x)/\t.A.n=m/\t.A.used=0)/\gm (gF []) w w' (TW.R tb ab t)):=by
 refine en Tryz.func81 Tryz.ntmps81 ?_
 have hst0:=jO w
 refine gf hst0 9 ?_
 refine cl Pt (N3 m w hm) ?_
 rintro _ z ⟨b,d,rfl,g,ht⟩
 have h:=(pn hst0 ht)
 refine gL h 24 ?_
 refine lp (α:=Nat) (fun k=>[(0,(Za ((m:Nat):Int))),(2,Z6),(3,Zc),(4,(Zb b)),(5,Zc),(6,(Za ((k:Nat):Int)))]) (fun k w1=>St [(w,[])] [(AW.R b d)] w1/\P2 k/\2<=k/\(k=2\/k<4*m)) (fun k=>4*m-k) 2 ⟨rfl,rfl,rfl,rfl,rfl,gD (by first|rfl|omega),trivial⟩ (⟨h,P2.two,o_,.inl rfl⟩) ?_
 rintro k B C ⟨hst3,hp2,hk2,hk3⟩
 have hk5:k<=262144:=by omega
 refine gf hst3 6 ?_
 by_cases D:(((k:Nat):Int):Int)<(2*((m:Nat):Int):Int)
 . refine fQ hst3 9 ?_
   refine ar (e:=((k*2:Nat):Int)) rfl rfl rfl rfl (by rw[iZ o_];omega) (fW hst3 3 ?_)
   refine tN (?_)
   exact again (k*2) ⟨rfl,rfl,rfl,rfl,rfl,gD (by first|rfl|omega),trivial⟩ (⟨hst3,hp2.dbl o_,o_,o_⟩) o_
 . refine fQ hst3 13 ?_
   refine E4 (cf:=gP) (z0:=0) (m:=k) (c:=k) rfl rfl rfl yh gn rfl f_ d_ (zp _) o_ o_ hst3 (fun a E G H j=>kf (pvs:=[(1,(Zb b)),(3,(Zv a k))]) (v:=.agg (QD b a k)) rfl rfl (jS [(1,(Zj b)),(3,(F9 a k))] EN Pw rfl ⟨rfl,rfl,rfl,rfl,trivial⟩ rfl) (bx (v:=(.agg (QD b a k))) (cs:=[Z6,(Zb b),Zk,(Zv a k)]) rfl rfl rfl j (fun f I J K l=>mR l 20 fun o q=>?_)))
   refine jU (v:=(Zb f)) (v' := Zc) Tryz.results81 rfl rfl ?_
   have s:=St.Ei (cf:=gP) q (i:=1) rfl f_ (zp _) (by simp only[maxLen];omega)
   have u:St _ [fV jH Zk 30 1 ([]),blk f 258 [(Zb f),(Zb b),Zk,(Zv a k)],fV gP (Zv a k) 3 1 (List.replicate k 0),(AW.R b d)] o:=sI s 30 1
   have y:=yi [1,0,2,3] u
   have hpo:=TW.vN g hm hp2 hk2 o_ o_ Zk (Zv a k)
   exact⟨f,b,⟨.slice none 0 0,(Zv a k),d,[],List.replicate k 0⟩,rfl,⟨hpo.2,by rw[show TW.A ⟨.slice none 0 0,(Zv a k),d,[],List.replicate k 0⟩=_ from g];rfl,by rw[show TW.A ⟨.slice none 0 0,(Zv a k),d,[],List.replicate k 0⟩=_ from g];rfl⟩,St.BS (yw (p:=(⟨.slice none 0 0,(Zv a k),d,[],List.replicate k 0⟩:TW).ok) (yc [_,_,_,_] _ y) hpo.1) s_⟩
end
section
open Go Go.Sx
def fZ.R(fO fN ub:Nat)(s:fZ):gh:=jZ (s.ok fO fN) (gF [blk ub 130 (Z7 fO fN s (some s.mb)),fV Lv.cells s.lv 34 7 s.live,gQ s.mb .u64 p_ s.im,iL 3 s.im,(AW.R s.iO s.aw),(TW.R s.tb s.ab s.t)])
theorem BE(fO fN ub:Nat)(s:fZ)(w:World)(hO:Own (fZ.R fO fN ub s) w) :
 CR ya 57 (Zl ub) w (fun r w' => r = .bool true/\gm (fZ.R fO fN ub s) w w' (fZ.R fO fN ub s)):=by
 refine en Tryz.func57 Tryz.ntmps57 ?_
 have hst0:=Own.of hO.un
 have hU:s.ok fO fN:=hO.fact
 refine gf hst0 8 ?_
 refine qR (a:=some ⟨ub,0,none⟩) (c:=true) rfl rfl rfl Gl rfl (fQ hst0 5 ?_)
 refine QZ (a:=some s.mb) (c:=true) rfl rfl rfl ym rfl (fW hst0 5 ?_)
 refine gw (v:=Zf) Tryz.results57 rfl ?_
 exact⟨rfl,yv (yw (p:=fZ.ok fO fN s) (yc [_,_,_,_,_,_] _ hst0) hU) zh⟩
theorem Mk(fO fN ub:Nat)(s:fZ)(w:World)(hO:Own (fZ.R fO fN ub s) w)(id:Int) :
 CR ya 54 (qJ ub id) w (fun r w' => ∃ (z:Nat) (b:Bool),r = .tuple (ve z b)/\s.t.wC id z b/\gm (fZ.R fO fN ub s) w w' (fZ.R fO fN ub s)):=by
 refine en Tryz.func54 Tryz.ntmps54 ?_
 have hst0:=Own.of hO.un
 have hU:s.ok fO fN:=hO.fact
 have c:=yw (p:=s.ok fO fN) (yc [_,_,_,_,_,_] _ hst0) hU
 refine gf hst0 10 ?_
 refine cl B7 (BE fO fN ub s w (yd c (i:=0) rfl)) ?_
 rintro _ g ⟨rfl,ht⟩
 have h:=yu 0 c ht
 have a:=(kB h).unpack
 refine fQ a 13 ?_
 refine cl EP (D6 s.tb s.ab s.t g (yd a (i:=5) rfl) id) ?_
 rintro _ k ⟨d,e,rfl,j,ht⟩
 have f:=yu 5 a ht
 refine fW f 7 ?_
 refine jU (v:=(Za d)) (v' := (.bool e)) Tryz.results54 rfl rfl ?_
 exact⟨d,e,rfl,j,yv (yw (p:=fZ.ok fO fN s) (yc [_,_,_,_,_,_] _ f) hU) zh⟩
end
section
open Go Go.Sx
theorem Hx(fO fN ub:Nat)(s:fZ)(w:World)(hO:Own (fZ.R fO fN ub s) w)(x:Lv) :
 CR ya 44 (CA ub x) w (fun r w' => r = .int .i64 (s.gG fO fN x.u x.v)/\gm (fZ.R fO fN ub s) w w' (fZ.R fO fN ub s)):=by
 have htu:s.t.A.used<=s.t.A.n:=hO.fact.tok.ul
 have hUn:=hO.fact.n
 have hUt:=hO.fact.tn
 have hUe:=hO.fact.en
 have hUv:=hO.fact.vn
 have hAu:s.A.used<=s.A.begun:=by have h7:=hO.fact.lX.used;omega
 have hAl:=hO.fact.lX.le
 refine en Tryz.func44 Tryz.ntmps44 ?_
 have hst0:=Own.of hO.un
 have hU:s.ok fO fN:=hO.fact
 refine gf hst0 2 ?_
 refine bx (v:=(tZ x)) (cs:=(Zp x)) rfl rfl rfl hst0 ?_
 intro X B Y Z k
 have C:=yi [1,2,3,4,5,6,0] k
 have l:=yw (p:=s.ok fO fN) (yc [_,_,_,_,_,_] _ C) hU
 refine fQ k 7 ?_
 refine cl B7 (BE fO fN ub s B (yd l (i:=0) rfl)) ?_
 rintro _ aa ⟨rfl,ht⟩
 have D:=yu 0 l ht
 have d:=(kB D).unpack
 refine fQ d 10 ?_
 refine ld rfl rfl yg rfl (yo d (i:=6) rfl rfl) (fQ d 1 ?_)
 refine ld rfl rfl yg rfl (yo d (i:=6) rfl rfl) ?_
 by_cases ac:(x.u:Int)=(x.v:Int)
 . refine fW d 11 ?_
   refine gw (v:=(.int .i64 9)) tP rfl ?_
   exact⟨gD (fZ.Ns o_).symm,yv (yw (p:=fZ.ok fO fN s) (yc [_,_,_,_,_,_] _ d) hU) zh⟩
 . refine gL d 8 ?_
   by_cases ad:((s.A.used:Int):Int)≥((fN:Int):Int)
   . skip
     refine jN d 4 ?_
     intro wq hM
     refine kD rfl rfl (i6 rfl JD) (ID s.iO s.aw wq (yd hM (i:=4) rfl)) ?_
     rintro _ _ ⟨rfl,ht1⟩
     refine jM (yu 4 hM ht1) (fun ae m=>?_)
     have E:=yi [4,0,1,2,3,5,6] m
     refine iN tt none E 9 ?_
     refine gw (v:=(.int .i64 12)) tP rfl ?_
     have G:=m
     exact⟨gD (fZ.Mt o_ o_).symm,yv (yw (p:=fZ.ok fO fN s) (yc [_,_,_,_,_,_] _ G) hU) zh⟩
   . skip
     refine jN d 4 ?_
     intro wq hM
     refine kD rfl rfl (i6 rfl JD) (ID s.iO s.aw wq (yd hM (i:=4) rfl)) ?_
     rintro _ _ ⟨rfl,ht1⟩
     refine jM (yu 4 hM ht1) (fun H I=>?_)
     have j:=yi [4,0,1,2,3,5,6] I
     refine ng tt none j 10 ?_
     refine cl ZQ (WM s.tb s.ab s.t H (yd j (i:=5) rfl)) ?_
     rintro _ J ⟨rfl,ht⟩
     have e:=yu 5 j ht
     refine fQ e 7 ?_
     refine ld rfl rfl yg rfl (yo e (i:=6) rfl rfl) (fQ e 1 ?_)
     refine ld rfl rfl yg rfl (yo e (i:=6) rfl rfl) (kf (pvs:=[(0,(Zd x.u)),(1,(Zd x.v))]) (v:=.agg (CT x.u x.v)) rfl rfl (BX [(0,(Zz x.u)),(1,(Zz x.v))] B6 p8 iU rfl ⟨rfl,rfl,rfl,rfl,trivial⟩ rfl s_) (gL e 4 ?_))
     refine sy 3 (ir (gf e 13 ?_))
     refine nt (i:=0) rfl rfl rfl p8 yg rfl iU d_ rfl (fQ e 10 ?_)
     refine cl EP (D6 s.tb s.ab s.t J (yd e (i:=5) rfl) x.u) ?_
     rintro _ o ⟨af,K,rfl,f,ht⟩
     have c:=yu 5 e ht
     refine gL c 13 ?_
     cases q:(K:Bool)
     . skip
       subst q
       refine jm c 12 ?_
       refine tN (?_)
       refine ir (gf c 13 ?_)
       refine nt (i:=1) rfl rfl rfl p8 yg rfl iU d_ rfl (fQ c 10 ?_)
       refine cl EP (D6 s.tb s.ab s.t o (yd c (i:=5) rfl) x.v) ?_
       rintro _ ag ⟨ah,L,rfl,g,ht⟩
       have a:=yu 5 c ht
       refine gL a 13 ?_
       cases y:(L:Bool)
       . skip
         subst y
         refine jm a 12 ?_
         refine tN (?_)
         refine ir (gf a 20 ?_)
         by_cases ai:(((s.t.A.used:Int)+1)+1:Int)>((fO:Int):Int)
         . refine fW a 11 ?_
           refine gw (v:=(.int .i64 11)) tP rfl ?_
           have M:=yi [1,2,3,4,0,5,6] a
           have c0:=f.cnt
           simp at c0
           have c1:=g.cnt
           simp at c1
           exact⟨gD (fZ.BG o_ o_ o_).symm,yv (yw (p:=fZ.ok fO fN s) (yc [_,_,_,_,_,_] _ M) hU) zh⟩
         . refine fW a 12 ?_
           refine gw (v:=Zc) tP rfl ?_
           have N:=yi [1,2,3,4,0,5,6] a
           have c0:=f.cnt
           simp at c0
           have c1:=g.cnt
           simp at c1
           exact⟨gD (fZ.B5 o_ o_ o_).symm,yv (yw (p:=fZ.ok fO fN s) (yc [_,_,_,_,_,_] _ N) hU) zh⟩
       . skip
         subst y
         refine jm a 8 ?_
         refine tN (?_)
         refine ir (gf a 20 ?_)
         by_cases aj:((s.t.A.used:Int)+1:Int)>((fO:Int):Int)
         . refine fW a 11 ?_
           refine gw (v:=(.int .i64 11)) tP rfl ?_
           have O:=yi [1,2,3,4,0,5,6] a
           have c0:=f.cnt
           simp at c0
           have c1:=g.cnt
           simp at c1
           exact⟨gD (fZ.BG o_ o_ o_).symm,yv (yw (p:=fZ.ok fO fN s) (yc [_,_,_,_,_,_] _ O) hU) zh⟩
         . refine fW a 12 ?_
           refine gw (v:=Zc) tP rfl ?_
           have P:=yi [1,2,3,4,0,5,6] a
           have c0:=f.cnt
           simp at c0
           have c1:=g.cnt
           simp at c1
           exact⟨gD (fZ.B5 o_ o_ o_).symm,yv (yw (p:=fZ.ok fO fN s) (yc [_,_,_,_,_,_] _ P) hU) zh⟩
     . skip
       subst q
       refine jm c 8 ?_
       refine tN (?_)
       refine ir (gf c 13 ?_)
       refine nt (i:=1) rfl rfl rfl p8 yg rfl iU d_ rfl (fQ c 10 ?_)
       refine cl EP (D6 s.tb s.ab s.t o (yd c (i:=5) rfl) x.v) ?_
       rintro _ ak ⟨al,Q,rfl,h,ht⟩
       have b:=yu 5 c ht
       refine gL b 13 ?_
       cases z:(Q:Bool)
       . skip
         subst z
         refine jm b 12 ?_
         refine tN (?_)
         refine ir (gf b 20 ?_)
         by_cases am:((s.t.A.used:Int)+1:Int)>((fO:Int):Int)
         . refine fW b 11 ?_
           refine gw (v:=(.int .i64 11)) tP rfl ?_
           have S:=yi [1,2,3,4,0,5,6] b
           have c0:=f.cnt
           simp at c0
           have c1:=h.cnt
           simp at c1
           exact⟨gD (fZ.BG o_ o_ o_).symm,yv (yw (p:=fZ.ok fO fN s) (yc [_,_,_,_,_,_] _ S) hU) zh⟩
         . refine fW b 12 ?_
           refine gw (v:=Zc) tP rfl ?_
           have U:=yi [1,2,3,4,0,5,6] b
           have c0:=f.cnt
           simp at c0
           have c1:=h.cnt
           simp at c1
           exact⟨gD (fZ.B5 o_ o_ o_).symm,yv (yw (p:=fZ.ok fO fN s) (yc [_,_,_,_,_,_] _ U) hU) zh⟩
       . skip
         subst z
         refine jm b 8 ?_
         refine tN (?_)
         refine ir (gf b 20 ?_)
         by_cases an:((s.t.A.used:Int):Int)>((fO:Int):Int)
         . refine fW b 11 ?_
           refine gw (v:=(.int .i64 11)) tP rfl ?_
           have V:=yi [1,2,3,4,0,5,6] b
           have c0:=f.cnt
           simp at c0
           have c1:=h.cnt
           simp at c1
           exact⟨gD (fZ.BG o_ o_ o_).symm,yv (yw (p:=fZ.ok fO fN s) (yc [_,_,_,_,_,_] _ V) hU) zh⟩
         . refine fW b 12 ?_
           refine gw (v:=Zc) tP rfl ?_
           have W:=yi [1,2,3,4,0,5,6] b
           have c0:=f.cnt
           simp at c0
           have c1:=h.cnt
           simp at c1
           exact⟨gD (fZ.B5 o_ o_ o_).symm,yv (yw (p:=fZ.ok fO fN s) (yc [_,_,_,_,_,_] _ W) hU) zh⟩
end
section
open Go Go.Sx
theorem Tl(fO fN ub:Nat)(s:fZ)(w:World)(hO:Own (fZ.R fO fN ub s) w)(x:Lv)(hc:s.gG fO fN x.u x.v=0) :
 CR ya 44 (CA ub x) w (fun r w' => r = .int .i64 0/\gm (fZ.R fO fN ub s) w w' (fZ.R fO fN ub s)):=by
 have h:=Hx fO fN ub s w hO x
 rw[hc]at h
 exact h
theorem DM(tb ab:Nat)(t:TW)(w:World)(hO:Own (TW.R tb ab t) w)(id:Int)(hr:t.mem id\/t.A.used<t.A.n)(hid:ij .u64 id) :
 CR ya 106 (qJ tb id) w (fun r w' => ∃ (z:Nat) (b:Bool) (t2:TW),r = .tuple #[.int .i64 (z:Int),.bool b,.int .i64 0]/\TW.Kp t t2 id/\gm (TW.R tb ab t) w w' (TW.R tb ab t2)):=by
 by_cases hm:t.mem id
 . obtain⟨i,hi,hx⟩:=hm
   exact CR.mono (UU tb ab t w hO id i hi hx) fun r w' ⟨h1,h2⟩=>⟨i,false,t,h1,⟨fun x=>⟨.inl,fun h=>h.elim (fun h=>h) (fun h=>h▸⟨i,hi,hx⟩)⟩,rfl,by rw[TW.Ab ⟨i,hi,hx⟩];rfl⟩,h2⟩
 . exact CR.mono (VL tb ab t w hO id hm hid (hr.resolve_left hm)) fun r w' ⟨i,t2,h1,⟨h2,h3,h4⟩,h5⟩=>⟨i,true,t2,h1,⟨h2,h3,by rw[TW.vL hm];exact h4⟩,h5⟩
theorem LJ(fO fN ub:Nat)(s:fZ)(w:World)(hO:Own (fZ.R fO fN ub s) w)(x:Lv)(hxo:x.ok)(hc:s.gG fO fN x.u x.v=0)(hl1:s.last<=9000000000000000000) :
 CR ya 53 #[(Zb ub),(tZ x),(Za x.exp)] w (fun r w' => ∃ (i:Nat) (s2:fZ),r = .tuple #[(Fl i (s.last+1) x),.int .i64 0]/\((∀ y,s2.has y↔s.has y\/y=⟨(i:Int),s.last+1,x.u,x.v,x.wt,x.t,x.exp⟩)/\s2.last=s.last+1)/\gm (fZ.R fO fN ub s) w w' (fZ.R fO fN ub s2)):=by
 have htu:s.t.A.used<=s.t.A.n:=hO.fact.tok.ul
 have hUn:=hO.fact.n
 have hUt:=hO.fact.tn
 have hUe:=hO.fact.en
 have hUv:=hO.fact.vn
 have hAu:s.A.used<=s.A.begun:=by have h7:=hO.fact.lX.used;omega
 have hAl:=hO.fact.lX.le
 have hAw1:s.aw.A.used=s.A.used:=rfl
 have hAw2:s.aw.A.n=s.A.n:=rfl
 have hAw3:s.aw.A.begun=s.A.begun:=rfl
 have hla:(s.live++[(⟨0,0,0,0,0,0,0⟩:Lv)]).length=s.live.length+1:=by simp
 have hc3:=fZ.MZ hc
 have hl0:=hO.fact.uz
 have hll:=hO.fact.ll
 have hnl2:∀ id,(fU s.im id).2.length<=65536:=fun id=>hO.fact.J2 id
 refine en Tryz.func53 Tryz.ntmps53 ?_
 have hst0:=Own.of hO.un
 have hU:s.ok fO fN:=hO.fact
 refine gf hst0 2 ?_
 refine bx (v:=(tZ x)) (cs:=(Zp x)) rfl rfl rfl hst0 (fun H a7 a8 a9 av=>al (cs:=Zx) rfl iX rfl av ?_)
 intro I ax ba bb ak
 have ay:=yi [2,3,4,5,6,7,0,1] ak
 have am:=yw (p:=s.ok fO fN) (yc [_,_,_,_,_,_] _ ay) hU
 refine fQ ak 8 ?_
 refine cl Jt (Tl fO fN ub s ax (yd am (i:=0) rfl) x hc) ?_
 rintro _ az ⟨rfl,ht⟩
 have aA:=yu 0 am ht
 have X:=(kB aA).unpack
 refine fQ X 18 ?_
 refine cl OD (My s.iO s.aw az (yd X (i:=4) rfl) o_) ?_
 rintro _ bc ⟨b,B,rfl,Y,ht⟩
 have an:=yu 4 X ht
 have hA9:=(kj an (i:=4) rfl:B.A.ok)
 have hib:b<=s.live.length:=by rcases Y.o5 with h9|h9<;>omega
 have hib2:b<=65536:=by omega
 refine yU an 30 fun bd aB=>?_
 refine oh (Γ:=Nat) mixed [[],[],[1],[1,2],[1,2,3],[],[],[0,1,2,3,4,5,6],[],[0,1,2,3,4,5,6,7,8]] [8,9] d_ [fun _=>(Za ((b:Nat):Int)),fun _=>(Zb ub),fun _=>(Zb ub),fun _=>(qh ub),fun _=>(Zd (s.last+1)),fun _=>(tZ x),fun _=>(Za x.exp),fun _=>(Fl ((b:Nat):Int) (s.last+1) x),fun j=>(Zb j),fun _=>undef] [(fun j=>[blk ub 130 (sK fO fN (s.last+1) s (some s.mb)),fV Lv.cells s.lv 34 7 s.live,gQ s.mb .u64 p_ s.im,iL 3 s.im,(AW.R s.iO B),(Z8 s),blk I 34 Zx,blk H 32 (Zp x)],fun _ _=>True),(fun j=>[blk j 34 Zx,blk ub 130 (sK fO fN (s.last+1) s (some s.mb)),fV Lv.cells s.lv 34 7 s.live,gQ s.mb .u64 p_ s.im,iL 3 s.im,(AW.R s.iO B),(Z8 s),blk I 34 Zx,blk H 32 (Zp x)],fun _ _=>True),(fun j=>(QA j ((b:Nat):Int) (s.last+1) x ub fO fN s (some s.mb) B I H),fun _ _=>True)] 0 _ rfl aB (fun _ _=>trivial) ?_ (fun j=>rfl) rfl ?_
 . skip
   refine gp (fun j _=>iy (v:=(Za ((b:Nat):Int))) rfl) ?_
   refine gp (fun j _=>iy (v:=(Zb ub)) rfl) ?_
   refine gp (fun j _=>j6 rfl) ?_
   refine gp (fun j _=>jy (o' := 2) rfl rM rfl iU rfl) ?_
   refine nL rfl rfl rfl rfl rfl (fun j wq hM hF=>qv rfl rfl (gU rfl yg rfl (yo hM (i:=0) rfl rfl))) (fun j wq hM hF=>qv rfl rfl (gU rfl yg rfl (yo hM (i:=1) rfl rfl))) (nL rfl rfl rfl rfl rfl (fun j wq hM hF=>qv rfl rfl (pU (cs:=(Zp x)) rfl qi rfl p6 rfl (kT hM (i:=7) (o:=0) (vs:=(Zp x)) rfl rfl))) (fun j wq hM hF=>qv rfl rfl (pU (cs:=(Zp x)) rfl qi rfl p6 rfl (kT hM (i:=8) (o:=0) (vs:=(Zp x)) rfl rfl))) (gp (fun j _=>iy (v:=(Za x.exp)) rfl) ?_))
   refine gp (fun j _=>xH (pvs:=[(0,(Za ((b:Nat):Int))),(1,(Zd (s.last+1))),(2,(tZ x)),(3,(Za x.exp))]) (v:=.agg #[(Za ((b:Nat):Int)),(Zd (s.last+1)),(Zd x.u),(Zd x.v),(Za x.wt),(Za x.t),(Za x.exp)]) rfl (jS [(0,(Ze ((b:Nat):Int))),(1,(Zz (s.last+1))),(2,(Zp x)),(3,(Ze x.exp))] iX J4 rfl ⟨rfl,rfl,rfl,rfl,rfl,rfl,rfl,rfl,trivial⟩ rfl)) ?_
   refine jK rfl rfl rfl rfl (fun j wq hM hF=>JX (cs:=Zx) rfl iX rfl hM (fun aC _ h=>⟨aC,⟨h,trivial⟩,rfl,fS rfl (fS rfl (fS rfl (fS rfl (fS rfl (fS rfl (fS rfl (fS rfl (fS trivial (fS trivial (kO))))))))))⟩)) (jK rfl rfl rfl rfl (fun j wq hM hF=>nu (L' := (QA j ((b:Nat):Int) (s.last+1) x ub fO fN s (some s.mb) B I H)) 0 rfl rfl rfl rfl iX rfl rfl hM rfl rfl rfl rfl (fun _ h=>⟨j,⟨h,trivial⟩,rfl,jD.refl _ _ _⟩)) ?_)
   exact og
 rintro j be O -
 refine kF tt none O 3 ?_
 refine sy 3 (ir (gf O 7 ?_))
 refine mY (m:=s.live.length) 2 rfl rfl y9 O rfl (fQ O 1 ?_)
 by_cases bf:((s.live.length:Int):Int)<=(((b:Nat):Int):Int)
 . refine fQ O 13 ?_
   refine kf (pvs:=[]) (v:=.agg K7) rfl rfl (jS [] iX J4 rfl trivial rfl) (lC (vs:=[(.agg K7)]) (cs:=Zx) rfl rfl y9 iX rfl (by simp[Value.cells]) rfl rfl rfl O (fun aD bg bh bi ao=>mZ (cf:=Lv.cells) (ys:=s.live) (zs:=[(⟨0,0,0,0,0,0,0⟩:Lv)]) (LL:=fun J=>[row (Zy aD) 34 7 1 (Zx),blk j 34 (Z9 ((b:Nat):Int) (s.last+1) x),blk ub 130 (sK fO fN (s.last+1) s (some s.mb)),fV Lv.cells J 34 7 (s.live++[(⟨0,0,0,0,0,0,0⟩:Lv)]),gQ s.mb .u64 p_ s.im,iL 3 s.im,(AW.R s.iO B),(Z8 s),blk I 34 Zx,blk H 32 (Zp x)]) 3 rfl rfl rfl y9 iX rfl d_ ao rfl (mh ao (i:=0) rfl) (fun x hx=>zz.1 (show List.all _ _=true from rfl) x hx) (by simp only[zn,zk,zq,maxLen];omega) (by simp only[zn,zk,zq,maxLen];omega) f_ ?_))
   intro J bj aE bl
   have W:=yi [1,2,3,4,5,6,7,8,9] aE
   refine fQ W 2 ?_
   refine nq (L' := (Qr j ((b:Nat):Int) (s.last+1) x ub fO fN s J (some s.mb) (s.live++[(⟨0,0,0,0,0,0,0⟩:Lv)]) B I H)) 1 rfl rfl rfl (cells_one (mS W (i:=2) rfl)) Ck rfl (oW (mS W (i:=2) rfl) uJ) W rfl rfl rfl rfl (fun bm S=>fW S 2 ?_)
   refine tN (?_)
   refine ir (gf S 7 ?_)
   refine mY (m:=(s.live++[(⟨0,0,0,0,0,0,0⟩:Lv)]).length) 2 rfl rfl y9 S rfl (fQ S 1 ?_)
   refine cmp rfl rfl rfl (Jq (by simp only[zn,zk,zq];omega)) (gL S 9 ?_)
   refine jN S 7 ?_
   intro wq hM
   refine Ev (f:=(fun _=>(⟨((b:Nat):Int),s.last+1,x.u,x.v,x.wt,x.t,x.exp⟩:Lv))) (L' := (Qr j ((b:Nat):Int) (s.last+1) x ub fO fN s J (some s.mb) (fR (s.live++[(⟨0,0,0,0,0,0,0⟩:Lv)]) b (fun _=>(⟨((b:Nat):Int),s.last+1,x.u,x.v,x.wt,x.t,x.exp⟩:Lv))) B I H)) 2 rfl rfl rfl rfl iX rfl rfl hM rfl f_ om rfl rfl rfl (fun _ h=>(jM h (fun aF M=>?_)))
   refine ng tt none M 5 ?_
   refine ld rfl rfl yg rfl (yo M (i:=8) rfl rfl) (fQ M 1 ?_)
   refine ld rfl rfl yg rfl (yo M (i:=8) rfl rfl) (kf (pvs:=[(0,(Zd x.u)),(1,(Zd x.v))]) (v:=.agg (CT x.u x.v)) rfl rfl (BX [(0,(Zz x.u)),(1,(Zz x.v))] B6 p8 iU rfl ⟨rfl,rfl,rfl,rfl,trivial⟩ rfl s_) (gL M 4 ?_))
   refine sy 3 (ir (gf M 13 ?_))
   refine nt (i:=0) rfl rfl rfl p8 yg rfl iU d_ rfl (fQ M 10 ?_)
   refine cl El (DM s.tb s.ab s.t aF (yd M (i:=6) rfl) x.u (TW.O8 o_) hxo.u) ?_
   rintro _ bn ⟨bo,bp,P,rfl,Z,ht⟩
   have aa:=yu 6 M ht
   have hT9:=(kj aa (i:=6) rfl:P.ok)
   refine gL aa 2 ?_
   have aG:=yi [4,0,1,2,3,5,6,7,8] aa
   have aH:=zB x.u aG
   refine oh (Γ:=Nat×Value) mixed [[],[0],[0,1],[0,1,2],[],[],[5],[5,6],[5,6,7],[],[5,6,7,8,9],[],[11],[5,6,7,8,9,10,11,12],[0,1,2,3,4,5,6,7,8,9,10,11,12,13]] [12,13,14] d_ [fun _=>(Zb ub),fun _=>(Zb ub),fun _=>(Z4 ub),fun _=>(.map (some s.mb)),fun _=>(Zd x.u),fun _=>(Zb ub),fun _=>(Zb ub),fun _=>(Z4 ub),fun _=>(.map (some s.mb)),fun _=>(Zd x.u),fun _=>((fU s.im x.u).1),fun _=>(Za ((b:Nat):Int)),fun(C,d)=>(Zy C),fun(C,d)=>d,fun _=>undef] [(fun(C,d)=>[iB .i64 ((fU s.im x.u).1) 3 (gx (fU s.im x.u).2),iL 3 (gH s.im x.u),blk j 34 (Z9 ((b:Nat):Int) (s.last+1) x),blk ub 130 (xZ fO fN (s.last+1) s J (some s.mb)),fV Lv.cells J 34 7 (fR (s.live++[(⟨0,0,0,0,0,0,0⟩:Lv)]) b (fun _=>(⟨((b:Nat):Int),s.last+1,x.u,x.v,x.wt,x.t,x.exp⟩:Lv))),gQ s.mb .u64 p_ s.im,(AW.R s.iO B),(wo s P),blk I 34 Zx,blk H 32 (Zp x)],fun _ _=>True),(fun(C,d)=>(Rb C ([((b:Nat):Int)]) ((fU s.im x.u).1) (gx (fU s.im x.u).2) (gH s.im x.u) j ((b:Nat):Int) (s.last+1) x ub fO fN s J (some s.mb) (fR (s.live++[(⟨0,0,0,0,0,0,0⟩:Lv)]) b (fun _=>(⟨((b:Nat):Int),s.last+1,x.u,x.v,x.wt,x.t,x.exp⟩:Lv))) B P I H),fun _ _=>True),(fun(C,d)=>(Rb C ([((b:Nat):Int)]) d ((gx (fU s.im x.u).2)++([((b:Nat):Int)])) (gH s.im x.u) j ((b:Nat):Int) (s.last+1) x ub fO fN s J (some s.mb) (fR (s.live++[(⟨0,0,0,0,0,0,0⟩:Lv)]) b (fun _=>(⟨((b:Nat):Int),s.last+1,x.u,x.v,x.wt,x.t,x.exp⟩:Lv))) B P I H),fun _ _=>True),(fun(C,d)=>(AZ C ([((b:Nat):Int)]) d ((gx (fU s.im x.u).2)++([((b:Nat):Int)])) (gH s.im x.u) j ((b:Nat):Int) (s.last+1) x ub fO fN s J (some s.mb) (fR (s.live++[(⟨0,0,0,0,0,0,0⟩:Lv)]) b (fun _=>(⟨((b:Nat):Int),s.last+1,x.u,x.v,x.wt,x.t,x.exp⟩:Lv))) (gi s.im x.u (d,(fU s.im x.u).2++[b])) B P I H),fun _ _=>True)] (0,Zk) (fun(C,d)=>(99,d) :: (98,(Zy C)) :: (97,(Za ((b:Nat):Int))) :: (96,((fU s.im x.u).1)) :: (95,(Zd x.u)) :: (94,(.map (some s.mb))) :: (93,(Z4 ub)) :: (92,(Zb ub)) :: (91,(Zb ub)) :: (90,(Zd x.u)) :: (89,(.map (some s.mb))) :: (88,(Z4 ub)) :: (87,(Zb ub)) :: (86,(Zb ub)) :: _) rfl aH (fun _ _=>trivial) ?_ (fun(C,d)=>rfl) rfl ?_
   . skip
     refine gp (fun(C,d) _=>iy (v:=(Zb ub)) rfl) ?_
     refine gp (fun(C,d) _=>j6 rfl) ?_
     refine gp (fun(C,d) _=>jy (o' := 6) rfl rM rfl rC rfl) ?_
     refine vR rfl rfl rfl rfl rfl rfl (fun(C,d) wq hM hF=>qv rfl rfl (gU rfl ym rfl (yo hM (i:=3) rfl rfl))) (fun(C,d) wq hM hF=>qv rfl rfl (gU rfl ym rfl (yo hM (i:=4) rfl rfl))) (fun(C,d) wq hM hF=>qv rfl rfl (gU rfl ym rfl (yo hM (i:=4) rfl rfl))) (gp (fun(C,d) _=>iy (v:=(Zd x.u)) rfl) ?_)
     refine gp (fun(C,d) _=>iy (v:=(Zb ub)) rfl) ?_
     refine gp (fun(C,d) _=>j6 rfl) ?_
     refine gp (fun(C,d) _=>jy (o' := 6) rfl rM rfl rC rfl) ?_
     refine nL rfl rfl rfl rfl rfl (fun(C,d) wq hM hF=>qv rfl rfl (gU rfl ym rfl (yo hM (i:=3) rfl rfl))) (fun(C,d) wq hM hF=>qv rfl rfl (gU rfl ym rfl (yo hM (i:=4) rfl rfl))) (gp (fun(C,d) _=>iy (v:=(Zd x.u)) rfl) ?_)
     refine nL rfl rfl rfl rfl rfl (fun(C,d) wq hM hF=>qv rfl rfl (tq (a:=x.u) (mm:=s.im) (enc:=p_) (k:=.u64) 5 rfl rfl ym yg ox rfl hM rfl)) (fun(C,d) wq hM hF=>qv rfl rfl (tq (a:=x.u) (mm:=s.im) (enc:=p_) (k:=.u64) 6 rfl rfl ym yg ox rfl hM rfl)) (gp (fun(C,d) _=>iy (v:=(Za ((b:Nat):Int))) rfl) ?_)
     refine jK rfl rfl rfl rfl (fun(C,d) wq hM hF=>Ap (vs:=(Ze ((b:Nat):Int))) (cs:=(Ze ((b:Nat):Int))) rfl rfl yh gn rfl (by simp[Value.cells]) rfl rfl rfl hM (fun aI _ h=>⟨(aI,d),⟨h,trivial⟩,rfl,fS rfl (fS rfl (fS rfl (fS rfl (fS rfl (fS rfl (fS rfl (fS rfl (fS rfl (fS rfl (fS rfl (fS rfl (fS trivial (fS trivial (fS trivial (kO)))))))))))))))⟩)) (jK rfl rfl rfl rfl (fun(C,d) wq hM hF=>Ew (k:=.i64) (ys:=gx (fU s.im x.u).2) (zs:=[((b:Nat):Int)]) 1 rfl rfl rfl yh gn rfl hM rfl (mh hM (i:=0) rfl) (by simp only[zn,zk,zq,gx,zu,maxLen];have h7:=hnl2 x.u;have h8:=hnl2 x.v;first|omega|(rw[sR hc3.1];omega)) (by simp only[zn,zk,zq,gx,zu,maxLen];have h7:=hnl2 x.u;have h8:=hnl2 x.v;first|omega|(rw[sR hc3.1];omega)) (fun aJ _ h=>⟨(C,aJ),⟨h,trivial⟩,rfl,fS rfl (fS rfl (fS rfl (fS rfl (fS rfl (fS rfl (fS rfl (fS rfl (fS rfl (fS rfl (fS rfl (fS rfl (fS rfl (fS trivial (fS trivial (kO)))))))))))))))⟩)) (jK rfl rfl rfl rfl (fun(C,d) wq hM hF=>xG (a:=x.u) (c:=(d,(fU s.im x.u).2++[b])) (mm:=s.im) (enc:=p_) (k:=.u64) (L' := (AZ C ([((b:Nat):Int)]) d ((gx (fU s.im x.u).2)++([((b:Nat):Int)])) (gH s.im x.u) j ((b:Nat):Int) (s.last+1) x ub fO fN s J (some s.mb) (fR (s.live++[(⟨0,0,0,0,0,0,0⟩:Lv)]) b (fun _=>(⟨((b:Nat):Int),s.last+1,x.u,x.v,x.wt,x.t,x.exp⟩:Lv))) (gi s.im x.u (d,(fU s.im x.u).2++[b])) B P I H)) 6 rfl rfl rfl rfl ym yg hM rfl rfl (fun _ h=>⟨(C,d),⟨h,trivial⟩,rfl,jD.refl _ _ _⟩)) ?_))
     exact og
   rintro⟨C,d⟩ ap aK -
   have aL:=yi [1,2,3,4,5,6,7,8,9,10] aK
   have U:St _ (Ri (gi s.im x.u (d,(fU s.im x.u).2++[b])) j ((b:Nat):Int) (s.last+1) x ub fO fN s J (some s.mb) (fR (s.live++[(⟨0,0,0,0,0,0,0⟩:Lv)]) b (fun _=>(⟨((b:Nat):Int),s.last+1,x.u,x.v,x.wt,x.t,x.exp⟩:Lv))) B P I H) ap:=yE (by have h9:=aL;rw[<-DG]at h9;exact h9)
   refine iN tt none U 6 ?_
   refine tN (?_)
   refine ir (gf U 13 ?_)
   refine nt (i:=1) rfl rfl rfl p8 yg rfl iU d_ rfl (fQ U 10 ?_)
   refine cl El (DM s.tb s.ab P ap (yd U (i:=6) rfl) x.v (Z.room o_) hxo.v) ?_
   rintro _ bq ⟨br,bs,K,rfl,aq,ht⟩
   have ac:=yu 6 U ht
   have hT9:=(kj ac (i:=6) rfl:K.ok)
   refine gL ac 2 ?_
   have aM:=zB x.v ac
   refine oh (Γ:=Nat×Value) mixed [[],[0],[0,1],[0,1,2],[],[],[5],[5,6],[5,6,7],[],[5,6,7,8,9],[],[11],[5,6,7,8,9,10,11,12],[0,1,2,3,4,5,6,7,8,9,10,11,12,13]] [12,13,14] d_ [fun _=>(Zb ub),fun _=>(Zb ub),fun _=>(Z4 ub),fun _=>(.map (some s.mb)),fun _=>(Zd x.v),fun _=>(Zb ub),fun _=>(Zb ub),fun _=>(Z4 ub),fun _=>(.map (some s.mb)),fun _=>(Zd x.v),fun _=>((fU (gi s.im x.u (d,(fU s.im x.u).2++[b])) x.v).1),fun _=>(Za ((b:Nat):Int)),fun(D,l)=>(Zy D),fun(D,l)=>l,fun _=>undef] [(fun(D,l)=>[iB .i64 ((fU (gi s.im x.u (d,(fU s.im x.u).2++[b])) x.v).1) 3 (gx (fU (gi s.im x.u (d,(fU s.im x.u).2++[b])) x.v).2),iL 3 (gH (gi s.im x.u (d,(fU s.im x.u).2++[b])) x.v),blk j 34 (Z9 ((b:Nat):Int) (s.last+1) x),blk ub 130 (xZ fO fN (s.last+1) s J (some s.mb)),fV Lv.cells J 34 7 (fR (s.live++[(⟨0,0,0,0,0,0,0⟩:Lv)]) b (fun _=>(⟨((b:Nat):Int),s.last+1,x.u,x.v,x.wt,x.t,x.exp⟩:Lv))),gQ s.mb .u64 p_ (gi s.im x.u (d,(fU s.im x.u).2++[b])),(AW.R s.iO B),(wo s K),blk I 34 Zx,blk H 32 (Zp x)],fun _ _=>True),(fun(D,l)=>(AZ D ([((b:Nat):Int)]) ((fU (gi s.im x.u (d,(fU s.im x.u).2++[b])) x.v).1) (gx (fU (gi s.im x.u (d,(fU s.im x.u).2++[b])) x.v).2) (gH (gi s.im x.u (d,(fU s.im x.u).2++[b])) x.v) j ((b:Nat):Int) (s.last+1) x ub fO fN s J (some s.mb) (fR (s.live++[(⟨0,0,0,0,0,0,0⟩:Lv)]) b (fun _=>(⟨((b:Nat):Int),s.last+1,x.u,x.v,x.wt,x.t,x.exp⟩:Lv))) (gi s.im x.u (d,(fU s.im x.u).2++[b])) B K I H),fun _ _=>True),(fun(D,l)=>(AZ D ([((b:Nat):Int)]) l ((gx (fU (gi s.im x.u (d,(fU s.im x.u).2++[b])) x.v).2)++([((b:Nat):Int)])) (gH (gi s.im x.u (d,(fU s.im x.u).2++[b])) x.v) j ((b:Nat):Int) (s.last+1) x ub fO fN s J (some s.mb) (fR (s.live++[(⟨0,0,0,0,0,0,0⟩:Lv)]) b (fun _=>(⟨((b:Nat):Int),s.last+1,x.u,x.v,x.wt,x.t,x.exp⟩:Lv))) (gi s.im x.u (d,(fU s.im x.u).2++[b])) B K I H),fun _ _=>True),(fun(D,l)=>(AZ D ([((b:Nat):Int)]) l ((gx (fU (gi s.im x.u (d,(fU s.im x.u).2++[b])) x.v).2)++([((b:Nat):Int)])) (gH (gi s.im x.u (d,(fU s.im x.u).2++[b])) x.v) j ((b:Nat):Int) (s.last+1) x ub fO fN s J (some s.mb) (fR (s.live++[(⟨0,0,0,0,0,0,0⟩:Lv)]) b (fun _=>(⟨((b:Nat):Int),s.last+1,x.u,x.v,x.wt,x.t,x.exp⟩:Lv))) (gi (gi s.im x.u (d,(fU s.im x.u).2++[b])) x.v (l,(fU (gi s.im x.u (d,(fU s.im x.u).2++[b])) x.v).2++[b])) B K I H),fun _ _=>True)] (0,Zk) (fun(D,l)=>(99,l) :: (98,(Zy D)) :: (97,(Za ((b:Nat):Int))) :: (96,((fU (gi s.im x.u (d,(fU s.im x.u).2++[b])) x.v).1)) :: (95,(Zd x.v)) :: (94,(.map (some s.mb))) :: (93,(Z4 ub)) :: (92,(Zb ub)) :: (91,(Zb ub)) :: (90,(Zd x.v)) :: (89,(.map (some s.mb))) :: (88,(Z4 ub)) :: (87,(Zb ub)) :: (86,(Zb ub)) :: _) rfl aM (fun _ _=>trivial) ?_ (fun(D,l)=>rfl) rfl ?_
   . skip
     refine gp (fun(D,l) _=>iy (v:=(Zb ub)) rfl) ?_
     refine gp (fun(D,l) _=>j6 rfl) ?_
     refine gp (fun(D,l) _=>jy (o' := 6) rfl rM rfl rC rfl) ?_
     refine vR rfl rfl rfl rfl rfl rfl (fun(D,l) wq hM hF=>qv rfl rfl (gU rfl ym rfl (yo hM (i:=3) rfl rfl))) (fun(D,l) wq hM hF=>qv rfl rfl (gU rfl ym rfl (yo hM (i:=4) rfl rfl))) (fun(D,l) wq hM hF=>qv rfl rfl (gU rfl ym rfl (yo hM (i:=4) rfl rfl))) (gp (fun(D,l) _=>iy (v:=(Zd x.v)) rfl) ?_)
     refine gp (fun(D,l) _=>iy (v:=(Zb ub)) rfl) ?_
     refine gp (fun(D,l) _=>j6 rfl) ?_
     refine gp (fun(D,l) _=>jy (o' := 6) rfl rM rfl rC rfl) ?_
     refine nL rfl rfl rfl rfl rfl (fun(D,l) wq hM hF=>qv rfl rfl (gU rfl ym rfl (yo hM (i:=3) rfl rfl))) (fun(D,l) wq hM hF=>qv rfl rfl (gU rfl ym rfl (yo hM (i:=4) rfl rfl))) (gp (fun(D,l) _=>iy (v:=(Zd x.v)) rfl) ?_)
     refine nL rfl rfl rfl rfl rfl (fun(D,l) wq hM hF=>qv rfl rfl (tq (a:=x.v) (mm:=(gi s.im x.u (d,(fU s.im x.u).2++[b]))) (enc:=p_) (k:=.u64) 5 rfl rfl ym yg ox rfl hM rfl)) (fun(D,l) wq hM hF=>qv rfl rfl (tq (a:=x.v) (mm:=(gi s.im x.u (d,(fU s.im x.u).2++[b]))) (enc:=p_) (k:=.u64) 6 rfl rfl ym yg ox rfl hM rfl)) (gp (fun(D,l) _=>iy (v:=(Za ((b:Nat):Int))) rfl) ?_)
     refine jK rfl rfl rfl rfl (fun(D,l) wq hM hF=>Ap (vs:=(Ze ((b:Nat):Int))) (cs:=(Ze ((b:Nat):Int))) rfl rfl yh gn rfl (by simp[Value.cells]) rfl rfl rfl hM (fun aN _ h=>⟨(aN,l),⟨h,trivial⟩,rfl,fS rfl (fS rfl (fS rfl (fS rfl (fS rfl (fS rfl (fS rfl (fS rfl (fS rfl (fS rfl (fS rfl (fS rfl (fS trivial (fS trivial (fS trivial (kO)))))))))))))))⟩)) (jK rfl rfl rfl rfl (fun(D,l) wq hM hF=>Ew (k:=.i64) (ys:=gx (fU (gi s.im x.u (d,(fU s.im x.u).2++[b])) x.v).2) (zs:=[((b:Nat):Int)]) 1 rfl rfl rfl yh gn rfl hM rfl (mh hM (i:=0) rfl) (by simp only[zn,zk,zq,gx,zu,maxLen];have h7:=hnl2 x.u;have h8:=hnl2 x.v;first|omega|(rw[sR hc3.1];omega)) (by simp only[zn,zk,zq,gx,zu,maxLen];have h7:=hnl2 x.u;have h8:=hnl2 x.v;first|omega|(rw[sR hc3.1];omega)) (fun aO _ h=>⟨(D,aO),⟨h,trivial⟩,rfl,fS rfl (fS rfl (fS rfl (fS rfl (fS rfl (fS rfl (fS rfl (fS rfl (fS rfl (fS rfl (fS rfl (fS rfl (fS rfl (fS trivial (fS trivial (kO)))))))))))))))⟩)) (jK rfl rfl rfl rfl (fun(D,l) wq hM hF=>xG (a:=x.v) (c:=(l,(fU (gi s.im x.u (d,(fU s.im x.u).2++[b])) x.v).2++[b])) (mm:=(gi s.im x.u (d,(fU s.im x.u).2++[b]))) (enc:=p_) (k:=.u64) (L' := (AZ D ([((b:Nat):Int)]) l ((gx (fU (gi s.im x.u (d,(fU s.im x.u).2++[b])) x.v).2)++([((b:Nat):Int)])) (gH (gi s.im x.u (d,(fU s.im x.u).2++[b])) x.v) j ((b:Nat):Int) (s.last+1) x ub fO fN s J (some s.mb) (fR (s.live++[(⟨0,0,0,0,0,0,0⟩:Lv)]) b (fun _=>(⟨((b:Nat):Int),s.last+1,x.u,x.v,x.wt,x.t,x.exp⟩:Lv))) (gi (gi s.im x.u (d,(fU s.im x.u).2++[b])) x.v (l,(fU (gi s.im x.u (d,(fU s.im x.u).2++[b])) x.v).2++[b])) B K I H)) 6 rfl rfl rfl rfl ym yg hM rfl rfl (fun _ h=>⟨(D,l),⟨h,trivial⟩,rfl,jD.refl _ _ _⟩)) ?_))
     exact og
   rintro⟨D,l⟩ aP aQ -
   have aR:=yi [1,2,3,4,5,6,7,8,9,10] aQ
   have ad:St _ (Ri (gi (gi s.im x.u (d,(fU s.im x.u).2++[b])) x.v (l,(fU (gi s.im x.u (d,(fU s.im x.u).2++[b])) x.v).2++[b])) j ((b:Nat):Int) (s.last+1) x ub fO fN s J (some s.mb) (fR (s.live++[(⟨0,0,0,0,0,0,0⟩:Lv)]) b (fun _=>(⟨((b:Nat):Int),s.last+1,x.u,x.v,x.wt,x.t,x.exp⟩:Lv))) B K I H) aP:=yE (by have h9:=aR;rw[<-DG]at h9;exact h9)
   refine iN tt none ad 6 ?_
   refine tN (?_)
   refine ir (gf ad 15 ?_)
   refine nq (L' := [iL 3 (gi (gi s.im x.u (d,(fU s.im x.u).2++[b])) x.v (l,(fU (gi s.im x.u (d,(fU s.im x.u).2++[b])) x.v).2++[b])),blk j 34 (Z9 ((b:Nat):Int) (s.last+1) x),blk ub 130 (xZ fO fN (s.last+1) s J (some s.mb)),fV Lv.cells J 34 7 (fR (s.live++[(⟨0,0,0,0,0,0,0⟩:Lv)]) b (fun _=>(⟨((b:Nat):Int),s.last+1,x.u,x.v,x.wt,x.t,x.exp⟩:Lv))),gQ s.mb .u64 p_ (gi (gi s.im x.u (d,(fU s.im x.u).2++[b])) x.v (l,(fU (gi s.im x.u (d,(fU s.im x.u).2++[b])) x.v).2++[b])),(AW.R s.iO B),(wo s K),blk I 34 (Z9 ((b:Nat):Int) (s.last+1) x),blk H 32 (Zp x)]) 7 rfl rfl rfl rfl iX rfl rfl ad rfl rfl rfl rfl (fun bt ae=>fW ae 4 ?_)
   refine rz (v:=(Fl ((b:Nat):Int) (s.last+1) x)) (v' := Zc) Tryz.results53 (qj (cs:=(Z9 ((b:Nat):Int) (s.last+1) x)) rfl yx rfl iX rfl (kT ae (i:=7) (o:=0) (vs:=(Z9 ((b:Nat):Int) (s.last+1) x)) rfl rfl)) (nU rfl) ?_
   have aS:=yi [2,3,4,0,5,6,1,7,8] ae
   have hins:=hU.ins (e:=(⟨(b:Int),s.last+1,x.u,x.v,x.wt,x.t,x.exp⟩:Lv)) Y hA9 hT9 rfl rfl ⟨lV (by show _/\_;dsimp only;omega),qE (by show _/\_;dsimp only;omega),hxo.u,hxo.v,hxo.wt,hxo.t,hxo.exp⟩ hc3.1 (fun z=>by rw[aq.mem,Z.mem]) (by rw[aq.n,Z.n]) (lv2:=J) (ls:=fR (s.live++[(⟨0,0,0,0,0,0,0⟩:Lv)]) b (fun _=>(⟨((b:Nat):Int),s.last+1,x.u,x.v,x.wt,x.t,x.exp⟩:Lv))) (by unfold xV;rw[if_pos o_]<;>rfl) (im2:=(gi (gi s.im x.u (d,(fU s.im x.u).2++[b])) x.v (l,(fU (gi s.im x.u (d,(fU s.im x.u).2++[b])) x.v).2++[b]))) (by rw[sR hc3.1];rfl)
   exact⟨b,(⟨s.iO,s.tb,s.ab,s.mb,J,s.last+1,B,K,fR (s.live++[(⟨0,0,0,0,0,0,0⟩:Lv)]) b (fun _=>(⟨((b:Nat):Int),s.last+1,x.u,x.v,x.wt,x.t,x.exp⟩:Lv)),(gi (gi s.im x.u (d,(fU s.im x.u).2++[b])) x.v (l,(fU (gi s.im x.u (d,(fU s.im x.u).2++[b])) x.v).2++[b]))⟩:fZ),rfl,⟨hins.2,rfl⟩,yv (yw (p:=fZ.ok fO fN (⟨s.iO,s.tb,s.ab,s.mb,J,s.last+1,B,K,fR (s.live++[(⟨0,0,0,0,0,0,0⟩:Lv)]) b (fun _=>(⟨((b:Nat):Int),s.last+1,x.u,x.v,x.wt,x.t,x.exp⟩:Lv)),(gi (gi s.im x.u (d,(fU s.im x.u).2++[b])) x.v (l,(fU (gi s.im x.u (d,(fU s.im x.u).2++[b])) x.v).2++[b]))⟩:fZ)) (yc [_,_,_,_,_,_] _ aS) hins.1) zh⟩
 . refine gL O 10 ?_
   refine jN O 7 ?_
   intro wq hM
   refine Ev (f:=(fun _=>(⟨((b:Nat):Int),s.last+1,x.u,x.v,x.wt,x.t,x.exp⟩:Lv))) (L' := [blk j 34 (Z9 ((b:Nat):Int) (s.last+1) x),blk ub 130 (sK fO fN (s.last+1) s (some s.mb)),fV Lv.cells s.lv 34 7 (fR s.live b (fun _=>(⟨((b:Nat):Int),s.last+1,x.u,x.v,x.wt,x.t,x.exp⟩:Lv))),gQ s.mb .u64 p_ s.im,iL 3 s.im,(AW.R s.iO B),(Z8 s),blk I 34 Zx,blk H 32 (Zp x)]) 2 rfl rfl rfl rfl iX rfl rfl hM rfl f_ om rfl rfl rfl (fun _ h=>(jM h (fun aT N=>?_)))
   refine ng tt none N 5 ?_
   refine ld rfl rfl yg rfl (yo N (i:=8) rfl rfl) (fQ N 1 ?_)
   refine ld rfl rfl yg rfl (yo N (i:=8) rfl rfl) (kf (pvs:=[(0,(Zd x.u)),(1,(Zd x.v))]) (v:=.agg (CT x.u x.v)) rfl rfl (BX [(0,(Zz x.u)),(1,(Zz x.v))] B6 p8 iU rfl ⟨rfl,rfl,rfl,rfl,trivial⟩ rfl s_) (gL N 4 ?_))
   refine sy 3 (ir (gf N 13 ?_))
   refine nt (i:=0) rfl rfl rfl p8 yg rfl iU d_ rfl (fQ N 10 ?_)
   refine cl El (DM s.tb s.ab s.t aT (yd N (i:=6) rfl) x.u (TW.O8 o_) hxo.u) ?_
   rintro _ bu ⟨bv,bw,Q,rfl,af,ht⟩
   have ag:=yu 6 N ht
   have hT9:=(kj ag (i:=6) rfl:Q.ok)
   refine gL ag 2 ?_
   have aU:=yi [4,0,1,2,3,5,6,7,8] ag
   have aV:=zB x.u aU
   refine oh (Γ:=Nat×Value) mixed [[],[0],[0,1],[0,1,2],[],[],[5],[5,6],[5,6,7],[],[5,6,7,8,9],[],[11],[5,6,7,8,9,10,11,12],[0,1,2,3,4,5,6,7,8,9,10,11,12,13]] [12,13,14] d_ [fun _=>(Zb ub),fun _=>(Zb ub),fun _=>(Z4 ub),fun _=>(.map (some s.mb)),fun _=>(Zd x.u),fun _=>(Zb ub),fun _=>(Zb ub),fun _=>(Z4 ub),fun _=>(.map (some s.mb)),fun _=>(Zd x.u),fun _=>((fU s.im x.u).1),fun _=>(Za ((b:Nat):Int)),fun(E,g)=>(Zy E),fun(E,g)=>g,fun _=>undef] [(fun(E,g)=>[iB .i64 ((fU s.im x.u).1) 3 (gx (fU s.im x.u).2),iL 3 (gH s.im x.u),blk j 34 (Z9 ((b:Nat):Int) (s.last+1) x),blk ub 130 (sK fO fN (s.last+1) s (some s.mb)),fV Lv.cells s.lv 34 7 (fR s.live b (fun _=>(⟨((b:Nat):Int),s.last+1,x.u,x.v,x.wt,x.t,x.exp⟩:Lv))),gQ s.mb .u64 p_ s.im,(AW.R s.iO B),(wo s Q),blk I 34 Zx,blk H 32 (Zp x)],fun _ _=>True),(fun(E,g)=>(Qs E ([((b:Nat):Int)]) ((fU s.im x.u).1) (gx (fU s.im x.u).2) (gH s.im x.u) j ((b:Nat):Int) (s.last+1) x ub fO fN s (some s.mb) (fR s.live b (fun _=>(⟨((b:Nat):Int),s.last+1,x.u,x.v,x.wt,x.t,x.exp⟩:Lv))) B Q I H),fun _ _=>True),(fun(E,g)=>(Qs E ([((b:Nat):Int)]) g ((gx (fU s.im x.u).2)++([((b:Nat):Int)])) (gH s.im x.u) j ((b:Nat):Int) (s.last+1) x ub fO fN s (some s.mb) (fR s.live b (fun _=>(⟨((b:Nat):Int),s.last+1,x.u,x.v,x.wt,x.t,x.exp⟩:Lv))) B Q I H),fun _ _=>True),(fun(E,g)=>(AK E ([((b:Nat):Int)]) g ((gx (fU s.im x.u).2)++([((b:Nat):Int)])) (gH s.im x.u) j ((b:Nat):Int) (s.last+1) x ub fO fN s (some s.mb) (fR s.live b (fun _=>(⟨((b:Nat):Int),s.last+1,x.u,x.v,x.wt,x.t,x.exp⟩:Lv))) (gi s.im x.u (g,(fU s.im x.u).2++[b])) B Q I H),fun _ _=>True)] (0,Zk) (fun(E,g)=>(99,g) :: (98,(Zy E)) :: (97,(Za ((b:Nat):Int))) :: (96,((fU s.im x.u).1)) :: (95,(Zd x.u)) :: (94,(.map (some s.mb))) :: (93,(Z4 ub)) :: (92,(Zb ub)) :: (91,(Zb ub)) :: (90,(Zd x.u)) :: (89,(.map (some s.mb))) :: (88,(Z4 ub)) :: (87,(Zb ub)) :: (86,(Zb ub)) :: _) rfl aV (fun _ _=>trivial) ?_ (fun(E,g)=>rfl) rfl ?_
   . skip
     refine gp (fun(E,g) _=>iy (v:=(Zb ub)) rfl) ?_
     refine gp (fun(E,g) _=>j6 rfl) ?_
     refine gp (fun(E,g) _=>jy (o' := 6) rfl rM rfl rC rfl) ?_
     refine vR rfl rfl rfl rfl rfl rfl (fun(E,g) wq hM hF=>qv rfl rfl (gU rfl ym rfl (yo hM (i:=3) rfl rfl))) (fun(E,g) wq hM hF=>qv rfl rfl (gU rfl ym rfl (yo hM (i:=4) rfl rfl))) (fun(E,g) wq hM hF=>qv rfl rfl (gU rfl ym rfl (yo hM (i:=4) rfl rfl))) (gp (fun(E,g) _=>iy (v:=(Zd x.u)) rfl) ?_)
     refine gp (fun(E,g) _=>iy (v:=(Zb ub)) rfl) ?_
     refine gp (fun(E,g) _=>j6 rfl) ?_
     refine gp (fun(E,g) _=>jy (o' := 6) rfl rM rfl rC rfl) ?_
     refine nL rfl rfl rfl rfl rfl (fun(E,g) wq hM hF=>qv rfl rfl (gU rfl ym rfl (yo hM (i:=3) rfl rfl))) (fun(E,g) wq hM hF=>qv rfl rfl (gU rfl ym rfl (yo hM (i:=4) rfl rfl))) (gp (fun(E,g) _=>iy (v:=(Zd x.u)) rfl) ?_)
     refine nL rfl rfl rfl rfl rfl (fun(E,g) wq hM hF=>qv rfl rfl (tq (a:=x.u) (mm:=s.im) (enc:=p_) (k:=.u64) 5 rfl rfl ym yg ox rfl hM rfl)) (fun(E,g) wq hM hF=>qv rfl rfl (tq (a:=x.u) (mm:=s.im) (enc:=p_) (k:=.u64) 6 rfl rfl ym yg ox rfl hM rfl)) (gp (fun(E,g) _=>iy (v:=(Za ((b:Nat):Int))) rfl) ?_)
     refine jK rfl rfl rfl rfl (fun(E,g) wq hM hF=>Ap (vs:=(Ze ((b:Nat):Int))) (cs:=(Ze ((b:Nat):Int))) rfl rfl yh gn rfl (by simp[Value.cells]) rfl rfl rfl hM (fun aW _ h=>⟨(aW,g),⟨h,trivial⟩,rfl,fS rfl (fS rfl (fS rfl (fS rfl (fS rfl (fS rfl (fS rfl (fS rfl (fS rfl (fS rfl (fS rfl (fS rfl (fS trivial (fS trivial (fS trivial (kO)))))))))))))))⟩)) (jK rfl rfl rfl rfl (fun(E,g) wq hM hF=>Ew (k:=.i64) (ys:=gx (fU s.im x.u).2) (zs:=[((b:Nat):Int)]) 1 rfl rfl rfl yh gn rfl hM rfl (mh hM (i:=0) rfl) (by simp only[zn,zk,zq,gx,zu,maxLen];have h7:=hnl2 x.u;have h8:=hnl2 x.v;first|omega|(rw[sR hc3.1];omega)) (by simp only[zn,zk,zq,gx,zu,maxLen];have h7:=hnl2 x.u;have h8:=hnl2 x.v;first|omega|(rw[sR hc3.1];omega)) (fun aX _ h=>⟨(E,aX),⟨h,trivial⟩,rfl,fS rfl (fS rfl (fS rfl (fS rfl (fS rfl (fS rfl (fS rfl (fS rfl (fS rfl (fS rfl (fS rfl (fS rfl (fS rfl (fS trivial (fS trivial (kO)))))))))))))))⟩)) (jK rfl rfl rfl rfl (fun(E,g) wq hM hF=>xG (a:=x.u) (c:=(g,(fU s.im x.u).2++[b])) (mm:=s.im) (enc:=p_) (k:=.u64) (L' := (AK E ([((b:Nat):Int)]) g ((gx (fU s.im x.u).2)++([((b:Nat):Int)])) (gH s.im x.u) j ((b:Nat):Int) (s.last+1) x ub fO fN s (some s.mb) (fR s.live b (fun _=>(⟨((b:Nat):Int),s.last+1,x.u,x.v,x.wt,x.t,x.exp⟩:Lv))) (gi s.im x.u (g,(fU s.im x.u).2++[b])) B Q I H)) 6 rfl rfl rfl rfl ym yg hM rfl rfl (fun _ h=>⟨(E,g),⟨h,trivial⟩,rfl,jD.refl _ _ _⟩)) ?_))
     exact og
   rintro⟨E,g⟩ ar aY -
   have aZ:=yi [1,2,3,4,5,6,7,8,9,10] aY
   have V:St _ (Qw (gi s.im x.u (g,(fU s.im x.u).2++[b])) j ((b:Nat):Int) (s.last+1) x ub fO fN s (some s.mb) (fR s.live b (fun _=>(⟨((b:Nat):Int),s.last+1,x.u,x.v,x.wt,x.t,x.exp⟩:Lv))) B Q I H) ar:=yE (by have h9:=aZ;rw[<-DG]at h9;exact h9)
   refine iN tt none V 6 ?_
   refine tN (?_)
   refine ir (gf V 13 ?_)
   refine nt (i:=1) rfl rfl rfl p8 yg rfl iU d_ rfl (fQ V 10 ?_)
   refine cl El (DM s.tb s.ab Q ar (yd V (i:=6) rfl) x.v (af.room o_) hxo.v) ?_
   rintro _ bz ⟨bA,bB,L,rfl,au,ht⟩
   have ah:=yu 6 V ht
   have hT9:=(kj ah (i:=6) rfl:L.ok)
   refine gL ah 2 ?_
   have a0:=zB x.v ah
   refine oh (Γ:=Nat×Value) mixed [[],[0],[0,1],[0,1,2],[],[],[5],[5,6],[5,6,7],[],[5,6,7,8,9],[],[11],[5,6,7,8,9,10,11,12],[0,1,2,3,4,5,6,7,8,9,10,11,12,13]] [12,13,14] d_ [fun _=>(Zb ub),fun _=>(Zb ub),fun _=>(Z4 ub),fun _=>(.map (some s.mb)),fun _=>(Zd x.v),fun _=>(Zb ub),fun _=>(Zb ub),fun _=>(Z4 ub),fun _=>(.map (some s.mb)),fun _=>(Zd x.v),fun _=>((fU (gi s.im x.u (g,(fU s.im x.u).2++[b])) x.v).1),fun _=>(Za ((b:Nat):Int)),fun(G,q)=>(Zy G),fun(G,q)=>q,fun _=>undef] [(fun(G,q)=>[iB .i64 ((fU (gi s.im x.u (g,(fU s.im x.u).2++[b])) x.v).1) 3 (gx (fU (gi s.im x.u (g,(fU s.im x.u).2++[b])) x.v).2),iL 3 (gH (gi s.im x.u (g,(fU s.im x.u).2++[b])) x.v),blk j 34 (Z9 ((b:Nat):Int) (s.last+1) x),blk ub 130 (sK fO fN (s.last+1) s (some s.mb)),fV Lv.cells s.lv 34 7 (fR s.live b (fun _=>(⟨((b:Nat):Int),s.last+1,x.u,x.v,x.wt,x.t,x.exp⟩:Lv))),gQ s.mb .u64 p_ (gi s.im x.u (g,(fU s.im x.u).2++[b])),(AW.R s.iO B),(wo s L),blk I 34 Zx,blk H 32 (Zp x)],fun _ _=>True),(fun(G,q)=>(AK G ([((b:Nat):Int)]) ((fU (gi s.im x.u (g,(fU s.im x.u).2++[b])) x.v).1) (gx (fU (gi s.im x.u (g,(fU s.im x.u).2++[b])) x.v).2) (gH (gi s.im x.u (g,(fU s.im x.u).2++[b])) x.v) j ((b:Nat):Int) (s.last+1) x ub fO fN s (some s.mb) (fR s.live b (fun _=>(⟨((b:Nat):Int),s.last+1,x.u,x.v,x.wt,x.t,x.exp⟩:Lv))) (gi s.im x.u (g,(fU s.im x.u).2++[b])) B L I H),fun _ _=>True),(fun(G,q)=>(AK G ([((b:Nat):Int)]) q ((gx (fU (gi s.im x.u (g,(fU s.im x.u).2++[b])) x.v).2)++([((b:Nat):Int)])) (gH (gi s.im x.u (g,(fU s.im x.u).2++[b])) x.v) j ((b:Nat):Int) (s.last+1) x ub fO fN s (some s.mb) (fR s.live b (fun _=>(⟨((b:Nat):Int),s.last+1,x.u,x.v,x.wt,x.t,x.exp⟩:Lv))) (gi s.im x.u (g,(fU s.im x.u).2++[b])) B L I H),fun _ _=>True),(fun(G,q)=>(AK G ([((b:Nat):Int)]) q ((gx (fU (gi s.im x.u (g,(fU s.im x.u).2++[b])) x.v).2)++([((b:Nat):Int)])) (gH (gi s.im x.u (g,(fU s.im x.u).2++[b])) x.v) j ((b:Nat):Int) (s.last+1) x ub fO fN s (some s.mb) (fR s.live b (fun _=>(⟨((b:Nat):Int),s.last+1,x.u,x.v,x.wt,x.t,x.exp⟩:Lv))) (gi (gi s.im x.u (g,(fU s.im x.u).2++[b])) x.v (q,(fU (gi s.im x.u (g,(fU s.im x.u).2++[b])) x.v).2++[b])) B L I H),fun _ _=>True)] (0,Zk) (fun(G,q)=>(99,q) :: (98,(Zy G)) :: (97,(Za ((b:Nat):Int))) :: (96,((fU (gi s.im x.u (g,(fU s.im x.u).2++[b])) x.v).1)) :: (95,(Zd x.v)) :: (94,(.map (some s.mb))) :: (93,(Z4 ub)) :: (92,(Zb ub)) :: (91,(Zb ub)) :: (90,(Zd x.v)) :: (89,(.map (some s.mb))) :: (88,(Z4 ub)) :: (87,(Zb ub)) :: (86,(Zb ub)) :: _) rfl a0 (fun _ _=>trivial) ?_ (fun(G,q)=>rfl) rfl ?_
   . skip
     refine gp (fun(G,q) _=>iy (v:=(Zb ub)) rfl) ?_
     refine gp (fun(G,q) _=>j6 rfl) ?_
     refine gp (fun(G,q) _=>jy (o' := 6) rfl rM rfl rC rfl) ?_
     refine vR rfl rfl rfl rfl rfl rfl (fun(G,q) wq hM hF=>qv rfl rfl (gU rfl ym rfl (yo hM (i:=3) rfl rfl))) (fun(G,q) wq hM hF=>qv rfl rfl (gU rfl ym rfl (yo hM (i:=4) rfl rfl))) (fun(G,q) wq hM hF=>qv rfl rfl (gU rfl ym rfl (yo hM (i:=4) rfl rfl))) (gp (fun(G,q) _=>iy (v:=(Zd x.v)) rfl) ?_)
     refine gp (fun(G,q) _=>iy (v:=(Zb ub)) rfl) ?_
     refine gp (fun(G,q) _=>j6 rfl) ?_
     refine gp (fun(G,q) _=>jy (o' := 6) rfl rM rfl rC rfl) ?_
     refine nL rfl rfl rfl rfl rfl (fun(G,q) wq hM hF=>qv rfl rfl (gU rfl ym rfl (yo hM (i:=3) rfl rfl))) (fun(G,q) wq hM hF=>qv rfl rfl (gU rfl ym rfl (yo hM (i:=4) rfl rfl))) (gp (fun(G,q) _=>iy (v:=(Zd x.v)) rfl) ?_)
     refine nL rfl rfl rfl rfl rfl (fun(G,q) wq hM hF=>qv rfl rfl (tq (a:=x.v) (mm:=(gi s.im x.u (g,(fU s.im x.u).2++[b]))) (enc:=p_) (k:=.u64) 5 rfl rfl ym yg ox rfl hM rfl)) (fun(G,q) wq hM hF=>qv rfl rfl (tq (a:=x.v) (mm:=(gi s.im x.u (g,(fU s.im x.u).2++[b]))) (enc:=p_) (k:=.u64) 6 rfl rfl ym yg ox rfl hM rfl)) (gp (fun(G,q) _=>iy (v:=(Za ((b:Nat):Int))) rfl) ?_)
     refine jK rfl rfl rfl rfl (fun(G,q) wq hM hF=>Ap (vs:=(Ze ((b:Nat):Int))) (cs:=(Ze ((b:Nat):Int))) rfl rfl yh gn rfl (by simp[Value.cells]) rfl rfl rfl hM (fun a1 _ h=>⟨(a1,q),⟨h,trivial⟩,rfl,fS rfl (fS rfl (fS rfl (fS rfl (fS rfl (fS rfl (fS rfl (fS rfl (fS rfl (fS rfl (fS rfl (fS rfl (fS trivial (fS trivial (fS trivial (kO)))))))))))))))⟩)) (jK rfl rfl rfl rfl (fun(G,q) wq hM hF=>Ew (k:=.i64) (ys:=gx (fU (gi s.im x.u (g,(fU s.im x.u).2++[b])) x.v).2) (zs:=[((b:Nat):Int)]) 1 rfl rfl rfl yh gn rfl hM rfl (mh hM (i:=0) rfl) (by simp only[zn,zk,zq,gx,zu,maxLen];have h7:=hnl2 x.u;have h8:=hnl2 x.v;first|omega|(rw[sR hc3.1];omega)) (by simp only[zn,zk,zq,gx,zu,maxLen];have h7:=hnl2 x.u;have h8:=hnl2 x.v;first|omega|(rw[sR hc3.1];omega)) (fun a2 _ h=>⟨(G,a2),⟨h,trivial⟩,rfl,fS rfl (fS rfl (fS rfl (fS rfl (fS rfl (fS rfl (fS rfl (fS rfl (fS rfl (fS rfl (fS rfl (fS rfl (fS rfl (fS trivial (fS trivial (kO)))))))))))))))⟩)) (jK rfl rfl rfl rfl (fun(G,q) wq hM hF=>xG (a:=x.v) (c:=(q,(fU (gi s.im x.u (g,(fU s.im x.u).2++[b])) x.v).2++[b])) (mm:=(gi s.im x.u (g,(fU s.im x.u).2++[b]))) (enc:=p_) (k:=.u64) (L' := (AK G ([((b:Nat):Int)]) q ((gx (fU (gi s.im x.u (g,(fU s.im x.u).2++[b])) x.v).2)++([((b:Nat):Int)])) (gH (gi s.im x.u (g,(fU s.im x.u).2++[b])) x.v) j ((b:Nat):Int) (s.last+1) x ub fO fN s (some s.mb) (fR s.live b (fun _=>(⟨((b:Nat):Int),s.last+1,x.u,x.v,x.wt,x.t,x.exp⟩:Lv))) (gi (gi s.im x.u (g,(fU s.im x.u).2++[b])) x.v (q,(fU (gi s.im x.u (g,(fU s.im x.u).2++[b])) x.v).2++[b])) B L I H)) 6 rfl rfl rfl rfl ym yg hM rfl rfl (fun _ h=>⟨(G,q),⟨h,trivial⟩,rfl,jD.refl _ _ _⟩)) ?_))
     exact og
   rintro⟨G,q⟩ a3 a4 -
   have a5:=yi [1,2,3,4,5,6,7,8,9,10] a4
   have ai:St _ (Qw (gi (gi s.im x.u (g,(fU s.im x.u).2++[b])) x.v (q,(fU (gi s.im x.u (g,(fU s.im x.u).2++[b])) x.v).2++[b])) j ((b:Nat):Int) (s.last+1) x ub fO fN s (some s.mb) (fR s.live b (fun _=>(⟨((b:Nat):Int),s.last+1,x.u,x.v,x.wt,x.t,x.exp⟩:Lv))) B L I H) a3:=yE (by have h9:=a5;rw[<-DG]at h9;exact h9)
   refine iN tt none ai 6 ?_
   refine tN (?_)
   refine ir (gf ai 15 ?_)
   refine nq (L' := [iL 3 (gi (gi s.im x.u (g,(fU s.im x.u).2++[b])) x.v (q,(fU (gi s.im x.u (g,(fU s.im x.u).2++[b])) x.v).2++[b])),blk j 34 (Z9 ((b:Nat):Int) (s.last+1) x),blk ub 130 (sK fO fN (s.last+1) s (some s.mb)),fV Lv.cells s.lv 34 7 (fR s.live b (fun _=>(⟨((b:Nat):Int),s.last+1,x.u,x.v,x.wt,x.t,x.exp⟩:Lv))),gQ s.mb .u64 p_ (gi (gi s.im x.u (g,(fU s.im x.u).2++[b])) x.v (q,(fU (gi s.im x.u (g,(fU s.im x.u).2++[b])) x.v).2++[b])),(AW.R s.iO B),(wo s L),blk I 34 (Z9 ((b:Nat):Int) (s.last+1) x),blk H 32 (Zp x)]) 7 rfl rfl rfl rfl iX rfl rfl ai rfl rfl rfl rfl (fun bC aj=>fW aj 4 ?_)
   refine rz (v:=(Fl ((b:Nat):Int) (s.last+1) x)) (v' := Zc) Tryz.results53 (qj (cs:=(Z9 ((b:Nat):Int) (s.last+1) x)) rfl yx rfl iX rfl (kT aj (i:=7) (o:=0) (vs:=(Z9 ((b:Nat):Int) (s.last+1) x)) rfl rfl)) (nU rfl) ?_
   have a6:=yi [2,3,4,0,5,6,1,7,8] aj
   have hins:=hU.ins (e:=(⟨(b:Int),s.last+1,x.u,x.v,x.wt,x.t,x.exp⟩:Lv)) Y hA9 hT9 rfl rfl ⟨lV (by show _/\_;dsimp only;omega),qE (by show _/\_;dsimp only;omega),hxo.u,hxo.v,hxo.wt,hxo.t,hxo.exp⟩ hc3.1 (fun z=>by rw[au.mem,af.mem]) (by rw[au.n,af.n]) (lv2:=s.lv) (ls:=fR s.live b (fun _=>(⟨((b:Nat):Int),s.last+1,x.u,x.v,x.wt,x.t,x.exp⟩:Lv))) (by unfold xV;rw[if_neg o_]<;>rfl) (im2:=(gi (gi s.im x.u (g,(fU s.im x.u).2++[b])) x.v (q,(fU (gi s.im x.u (g,(fU s.im x.u).2++[b])) x.v).2++[b]))) (by rw[sR hc3.1];rfl)
   exact⟨b,(⟨s.iO,s.tb,s.ab,s.mb,s.lv,s.last+1,B,L,fR s.live b (fun _=>(⟨((b:Nat):Int),s.last+1,x.u,x.v,x.wt,x.t,x.exp⟩:Lv)),(gi (gi s.im x.u (g,(fU s.im x.u).2++[b])) x.v (q,(fU (gi s.im x.u (g,(fU s.im x.u).2++[b])) x.v).2++[b]))⟩:fZ),rfl,⟨hins.2,rfl⟩,yv (yw (p:=fZ.ok fO fN (⟨s.iO,s.tb,s.ab,s.mb,s.lv,s.last+1,B,L,fR s.live b (fun _=>(⟨((b:Nat):Int),s.last+1,x.u,x.v,x.wt,x.t,x.exp⟩:Lv)),(gi (gi s.im x.u (g,(fU s.im x.u).2++[b])) x.v (q,(fU (gi s.im x.u (g,(fU s.im x.u).2++[b])) x.v).2++[b]))⟩:fZ)) (yc [_,_,_,_,_,_] _ a6) hins.1) zh⟩
end
section
open Go Go.Sx
end
end Go.Proofs.YtdopagghhibopaaGreat
namespace Go.Proofs
open Go.Shelf Go.Lib Go.Sort Go.RowKit in
def Tryz.Sq:Go.Shelf.Ren:=⟨fun|23=>100|n=>n,fun|22=>115|3=>3|4=>4|0=>0|n=>n,fun|n=>n⟩
open Go.Shelf Go.Lib Go.Sort Go.RowKit in
theorem Tryz.W1:Go.Proofs.Lays2.n23 Proofs.Tryz.prog Tryz.Sq where
 mixed:=by kernel_rfl
 f23:=Proofs.Tryz.func100.trans (congrArg some<|by kernel_rfl)
 t0:=Proofs.Tryz.underlying0
 a0:=Proofs.Tryz.isAgg0
 z0:=Proofs.Tryz.sizeOf0
 v0:=Proofs.Tryz.zeroValue0
 t3:=Proofs.Tryz.underlying3
 a3:=Proofs.Tryz.isAgg3
 z3:=Proofs.Tryz.sizeOf3
 v3:=Proofs.Tryz.zeroValue3
 t4:=Proofs.Tryz.underlying4
 a4:=Proofs.Tryz.isAgg4
 z4:=Proofs.Tryz.sizeOf4
 v4:=Proofs.Tryz.zeroValue4
 t22:=Proofs.Tryz.underlying115
 a22:=Proofs.Tryz.isAgg115
 z22:=Proofs.Tryz.sizeOf115
 v22:=Proofs.Tryz.zeroValue115
 i3:=by kernel_rfl
end Go.Proofs
namespace Go.Proofs.YtdopagghhibopaaGreat
section
open Go Go.Sx
theorem Ht(v:Value)(xs:List Int)(w:World)(i:Nat)(hO:Own (iB .i64 v 3 xs) w)(hi:i<xs.length) :
 CR ya 100 #[v,.int .i64 (i:Int),.int .i64 ((i+1:Nat):Int)] w (fun r w' => gm (iB .i64 v 3 xs) w w' (iB .i64 r 3 (xs.eraseIdx i))) :=
 Xe hO hi fun b cap h1 h2 h3=>Any.slices_Delete_int Tryz.W1 b 0 cap i (i+1) xs w h1 h2 h3 o_ o_
theorem HO(v:Value)(xs:List Int)(x:Int)(k:Nat)(w:World)(hv:Ints .i64 (fun _=>True) w v xs)(hl0:xs.length<=1000000)(hk:xs[k]? = some x)(hf:∀ (j:Nat) (y:Int),j<k->xs[j]? = some y->y≠x) :
 CR ya 99 #[v,(Za x)] w (fun r w' => r = .int .i64 (k:Int)/\gB [] w w'):=by
 have hkl:=(zb.1 hk).1
 refine en Tryz.func99 Tryz.ntmps99 ?_
 have hst0:=jO w
 refine gf hst0 9 ?_
 refine tE (v:=v) rfl rfl yh hv (gL hst0 4 ?_)
 refine lp (α:=Nat) (fun q=>[(0,v),(1,(Za x)),(7,(Za xs.length)),(8,(Za q))]) (fun q w1=>St [(w,[])] [] w1/\q<=k) (fun q=>k-q) 0 ⟨rfl,rfl,rfl,gD (by first|rfl|omega),trivial⟩ (⟨hst0,o_⟩) ?_
 rintro q d e ⟨hst7,hq7⟩
 obtain⟨y,hy⟩:=ov (show q<xs.length by omega)
 refine gf hst7 2 ?_
 refine cmp rfl rfl rfl (p5 o_) (fQ hst7 19 ?_)
 refine Gb (i:=(q:Int)) (el:=y) rfl rfl rfl yh gn (St.Ju hst7 s_ hv) o_ (by rw[show ((q:Nat):Int).toNat=q by omega];exact hy) ?_
 intro f g b c h
 have l:=c.i64
 refine ld rfl rfl ye rfl b ?_
 by_cases a:(x:Int)=(y:Int)
 . have hqk:q=k:=(qH q k).elim (fun h8=>absurd (show y=x from by have h7:=a;omega) (hf q y h8 hy)) (fun h8=>by omega)
   refine fW hst7 16 ?_
   refine gw (v:=(Za q)) Tryz.results99 rfl ?_
   obtain rfl:q=k:=by omega
   exact⟨rfl,hst7.gK s_⟩
 . have hqk:q≠k:=by rintro rfl;rw[hk]at hy;cases hy;exact(by have h7:=a;omega:False)
   refine fW hst7 11 ?_
   refine tN (?_)
   exact again (q+1) ⟨rfl,rfl,rfl,gD (by first|rfl|omega),trivial⟩ (⟨hst7,o_⟩) (by show (k-(q+1):Nat)<k-q;omega)
theorem LP(fO fN ub:Nat)(s:fZ)(w:World)(hO:Own (fZ.R fO fN ub s) w)(i:Nat)(hi:s.A.ia i) :
 CR ya 49 (Zn ub i) w (fun r w' => ∃ (s2:fZ),r = .tuple #[(vk (fM s.live i)),.int .i64 0]/\((∀ y,s2.has y↔s.has y/\y.slot≠(i:Int))/\s2.last=s.last)/\gm (fZ.R fO fN ub s) w w' (fZ.R fO fN ub s2)):=by
 have htu:s.t.A.used<=s.t.A.n:=hO.fact.tok.ul
 have hUn:=hO.fact.n
 have hUt:=hO.fact.tn
 have hUe:=hO.fact.en
 have hUv:=hO.fact.vn
 have hAu:s.A.used<=s.A.begun:=by have h7:=hO.fact.lX.used;omega
 have hAl:=hO.fact.lX.le
 have hll:=hO.fact.ll
 have hib:=hi.1
 have hne:=hO.fact.ne i hi
 refine en Tryz.func49 Tryz.ntmps49 ?_
 have hst0:=Own.of hO.un
 have hU:s.ok fO fN:=hO.fact
 refine gf hst0 2 ?_
 refine al (cs:=Zx) rfl iX rfl hst0 ?_
 intro x aQ bF bG ak
 have aR:=yi [1,2,3,4,5,6,0] ak
 have am:=yw (p:=s.ok fO fN) (yc [_,_,_,_,_,_] _ aR) hU
 refine fQ ak 7 ?_
 refine cl B7 (BE fO fN ub s aQ (yd am (i:=0) rfl)) ?_
 rintro _ aS ⟨rfl,ht⟩
 have aT:=yu 0 am ht
 have Y:=(kB aT).unpack
 refine fQ Y 14 ?_
 refine cl Pc (Ng s.iO s.aw aS (yd Y (i:=4) rfl) i hi) ?_
 rintro _ bH ⟨g,rfl,W,ht⟩
 have K:=yu 4 Y ht
 have hA9:=(kj K (i:=4) rfl:g.A.ok)
 refine fQ K 19 ?_
 refine jj (cf:=Lv.cells) (k:=i) (i:=(i:Int)) rfl rfl rfl y9 iX (yf K (i:=1) rfl f_) o_ o_ (gA om) (sj (cf:=Lv.cells) (cs:=(Zs (fM s.live i))) rfl rfl yx rfl iX (yf K (i:=1) rfl f_) (gA om) rfl rfl (al (cs:=Zx) rfl iX rfl K (fun z bI bJ bK aU=>kL aU 10 fun bL an=>?_)))
 refine kf (pvs:=[]) (v:=.agg K7) rfl rfl (jS [] iX J4 rfl trivial rfl) (jj (cf:=Lv.cells) (k:=i) (i:=(i:Int)) rfl rfl rfl y9 iX (yf an (i:=2) rfl f_) o_ o_ (gA om) (se (f:=(fun _=>(⟨0,0,0,0,0,0,0⟩:Lv))) (L' := [blk z 34 (Zs (fM s.live i)),blk ub 130 (Z7 fO fN s (some s.mb)),fV Lv.cells s.lv 34 7 (fR s.live i (fun _=>(⟨0,0,0,0,0,0,0⟩:Lv))),gQ s.mb .u64 p_ s.im,iL 3 s.im,(AW.R s.iO g),(Z8 s),blk x 34 Zx]) 2 rfl rfl rfl rfl iX rfl rfl an rfl f_ om rfl rfl rfl (fun aV L=>fQ L 11 ?_)))
 refine kf (pvs:=[(0,(Zd ((fM s.live i).u))),(1,(Zd ((fM s.live i).v)))]) (v:=.agg (CT ((fM s.live i).u) ((fM s.live i).v))) rfl rfl (BX [(0,(Zz ((fM s.live i).u))),(1,(Zz ((fM s.live i).v)))] B6 p8 iU rfl ⟨rfl,rfl,rfl,rfl,trivial⟩ rfl s_) (gL L 4 ?_)
 refine sy 3 (ir (gf L 13 ?_))
 refine nt (i:=0) rfl rfl rfl p8 yg rfl iU d_ rfl ?_
 have aW:=yi [4,0,1,2,3,5,6,7] L
 have M:=zB ((fM s.live i).u) aW
 refine fQ L 10 ?_
 refine AR (a:=(fM s.live i).u) (mm:=s.im) (enc:=p_) (k:=.u64) 5 rfl rfl rfl ym yg ox rfl M rfl (u6 (v:=((fU s.im ((fM s.live i).u)).1)) rfl rfl (fQ M 5 ?_))
 refine mv (v:=((fU s.im ((fM s.live i).u)).1)) rfl rfl ?_
 have aX:=((hU.inc (fM s.live i).u i).2 ⟨hi,.inl rfl⟩)
 obtain⟨b,ao,ap,aY⟩:=Ho aX (hU.nd _)
 have aZ:b<(gx (fU s.im ((fM s.live i).u)).2).length:=(zb.1 ap).1
 have aq:(gx (fU s.im ((fM s.live i).u)).2).length<=1000000:=by rw[gx,zu];exact z1 (hU.J2 _) d_
 refine fQ M 1 ?_
 refine cl Jm (HO ((fU s.im ((fM s.live i).u)).1) (gx (fU s.im ((fM s.live i).u)).2) (i:Int) b aV (yR M (i:=0) rfl (G1 (by rw[gx,zu]at aq;exact fun j hj=>Jb hU (fun _ h=>h) hj))).any aq ap aY) ?_
 rintro _ a0 ⟨rfl,a1⟩
 have N:=jf M a1
 refine fQ N 6 ?_
 refine cmp rfl rfl rfl (qF o_) (fQ N 4 ?_)
 refine mv (v:=((fU s.im ((fM s.live i).u)).1)) rfl rfl (fQ N 2 ?_)
 refine ar (e:=((b+1:Nat):Int)) rfl rfl rfl rfl (by rw[iZ o_];omega) (cl I3 (Ht ((fU s.im ((fM s.live i).u)).1) (gx (fU s.im ((fM s.live i).u)).2) a0 b (yd N (i:=0) rfl) aZ) ?_)
 rintro d bM ht
 have h9v₂:=yu 0 N ht
 rw[GV]at h9v₂
 have H:=h9v₂
 refine fQ H 7 ?_
 refine mY (m:=(gx ((fU s.im ((fM s.live i).u)).2.eraseIdx b)).length) 0 rfl rfl yh H rfl ?_
 by_cases au:((((gx ((fU s.im ((fM s.live i).u)).2.eraseIdx b)).length:Nat):Int):Int)>(0:Int)
 . have a2:(fU s.im ((fM s.live i).u)).2.eraseIdx b≠[]:=by intro e9;have h7:=@au;rw[e9]at h7;simp[gx]at h7
   refine fQ H 12 ?_
   refine Gv (a:=(fM s.live i).u) (c:=(d,(fU s.im ((fM s.live i).u)).2.eraseIdx b)) (mm:=s.im) (enc:=p_) (k:=.u64) (L' := (Qp d (gx ((fU s.im ((fM s.live i).u)).2.eraseIdx b)) (gH s.im ((fM s.live i).u)) z (fM s.live i) ub fO fN s (some s.mb) (fR s.live i (fun _=>(⟨0,0,0,0,0,0,0⟩:Lv))) (gi s.im ((fM s.live i).u) (d,(fU s.im ((fM s.live i).u)).2.eraseIdx b)) g x)) 5 rfl rfl rfl rfl ym yg H rfl rfl ?_
   intro a3 av
   have Z:=yE av
   have C:nG s.im s.t (gi s.im ((fM s.live i).u) (d,(fU s.im ((fM s.live i).u)).2.eraseIdx b)) s.t (fM s.live i).u i:=nG.keep (hU.nd _) ao a2
   refine fW av 10 ?_
   refine tN (?_)
   refine ir (gf Z 13 ?_)
   refine nt (i:=1) rfl rfl rfl p8 yg rfl iU d_ rfl ?_
   have O:=zB ((fM s.live i).v) Z
   refine fQ Z 10 ?_
   refine AR (a:=(fM s.live i).v) (mm:=(gi s.im ((fM s.live i).u) (d,(fU s.im ((fM s.live i).u)).2.eraseIdx b))) (enc:=p_) (k:=.u64) 5 rfl rfl rfl ym yg ox rfl O rfl (u6 (v:=((fU (gi s.im ((fM s.live i).u) (d,(fU s.im ((fM s.live i).u)).2.eraseIdx b)) ((fM s.live i).v)).1)) rfl rfl (fQ O 5 ?_))
   refine mv (v:=((fU (gi s.im ((fM s.live i).u) (d,(fU s.im ((fM s.live i).u)).2.eraseIdx b)) ((fM s.live i).v)).1)) rfl rfl ?_
   have a4:=((C.get (fM s.live i).v i).2 ⟨(hU.inc (fM s.live i).v i).2 ⟨hi,.inr rfl⟩,fun e=>absurd e.symm hne⟩)
   obtain⟨l,ax,ay,a5⟩:=Ho a4 (C.nd hU.nd _)
   have a6:l<(gx (fU (gi s.im ((fM s.live i).u) (d,(fU s.im ((fM s.live i).u)).2.eraseIdx b)) ((fM s.live i).v)).2).length:=(zb.1 ay).1
   have az:(gx (fU (gi s.im ((fM s.live i).u) (d,(fU s.im ((fM s.live i).u)).2.eraseIdx b)) ((fM s.live i).v)).2).length<=1000000:=by rw[gx,zu];exact z1 (inc_le hU C _) d_
   refine fQ O 1 ?_
   refine cl Jm (HO ((fU (gi s.im ((fM s.live i).u) (d,(fU s.im ((fM s.live i).u)).2.eraseIdx b)) ((fM s.live i).v)).1) (gx (fU (gi s.im ((fM s.live i).u) (d,(fU s.im ((fM s.live i).u)).2.eraseIdx b)) ((fM s.live i).v)).2) (i:Int) l a3 (yR O (i:=0) rfl (G1 (by rw[gx,zu]at az;exact fun j hj=>Jb hU (fun _ h=>((C.get _ _).1 h).1) hj))).any az ay a5) ?_
   rintro _ a7 ⟨rfl,a8⟩
   have P:=jf O a8
   refine fQ P 6 ?_
   refine cmp rfl rfl rfl (qF o_) (fQ P 4 ?_)
   refine mv (v:=((fU (gi s.im ((fM s.live i).u) (d,(fU s.im ((fM s.live i).u)).2.eraseIdx b)) ((fM s.live i).v)).1)) rfl rfl (fQ P 2 ?_)
   refine ar (e:=((l+1:Nat):Int)) rfl rfl rfl rfl (by rw[iZ o_];omega) (cl I3 (Ht ((fU (gi s.im ((fM s.live i).u) (d,(fU s.im ((fM s.live i).u)).2.eraseIdx b)) ((fM s.live i).v)).1) (gx (fU (gi s.im ((fM s.live i).u) (d,(fU s.im ((fM s.live i).u)).2.eraseIdx b)) ((fM s.live i).v)).2) a7 l (yd P (i:=0) rfl) a6) ?_)
   rintro E bN ht
   have h9v₃:=yu 0 P ht
   rw[GV]at h9v₃
   have I:=h9v₃
   refine fQ I 7 ?_
   refine mY (m:=(gx ((fU (gi s.im ((fM s.live i).u) (d,(fU s.im ((fM s.live i).u)).2.eraseIdx b)) ((fM s.live i).v)).2.eraseIdx l)).length) 0 rfl rfl yh I rfl ?_
   by_cases aA:((((gx ((fU (gi s.im ((fM s.live i).u) (d,(fU s.im ((fM s.live i).u)).2.eraseIdx b)) ((fM s.live i).v)).2.eraseIdx l)).length:Nat):Int):Int)>(0:Int)
   . have a9:(fU (gi s.im ((fM s.live i).u) (d,(fU s.im ((fM s.live i).u)).2.eraseIdx b)) ((fM s.live i).v)).2.eraseIdx l≠[]:=by intro e9;have h7:=@aA;rw[e9]at h7;simp[gx]at h7
     refine fQ I 12 ?_
     refine Gv (a:=(fM s.live i).v) (c:=(E,(fU (gi s.im ((fM s.live i).u) (d,(fU s.im ((fM s.live i).u)).2.eraseIdx b)) ((fM s.live i).v)).2.eraseIdx l)) (mm:=(gi s.im ((fM s.live i).u) (d,(fU s.im ((fM s.live i).u)).2.eraseIdx b))) (enc:=p_) (k:=.u64) (L' := (Qp E (gx ((fU (gi s.im ((fM s.live i).u) (d,(fU s.im ((fM s.live i).u)).2.eraseIdx b)) ((fM s.live i).v)).2.eraseIdx l)) (gH (gi s.im ((fM s.live i).u) (d,(fU s.im ((fM s.live i).u)).2.eraseIdx b)) ((fM s.live i).v)) z (fM s.live i) ub fO fN s (some s.mb) (fR s.live i (fun _=>(⟨0,0,0,0,0,0,0⟩:Lv))) (gi (gi s.im ((fM s.live i).u) (d,(fU s.im ((fM s.live i).u)).2.eraseIdx b)) ((fM s.live i).v) (E,(fU (gi s.im ((fM s.live i).u) (d,(fU s.im ((fM s.live i).u)).2.eraseIdx b)) ((fM s.live i).v)).2.eraseIdx l)) g x)) 5 rfl rfl rfl rfl ym yg I rfl rfl ?_
     intro bO aB
     have aC:=yE aB
     have ba:nG (gi s.im ((fM s.live i).u) (d,(fU s.im ((fM s.live i).u)).2.eraseIdx b)) s.t (gi (gi s.im ((fM s.live i).u) (d,(fU s.im ((fM s.live i).u)).2.eraseIdx b)) ((fM s.live i).v) (E,(fU (gi s.im ((fM s.live i).u) (d,(fU s.im ((fM s.live i).u)).2.eraseIdx b)) ((fM s.live i).v)).2.eraseIdx l)) s.t (fM s.live i).v i:=nG.keep (C.nd hU.nd _) ax a9
     refine fW aB 10 ?_
     refine tN (?_)
     refine ir (gf aC 15 ?_)
     refine nq (L' := [iL 3 (gi (gi s.im ((fM s.live i).u) (d,(fU s.im ((fM s.live i).u)).2.eraseIdx b)) ((fM s.live i).v) (E,(fU (gi s.im ((fM s.live i).u) (d,(fU s.im ((fM s.live i).u)).2.eraseIdx b)) ((fM s.live i).v)).2.eraseIdx l)),blk z 34 (Zs (fM s.live i)),blk ub 130 (Z7 fO fN s (some s.mb)),fV Lv.cells s.lv 34 7 (fR s.live i (fun _=>(⟨0,0,0,0,0,0,0⟩:Lv))),gQ s.mb .u64 p_ (gi (gi s.im ((fM s.live i).u) (d,(fU s.im ((fM s.live i).u)).2.eraseIdx b)) ((fM s.live i).v) (E,(fU (gi s.im ((fM s.live i).u) (d,(fU s.im ((fM s.live i).u)).2.eraseIdx b)) ((fM s.live i).v)).2.eraseIdx l)),(AW.R s.iO g),(Z8 s),blk x 34 (Zs (fM s.live i))]) 7 rfl rfl rfl rfl iX rfl rfl aC rfl rfl rfl rfl (fun bP aa=>fW aa 4 ?_)
     refine rz (v:=(vk (fM s.live i))) (v' := Zc) F6 (qj (cs:=(Zs (fM s.live i))) rfl yx rfl iX rfl (kT aa (i:=7) (o:=0) (vs:=(Zs (fM s.live i))) rfl rfl)) (nU rfl) ?_
     have aD:=yi [2,3,4,0,5,6,1,7] aa
     have hto:=(kj aD (i:=5) rfl:s.t.ok)
     have hrem:=hU.rem hi W hA9 hto C ba (lv2:=s.lv) (ls:=fR s.live i (fun _=>(⟨0,0,0,0,0,0,0⟩:Lv))) rfl
     exact⟨(⟨s.iO,s.tb,s.ab,s.mb,s.lv,s.last,g,s.t,fR s.live i (fun _=>(⟨0,0,0,0,0,0,0⟩:Lv)),(gi (gi s.im ((fM s.live i).u) (d,(fU s.im ((fM s.live i).u)).2.eraseIdx b)) ((fM s.live i).v) (E,(fU (gi s.im ((fM s.live i).u) (d,(fU s.im ((fM s.live i).u)).2.eraseIdx b)) ((fM s.live i).v)).2.eraseIdx l))⟩:fZ),rfl,⟨hrem.2,rfl⟩,yv (yw (p:=fZ.ok fO fN (⟨s.iO,s.tb,s.ab,s.mb,s.lv,s.last,g,s.t,fR s.live i (fun _=>(⟨0,0,0,0,0,0,0⟩:Lv)),(gi (gi s.im ((fM s.live i).u) (d,(fU s.im ((fM s.live i).u)).2.eraseIdx b)) ((fM s.live i).v) (E,(fU (gi s.im ((fM s.live i).u) (d,(fU s.im ((fM s.live i).u)).2.eraseIdx b)) ((fM s.live i).v)).2.eraseIdx l))⟩:fZ)) (yc [_,_,_,_,_,_] _ aD) hrem.1) zh⟩
   . have bb:(fU (gi s.im ((fM s.live i).u) (d,(fU s.im ((fM s.live i).u)).2.eraseIdx b)) ((fM s.live i).v)).2.eraseIdx l=[]:=by have h7:=@aA;simp only[gx,zu]at h7;exact wS o_
     have bc:=yi [1,2,3,4,5,6,7,8] I
     refine fQ I 13 ?_
     refine KH (a:=(fM s.live i).v) (mm:=(gi s.im ((fM s.live i).u) (d,(fU s.im ((fM s.live i).u)).2.eraseIdx b))) (enc:=p_) (k:=.u64) (L' := (QV (gH (gi s.im ((fM s.live i).u) (d,(fU s.im ((fM s.live i).u)).2.eraseIdx b)) ((fM s.live i).v)) z (fM s.live i) ub fO fN s (some s.mb) (fR s.live i (fun _=>(⟨0,0,0,0,0,0,0⟩:Lv))) g x)) 4 rfl rfl rfl ym yg bc rfl rfl ?_
     intro bd ac
     obtain⟨be,bf,bg⟩:=((C.mem (fM s.live i).v).2 ⟨(hU.mem (fM s.live i).v).2 ⟨i,hi,.inr rfl⟩,fun e=>absurd e.symm hne⟩)
     refine fQ ac 8 ?_
     refine cl Jh (IF s.tb s.ab s.t bd (yd ac (i:=6) rfl) (fM s.live i).v be bf bg) ?_
     rintro _ bQ ⟨Q,rfl,aE,ht⟩
     have ad:=yu 6 ac ht
     have bh:nG (gi s.im ((fM s.live i).u) (d,(fU s.im ((fM s.live i).u)).2.eraseIdx b)) s.t (gH (gi s.im ((fM s.live i).u) (d,(fU s.im ((fM s.live i).u)).2.eraseIdx b)) ((fM s.live i).v)) Q (fM s.live i).v i:=nG.drop (C.keys hU.keys) (C.nd hU.nd _) ax bb aE.1 aE.2.1
     refine fW ad 7 ?_
     refine tN (?_)
     refine ir (gf ad 15 ?_)
     refine nq (L' := (KK (gH (gi s.im ((fM s.live i).u) (d,(fU s.im ((fM s.live i).u)).2.eraseIdx b)) ((fM s.live i).v)) z (fM s.live i) ub fO fN s (some s.mb) (fR s.live i (fun _=>(⟨0,0,0,0,0,0,0⟩:Lv))) g Q x)) 7 rfl rfl rfl rfl iX rfl rfl ad rfl rfl rfl rfl (fun bR ae=>fW ae 4 ?_)
     refine rz (v:=(vk (fM s.live i))) (v' := Zc) F6 (qj (cs:=(Zs (fM s.live i))) rfl yx rfl iX rfl (kT ae (i:=7) (o:=0) (vs:=(Zs (fM s.live i))) rfl rfl)) (nU rfl) ?_
     have aF:=yi [2,3,4,0,5,6,1,7] ae
     have hto:=(kj aF (i:=5) rfl:Q.ok)
     have hrem:=hU.rem hi W hA9 hto C bh (lv2:=s.lv) (ls:=fR s.live i (fun _=>(⟨0,0,0,0,0,0,0⟩:Lv))) rfl
     exact⟨(⟨s.iO,s.tb,s.ab,s.mb,s.lv,s.last,g,Q,fR s.live i (fun _=>(⟨0,0,0,0,0,0,0⟩:Lv)),(gH (gi s.im ((fM s.live i).u) (d,(fU s.im ((fM s.live i).u)).2.eraseIdx b)) ((fM s.live i).v))⟩:fZ),rfl,⟨hrem.2,rfl⟩,yv (yw (p:=fZ.ok fO fN (⟨s.iO,s.tb,s.ab,s.mb,s.lv,s.last,g,Q,fR s.live i (fun _=>(⟨0,0,0,0,0,0,0⟩:Lv)),(gH (gi s.im ((fM s.live i).u) (d,(fU s.im ((fM s.live i).u)).2.eraseIdx b)) ((fM s.live i).v))⟩:fZ)) (yc [_,_,_,_,_,_] _ aF) hrem.1) zh⟩
 . have bi:(fU s.im ((fM s.live i).u)).2.eraseIdx b=[]:=by have h7:=@au;simp only[gx,zu]at h7;exact wS o_
   have bj:=yi [1,2,3,4,5,6,7,8] H
   refine fQ H 13 ?_
   refine KH (a:=(fM s.live i).u) (mm:=s.im) (enc:=p_) (k:=.u64) (L' := (QV (gH s.im ((fM s.live i).u)) z (fM s.live i) ub fO fN s (some s.mb) (fR s.live i (fun _=>(⟨0,0,0,0,0,0,0⟩:Lv))) g x)) 4 rfl rfl rfl ym yg bj rfl rfl ?_
   intro bl af
   obtain⟨bm,bn,bo⟩:=((hU.mem (fM s.live i).u).2 ⟨i,hi,.inl rfl⟩)
   refine fQ af 8 ?_
   refine cl Jh (IF s.tb s.ab s.t bl (yd af (i:=6) rfl) (fM s.live i).u bm bn bo) ?_
   rintro _ bp ⟨B,rfl,aG,ht⟩
   have X:=yu 6 af ht
   have D:nG s.im s.t (gH s.im ((fM s.live i).u)) B (fM s.live i).u i:=nG.drop hU.keys (hU.nd _) ao bi aG.1 aG.2.1
   refine fW X 7 ?_
   refine tN (?_)
   refine ir (gf X 13 ?_)
   refine nt (i:=1) rfl rfl rfl p8 yg rfl iU d_ rfl ?_
   have S:=zB ((fM s.live i).v) X
   refine fQ X 10 ?_
   refine AR (a:=(fM s.live i).v) (mm:=(gH s.im ((fM s.live i).u))) (enc:=p_) (k:=.u64) 5 rfl rfl rfl ym yg ox rfl S rfl (u6 (v:=((fU (gH s.im ((fM s.live i).u)) ((fM s.live i).v)).1)) rfl rfl (fQ S 5 ?_))
   refine mv (v:=((fU (gH s.im ((fM s.live i).u)) ((fM s.live i).v)).1)) rfl rfl ?_
   have bq:=((D.get (fM s.live i).v i).2 ⟨(hU.inc (fM s.live i).v i).2 ⟨hi,.inr rfl⟩,fun e=>absurd e.symm hne⟩)
   obtain⟨q,aH,aI,br⟩:=Ho bq (D.nd hU.nd _)
   have bs:q<(gx (fU (gH s.im ((fM s.live i).u)) ((fM s.live i).v)).2).length:=(zb.1 aI).1
   have aJ:(gx (fU (gH s.im ((fM s.live i).u)) ((fM s.live i).v)).2).length<=1000000:=by rw[gx,zu];exact z1 (inc_le hU D _) d_
   refine fQ S 1 ?_
   refine cl Jm (HO ((fU (gH s.im ((fM s.live i).u)) ((fM s.live i).v)).1) (gx (fU (gH s.im ((fM s.live i).u)) ((fM s.live i).v)).2) (i:Int) q bp (yR S (i:=0) rfl (G1 (by rw[gx,zu]at aJ;exact fun j hj=>Jb hU (fun _ h=>((D.get _ _).1 h).1) hj))).any aJ aI br) ?_
   rintro _ bt ⟨rfl,bu⟩
   have U:=jf S bu
   refine fQ U 6 ?_
   refine cmp rfl rfl rfl (qF o_) (fQ U 4 ?_)
   refine mv (v:=((fU (gH s.im ((fM s.live i).u)) ((fM s.live i).v)).1)) rfl rfl (fQ U 2 ?_)
   refine ar (e:=((q+1:Nat):Int)) rfl rfl rfl rfl (by rw[iZ o_];omega) (cl I3 (Ht ((fU (gH s.im ((fM s.live i).u)) ((fM s.live i).v)).1) (gx (fU (gH s.im ((fM s.live i).u)) ((fM s.live i).v)).2) bt q (yd U (i:=0) rfl) bs) ?_)
   rintro G bS ht
   have h9v₄:=yu 0 U ht
   rw[GV]at h9v₄
   have J:=h9v₄
   refine fQ J 7 ?_
   refine mY (m:=(gx ((fU (gH s.im ((fM s.live i).u)) ((fM s.live i).v)).2.eraseIdx q)).length) 0 rfl rfl yh J rfl ?_
   by_cases aK:((((gx ((fU (gH s.im ((fM s.live i).u)) ((fM s.live i).v)).2.eraseIdx q)).length:Nat):Int):Int)>(0:Int)
   . have bv:(fU (gH s.im ((fM s.live i).u)) ((fM s.live i).v)).2.eraseIdx q≠[]:=by intro e9;have h7:=@aK;rw[e9]at h7;simp[gx]at h7
     refine fQ J 12 ?_
     refine Gv (a:=(fM s.live i).v) (c:=(G,(fU (gH s.im ((fM s.live i).u)) ((fM s.live i).v)).2.eraseIdx q)) (mm:=(gH s.im ((fM s.live i).u))) (enc:=p_) (k:=.u64) (L' := [iB .i64 G 3 (gx ((fU (gH s.im ((fM s.live i).u)) ((fM s.live i).v)).2.eraseIdx q)),iL 3 (gH (gH s.im ((fM s.live i).u)) ((fM s.live i).v)),blk z 34 (Zs (fM s.live i)),blk ub 130 (Z7 fO fN s (some s.mb)),fV Lv.cells s.lv 34 7 (fR s.live i (fun _=>(⟨0,0,0,0,0,0,0⟩:Lv))),gQ s.mb .u64 p_ (gi (gH s.im ((fM s.live i).u)) ((fM s.live i).v) (G,(fU (gH s.im ((fM s.live i).u)) ((fM s.live i).v)).2.eraseIdx q)),(AW.R s.iO g),(wo s B),blk x 34 Zx]) 5 rfl rfl rfl rfl ym yg J rfl rfl ?_
     intro bT aL
     have aM:=yE aL
     have bw:nG (gH s.im ((fM s.live i).u)) B (gi (gH s.im ((fM s.live i).u)) ((fM s.live i).v) (G,(fU (gH s.im ((fM s.live i).u)) ((fM s.live i).v)).2.eraseIdx q)) B (fM s.live i).v i:=nG.keep (D.nd hU.nd _) aH bv
     refine fW aL 10 ?_
     refine tN (?_)
     refine ir (gf aM 15 ?_)
     refine nq (L' := (KK (gi (gH s.im ((fM s.live i).u)) ((fM s.live i).v) (G,(fU (gH s.im ((fM s.live i).u)) ((fM s.live i).v)).2.eraseIdx q)) z (fM s.live i) ub fO fN s (some s.mb) (fR s.live i (fun _=>(⟨0,0,0,0,0,0,0⟩:Lv))) g B x)) 7 rfl rfl rfl rfl iX rfl rfl aM rfl rfl rfl rfl (fun bU ag=>fW ag 4 ?_)
     refine rz (v:=(vk (fM s.live i))) (v' := Zc) F6 (qj (cs:=(Zs (fM s.live i))) rfl yx rfl iX rfl (kT ag (i:=7) (o:=0) (vs:=(Zs (fM s.live i))) rfl rfl)) (nU rfl) ?_
     have aN:=yi [2,3,4,0,5,6,1,7] ag
     have hto:=(kj aN (i:=5) rfl:B.ok)
     have hrem:=hU.rem hi W hA9 hto D bw (lv2:=s.lv) (ls:=fR s.live i (fun _=>(⟨0,0,0,0,0,0,0⟩:Lv))) rfl
     exact⟨(⟨s.iO,s.tb,s.ab,s.mb,s.lv,s.last,g,B,fR s.live i (fun _=>(⟨0,0,0,0,0,0,0⟩:Lv)),(gi (gH s.im ((fM s.live i).u)) ((fM s.live i).v) (G,(fU (gH s.im ((fM s.live i).u)) ((fM s.live i).v)).2.eraseIdx q))⟩:fZ),rfl,⟨hrem.2,rfl⟩,yv (yw (p:=fZ.ok fO fN (⟨s.iO,s.tb,s.ab,s.mb,s.lv,s.last,g,B,fR s.live i (fun _=>(⟨0,0,0,0,0,0,0⟩:Lv)),(gi (gH s.im ((fM s.live i).u)) ((fM s.live i).v) (G,(fU (gH s.im ((fM s.live i).u)) ((fM s.live i).v)).2.eraseIdx q))⟩:fZ)) (yc [_,_,_,_,_,_] _ aN) hrem.1) zh⟩
   . have bx:(fU (gH s.im ((fM s.live i).u)) ((fM s.live i).v)).2.eraseIdx q=[]:=by have h7:=@aK;simp only[gx,zu]at h7;exact wS o_
     have bz:=yi [1,2,3,4,5,6,7,8] J
     refine fQ J 13 ?_
     refine KH (a:=(fM s.live i).v) (mm:=(gH s.im ((fM s.live i).u))) (enc:=p_) (k:=.u64) (L' := [iL 3 (gH (gH s.im ((fM s.live i).u)) ((fM s.live i).v)),blk z 34 (Zs (fM s.live i)),blk ub 130 (Z7 fO fN s (some s.mb)),fV Lv.cells s.lv 34 7 (fR s.live i (fun _=>(⟨0,0,0,0,0,0,0⟩:Lv))),gQ s.mb .u64 p_ (gH (gH s.im ((fM s.live i).u)) ((fM s.live i).v)),(AW.R s.iO g),(wo s B),blk x 34 Zx]) 4 rfl rfl rfl ym yg bz rfl rfl ?_
     intro bA ah
     obtain⟨bB,bC,bD⟩:=((D.mem (fM s.live i).v).2 ⟨(hU.mem (fM s.live i).v).2 ⟨i,hi,.inr rfl⟩,fun e=>absurd e.symm hne⟩)
     refine fQ ah 8 ?_
     refine cl Jh (IF s.tb s.ab B bA (yd ah (i:=6) rfl) (fM s.live i).v bB bC bD) ?_
     rintro _ bV ⟨V,rfl,aO,ht⟩
     have ai:=yu 6 ah ht
     have bE:nG (gH s.im ((fM s.live i).u)) B (gH (gH s.im ((fM s.live i).u)) ((fM s.live i).v)) V (fM s.live i).v i:=nG.drop (D.keys hU.keys) (D.nd hU.nd _) aH bx aO.1 aO.2.1
     refine fW ai 7 ?_
     refine tN (?_)
     refine ir (gf ai 15 ?_)
     refine nq (L' := (KK (gH (gH s.im ((fM s.live i).u)) ((fM s.live i).v)) z (fM s.live i) ub fO fN s (some s.mb) (fR s.live i (fun _=>(⟨0,0,0,0,0,0,0⟩:Lv))) g V x)) 7 rfl rfl rfl rfl iX rfl rfl ai rfl rfl rfl rfl (fun bW aj=>fW aj 4 ?_)
     refine rz (v:=(vk (fM s.live i))) (v' := Zc) F6 (qj (cs:=(Zs (fM s.live i))) rfl yx rfl iX rfl (kT aj (i:=7) (o:=0) (vs:=(Zs (fM s.live i))) rfl rfl)) (nU rfl) ?_
     have aP:=yi [2,3,4,0,5,6,1,7] aj
     have hto:=(kj aP (i:=5) rfl:V.ok)
     have hrem:=hU.rem hi W hA9 hto D bE (lv2:=s.lv) (ls:=fR s.live i (fun _=>(⟨0,0,0,0,0,0,0⟩:Lv))) rfl
     exact⟨(⟨s.iO,s.tb,s.ab,s.mb,s.lv,s.last,g,V,fR s.live i (fun _=>(⟨0,0,0,0,0,0,0⟩:Lv)),(gH (gH s.im ((fM s.live i).u)) ((fM s.live i).v))⟩:fZ),rfl,⟨hrem.2,rfl⟩,yv (yw (p:=fZ.ok fO fN (⟨s.iO,s.tb,s.ab,s.mb,s.lv,s.last,g,V,fR s.live i (fun _=>(⟨0,0,0,0,0,0,0⟩:Lv)),(gH (gH s.im ((fM s.live i).u)) ((fM s.live i).v))⟩:fZ)) (yc [_,_,_,_,_,_] _ aP) hrem.1) zh⟩
end
section
open Go Go.Sx
theorem Vl(fO fN:Nat)(w:World)(hv:fO<=4096)(he:fN<=16384) :
 CR ya 39 #[(Za fO),(Za fN),wM] w (fun r w' => ∃ (ub:Nat) (s:fZ),r = .tuple (qS ub)/\((∀ y,¬ s.has y)/\s.last=0)/\gm (gF []) w w' (fZ.R fO fN ub s)):=by
 refine en Tryz.func39 Tryz.ntmps39 ?_
 have hst0:=jO w
 refine gf hst0 10 ?_
 refine cmp rfl rfl rfl (mL o_) (fQ hst0 2 ?_)
 refine cmp rfl rfl rfl (uA o_) (fQ hst0 3 ?_)
 refine cmp rfl rfl rfl (mL o_) (fQ hst0 3 ?_)
 refine cmp rfl rfl rfl (uA o_) (fQ hst0 13 ?_)
 refine cl Pt (N3 fN w o_) ?_
 rintro _ o ⟨a,f,rfl,q,ht⟩
 have h:=(pn hst0 ht)
 refine fQ h 20 ?_
 refine cl ZU (Xc fO o o_) ?_
 rintro _ z ⟨b,d,e,rfl,j,ht⟩
 have k:=(pn h ht)
 refine fQ k 24 ?_
 refine mkV p_ .u64 rfl rfl k (fun c A B C t=>kf (pvs:=[(0,(Za fO)),(1,(Za fN)),(2,wM),(3,(Zb a)),(4,(Zb b)),(6,(.map (some c)))]) (v:=.agg (Qi fO fN a b (some c))) rfl rfl (jS [(0,(Ze fO)),(1,(Ze fN)),(2,CX),(3,(Zj a)),(4,(Zj b)),(6,[(.map (some c))])] EL ZX rfl ⟨rfl,rfl,rfl,rfl,rfl,rfl,rfl,rfl,rfl,rfl,rfl,rfl,trivial⟩ rfl) (bx (v:=(.agg (Qi fO fN a b (some c)))) (cs:=(K0 fO fN a b (some c))) rfl rfl rfl t (fun g l D E m=>fW m 5 ?_)))
 refine jU (v:=(Zb g)) (v' := Zc) Tryz.results39 rfl rfl ?_
 have u:St _ [fV Lv.cells Zk 34 7 ([]),blk g 130 (K0 fO fN a b (some c)),gQ c .u64 p_ ([]),(TW.R b d e),(AW.R a f)] l:=sI m 34 7
 have x:St _ [iL 3 [],fV Lv.cells Zk 34 7 ([]),blk g 130 (K0 fO fN a b (some c)),gQ c .u64 p_ ([]),(TW.R b d e),(AW.R a f)] l:=St.I6 u
 have n:=yi [2,1,3,0,5,4] x
 have hto:=(kj n (i:=5) rfl:e.ok)
 have hnew:=fZ.vN q hto j.1 j.2.1 he hv a b d c
 exact⟨g,(⟨a,b,d,c,.slice none 0 0,0,f,e,[],[]⟩:fZ),rfl,⟨hnew.2,rfl⟩,St.BS (yw (p:=fZ.ok fO fN (⟨a,b,d,c,.slice none 0 0,0,f,e,[],[]⟩:fZ)) (yc [_,_,_,_,_,_] _ n) hnew.1) s_⟩
end
section
open Go Go.Sx
theorem WQ(fb nb m:Nat)(ed:Int)(xs:List Nd)(w:World)(hf:(Ba fb nb m ed).holds w)(hN:(blk nb 269 (xs.flatMap Nd.cells)).holds w)(hm:xs.length=m)(hb:m<=1000001)(hI:ga xs)(i:Nat)(hi:i<m) :
 CR ya 230 (Zn fb i) w (fun r w' => r = .tuple (ve ((jw xs i).1:Int) ((jw xs i).2))/\gB [] w w'):=by
 have hup:=hI.up i o_
 refine en Tryz.func230 Tryz.ntmps230 ?_
 have hst0:=jO w
 refine gf hst0 13 ?_
 refine jE (o' := i*9+0) (i:=(i:Int)) rfl rfl rfl yk iW o_ o_ (fa (o' := i*9+2) rfl rfl yj rfl gn rfl (ld rfl rfl ye rfl (St.EK hst0 s_ hN f_ om rfl) (fQ hst0 7 ?_)))
 by_cases a:(((fM xs i).up:Int):Int)=(0:Int)
 . refine fW hst0 12 ?_
   refine jU (v:=Zc) (v' := Zq) Gg rfl rfl ?_
   exact⟨by simp only[jw];(repeat' split)<;>(first|rfl|omega),hst0.gK s_⟩
 . refine fQ hst0 14 ?_
   refine jE (o' := ((fM xs i).up)*9+0) (i:=((fM xs i).up:Int)) rfl rfl rfl yk iW o_ o_ (fa (o' := ((fM xs i).up)*9+0) rfl rfl yj rfl lU rfl (pH (cs:=(Zi ((fM xs ((fM xs i).up)).k0:Int) ((fM xs ((fM xs i).up)).k1:Int))) rfl rfl yt rfl lU rfl (St.X5 hst0 s_ hN f_ om rfl) (gL hst0 4 ?_)))
   refine sy 3 (ir (gf hst0 14 ?_))
   refine nt (i:=0) rfl rfl rfl yt ye rfl gn d_ rfl (fQ hst0 8 ?_)
   by_cases b:(((fM xs ((fM xs i).up)).k0:Int):Int)=((i:Int):Int)
   . refine fW hst0 17 ?_
     refine jU (v:=Zc) (v' := Zf) Gg rfl rfl ?_
     exact⟨by simp only[jw];(repeat' split)<;>(first|rfl|omega),hst0.gK s_⟩
   . refine fW hst0 11 ?_
     refine tN (?_)
     refine ir (gf hst0 14 ?_)
     refine nt (i:=1) rfl rfl rfl yt ye rfl gn d_ rfl (fQ hst0 8 ?_)
     by_cases c:(((fM xs ((fM xs i).up)).k1:Int):Int)=((i:Int):Int)
     . refine fW hst0 17 ?_
       refine jU (v:=rF) (v' := Zf) Gg rfl rfl ?_
       exact⟨by simp only[jw];(repeat' split)<;>(first|rfl|omega),hst0.gK s_⟩
     . refine fW hst0 11 ?_
       refine tN (?_)
       refine ir (jm hst0 19 ?_)
       refine jU (v:=Zc) (v' := Zq) Gg rfl rfl ?_
       exact⟨by simp only[jw];(repeat' split)<;>(first|rfl|omega),hst0.gK s_⟩
theorem DD(fb nb m:Nat)(ed:Int)(xs:List Nd)(w:World)(hf:(Ba fb nb m ed).holds w)(hN:(blk nb 269 (xs.flatMap Nd.cells)).holds w)(hm:xs.length=m)(hb:m<=1000001)(hI:ga xs)(i j:Nat)(hi:i<m)(hj:j<m) :
 CR ya 198 (Z2 fb i j) w (fun r w' => r = .bool (lI xs i j)/\gB [] w w'):=by
 refine en Tryz.func198 Tryz.ntmps198 ?_
 have hst0:=jO w
 refine wm hst0 6 ?_
 refine iR hst0 (fun b a=>?_) (hA:=by refine' gI 7 ?k0;case k0=>refine' gq (fun wq hM=>rv (gU rfl uY rfl (St.EK hM s_ hN f_ om rfl))) ?k1;case k1=>refine' gI 7 ?k2;case k2=>refine' gq (fun wq hM=>rv (gU rfl uY rfl (St.EK hM s_ hN f_ om rfl))) ?k3;case k3=>exact iA)
 refine ng tt none a 5 ?_
 by_cases c:((fM xs i).key:Int)<((fM xs j).key:Int)
 . refine fW a 15 ?_
   refine gw (v:=Zf) Ga rfl ?_
   exact⟨kA ((decide_eq_true o_).symm),a.gK s_⟩
 . refine fQ a 4 ?_
   by_cases d:((fM xs i).key:Int)=((fM xs j).key:Int)
   . refine fQ a 4 ?_
     by_cases e:((i:Int):Int)<((j:Int):Int)
     . refine fW a 7 ?_
       refine gw (v:=Zf) Ga rfl ?_
       exact⟨kA ((decide_eq_true o_).symm),a.gK s_⟩
     . refine fW a 7 ?_
       refine gw (v:=Zq) Ga rfl ?_
       exact⟨kA ((decide_eq_false o_).symm),a.gK s_⟩
   . refine fW a 11 ?_
     refine gw (v:=Zq) Ga rfl ?_
     exact⟨kA ((decide_eq_false o_).symm),a.gK s_⟩
theorem qX(fb nb m:Nat)(ed:Int)(xs:List Nd)(w:World)(hO:Own (Zh fb nb m ed xs) w)(hm:xs.length=m)(hb:m<=1000001)(hI:ga xs)(i k:Nat)(hi:i<m)(hk:k<m) :
 CR ya 243 #[(Zb fb),(Za i),Zc,(Za k)] w (fun r w' => r = .tuple #[]/\gm (Zh fb nb m ed xs) w w' (Zh fb nb m ed (iS xs i 0 k))):=by
 refine en Tryz.func243 Tryz.ntmps243 ?_
 have hst0:=(y8 hO).unpack
 refine gf hst0 9 ?_
 refine jE (o' := i*9+0) (i:=(i:Int)) rfl rfl rfl yk iW o_ o_ (fa (o' := i*9+0) rfl rfl yj rfl lU rfl (mA (o:=i*9+0) (o' := i*9+0) (i:=0) rfl rfl rfl yt gn d_ rfl (me (L' := [blk fb 265 (Zm fb nb m ed),blk nb 269 ((fR xs i (fun x=>{ x with k0:=k })).flatMap Nd.cells)]) 1 rfl rfl rfl rfl gn rfl rfl hst0 rfl (jQ (cf:=Nd.cells) (sz:=9) (k:=i) (off:=0) (n:=1) f_ om (za rfl)) (jP (cf:=Nd.cells) (sz:=9) (k:=i) (off:=0) f_ om rfl (za rfl)) rfl (fun c a d=>fQ a 5 ?_))))
 by_cases e:((k:Int):Int)=(0:Int)
 . refine fW a 5 ?_
   refine jA F5 ?_
   have e9:iS xs i 0 k=fR xs i (fun x=>{ x with k0:=k }):=by simp only[iS,reduceIte,CO];(repeat' split)<;>(first|rfl|omega)
   have hs9:=a
   rw[<-e9]at hs9
   exact⟨rfl,yq (yc [_,_] [] hs9)⟩
 . refine fQ a 11 ?_
   refine jE (o' := k*9+0) (i:=(k:Int)) rfl rfl rfl yk iW o_ o_ (fa (o' := k*9+2) rfl rfl yj rfl gn rfl (me (L' := [blk fb 265 (Zm fb nb m ed),blk nb 269 ((fR (fR xs i (fun x=>{ x with k0:=k })) k (fun x=>{ x with up:=i })).flatMap Nd.cells)]) 1 rfl rfl rfl rfl gn rfl rfl a rfl (jQ (cf:=Nd.cells) (sz:=9) (k:=k) (off:=2) (n:=1) f_ om (za rfl)) (jP (cf:=Nd.cells) (sz:=9) (k:=k) (off:=2) f_ om rfl (za rfl)) rfl (fun f b g=>fW b 1 ?_)))
   refine jA F5 ?_
   have e9:iS xs i 0 k=fR (fR xs i (fun x=>{ x with k0:=k })) k (fun x=>{ x with up:=i }):=by simp only[iS,reduceIte,CO];(repeat' split)<;>(first|rfl|omega)
   have hs9:=b
   rw[<-e9]at hs9
   exact⟨rfl,yq (yc [_,_] [] hs9)⟩
theorem qW(fb nb m:Nat)(ed:Int)(xs:List Nd)(w:World)(hO:Own (Zh fb nb m ed xs) w)(hm:xs.length=m)(hb:m<=1000001)(hI:ga xs)(i k:Nat)(hi:i<m)(hk:k<m) :
 CR ya 243 #[(Zb fb),(Za i),rF,(Za k)] w (fun r w' => r = .tuple #[]/\gm (Zh fb nb m ed xs) w w' (Zh fb nb m ed (iS xs i 1 k))):=by
 refine en Tryz.func243 Tryz.ntmps243 ?_
 have hst0:=(y8 hO).unpack
 refine gf hst0 9 ?_
 refine jE (o' := i*9+0) (i:=(i:Int)) rfl rfl rfl yk iW o_ o_ (fa (o' := i*9+0) rfl rfl yj rfl lU rfl (mA (o:=i*9+0) (o' := i*9+1) (i:=1) rfl rfl rfl yt gn d_ rfl (me (L' := [blk fb 265 (Zm fb nb m ed),blk nb 269 ((fR xs i (fun x=>{ x with k1:=k })).flatMap Nd.cells)]) 1 rfl rfl rfl rfl gn rfl rfl hst0 rfl (jQ (cf:=Nd.cells) (sz:=9) (k:=i) (off:=1) (n:=1) f_ om (za rfl)) (jP (cf:=Nd.cells) (sz:=9) (k:=i) (off:=1) f_ om rfl (za rfl)) rfl (fun c a d=>fQ a 5 ?_))))
 by_cases e:((k:Int):Int)=(0:Int)
 . refine fW a 5 ?_
   refine jA F5 ?_
   have e9:iS xs i 1 k=fR xs i (fun x=>{ x with k1:=k }):=by simp only[iS,reduceIte,CO];(repeat' split)<;>(first|rfl|omega)
   have hs9:=a
   rw[<-e9]at hs9
   exact⟨rfl,yq (yc [_,_] [] hs9)⟩
 . refine fQ a 11 ?_
   refine jE (o' := k*9+0) (i:=(k:Int)) rfl rfl rfl yk iW o_ o_ (fa (o' := k*9+2) rfl rfl yj rfl gn rfl (me (L' := [blk fb 265 (Zm fb nb m ed),blk nb 269 ((fR (fR xs i (fun x=>{ x with k1:=k })) k (fun x=>{ x with up:=i })).flatMap Nd.cells)]) 1 rfl rfl rfl rfl gn rfl rfl a rfl (jQ (cf:=Nd.cells) (sz:=9) (k:=k) (off:=2) (n:=1) f_ om (za rfl)) (jP (cf:=Nd.cells) (sz:=9) (k:=k) (off:=2) f_ om rfl (za rfl)) rfl (fun f b g=>fW b 1 ?_)))
   refine jA F5 ?_
   have e9:iS xs i 1 k=fR (fR xs i (fun x=>{ x with k1:=k })) k (fun x=>{ x with up:=i }):=by simp only[iS,reduceIte,CO];(repeat' split)<;>(first|rfl|omega)
   have hs9:=b
   rw[<-e9]at hs9
   exact⟨rfl,yq (yc [_,_] [] hs9)⟩
theorem IG(fb nb m:Nat)(ed:Int)(xs:List Nd)(w:World)(hO:Own (Zh fb nb m ed xs) w)(hm:xs.length=m)(hb:m<=1000001)(hI:ga xs)(i:Nat)(hi:i<m) :
 CR ya 232 (Zn fb i) w (fun r w' => r = .tuple #[]/\gm (Zh fb nb m ed xs) w w' (Zh fb nb m ed (jY xs i))):=by
 refine en Tryz.func232 Tryz.ntmps232 ?_
 have hst0:=(y8 hO).unpack
 refine gf hst0 7 ?_
 refine jE (o' := i*9+0) (i:=(i:Int)) rfl rfl rfl yk iW om o_ (fQ hst0 8 ?_)
 refine fa (o' := i*9+3) rfl rfl yj rfl nV rfl (ld rfl rfl lR rfl (yz hst0 (i:=1) rfl f_ om rfl) (gL hst0 3 ?_))
 cases L:((fM xs i).flip:Bool)
 . skip
   refine jm hst0 3 ?_
   refine Fh C5 ?_
   have e9:jY xs i=xs:=by simp only[jY];(repeat' split)<;>(first|rfl|omega|simp_all)
   have hs9:=hst0
   rw[<-e9]at hs9
   exact⟨rfl,yq (yc [_,_] [] hs9)⟩
 . skip
   refine gf hst0 7 ?_
   refine fa (o' := i*9+3) rfl rfl yj rfl nV rfl (me (L' := [blk fb 265 (Zm fb nb m ed),blk nb 269 ((fR xs i (fun x=>{ x with flip:=false })).flatMap Nd.cells)]) 1 rfl rfl rfl rfl nV rfl rfl hst0 rfl (jQ (cf:=Nd.cells) (sz:=9) (k:=i) (off:=3) (n:=1) f_ om (za rfl)) (jP (cf:=Nd.cells) (sz:=9) (k:=i) (off:=3) f_ om rfl (za rfl)) rfl ?_)
   intro M y N
   have s:ga (fR xs i (fun x=>{ x with flip:=false })):=ga.iF hI om (fun x a b c d e=>⟨a,b,c,d,e⟩)
   obtain⟨j,z,O,s,y⟩:=iG (m:=m) s y
   refine gL y 3 ?_
   refine oh (Γ:=Unit) mixed [[],[],[],[2],[2,3],[2,3,4],[2,3,4,5],[],[7],[7,8],[7,8,9],[7,8,9,10],[0],[0,12],[0,2,3,4,5,6,7,8,9,10,11,12,13],[0,2,3,4,5,6,7,8,9,10,11,12,13,14],[1],[1,16],[0,1,2,3,4,5,6,7,8,9,10,11,12,13,14,15,16,17],[0,1,2,3,4,5,6,7,8,9,10,11,12,13,14,15,16,17,18]] [15,19] d_ [fun _=>(Z0 nb (i*9+0)),fun _=>(Z0 nb (i*9+0)),fun _=>(Z0 nb (i*9+0)),fun _=>(Z0 nb (i*9+0)),fun _=>(Z0 nb (i*9+0)),fun _=>(Z0 nb (i*9+1)),fun _=>(Za ((fM j i).k1:Int)),fun _=>(Z0 nb (i*9+0)),fun _=>(Z0 nb (i*9+0)),fun _=>(Z0 nb (i*9+0)),fun _=>(Z0 nb (i*9+0)),fun _=>(Za ((fM j i).k0:Int)),fun _=>(Z0 nb (i*9+0)),fun _=>(Z0 nb (i*9+0)),fun _=>(Z0 nb (i*9+0)),fun _=>undef,fun _=>(Z0 nb (i*9+0)),fun _=>(Z0 nb (i*9+0)),fun _=>(Z0 nb (i*9+1)),fun _=>undef] [(fun _=>(K8 fb nb m ed j),fun _ _=>True),(fun _=>[blk fb 265 (Zm fb nb m ed),blk nb 269 ((fR j i (fun x=>{ x with k0:=((fM j i).k1) })).flatMap Nd.cells)],fun _ _=>True),(fun _=>[blk fb 265 (Zm fb nb m ed),blk nb 269 ((fR (fR j i (fun x=>{ x with k0:=((fM j i).k1) })) i (fun x=>{ x with k1:=((fM j i).k0) })).flatMap Nd.cells)],fun _ _=>True)] () _ rfl y (fun _ _=>trivial) ?_ f_ rfl ?_
   . skip
     refine gp (fun _ _=>iy (v:=(Z0 nb (i*9+0))) rfl) ?_
     refine gp (fun _ _=>iy (v:=(Z0 nb (i*9+0))) rfl) ?_
     refine gp (fun _ _=>iy (v:=(Z0 nb (i*9+0))) rfl) ?_
     refine gp (fun _ _=>j6 rfl) ?_
     refine gp (fun _ _=>jy (o' := i*9+0) rfl yj rfl lU rfl) ?_
     refine gp (fun _ _=>vM (o:=i*9+0) (o' := i*9+1) (i:=1) rfl rfl yt gn d_ rfl) ?_
     refine l9 rfl rfl rfl rfl (fun _ wq hM hF=>qv rfl rfl (gU rfl ye rfl (yz hM (i:=1) rfl f_ om rfl))) (gp (fun _ _=>iy (v:=(Z0 nb (i*9+0))) rfl) ?_)
     refine gp (fun _ _=>j6 rfl) ?_
     refine gp (fun _ _=>jy (o' := i*9+0) rfl yj rfl lU rfl) ?_
     refine gp (fun _ _=>vM (o:=i*9+0) (o' := i*9+0) (i:=0) rfl rfl yt gn d_ rfl) ?_
     refine l9 rfl rfl rfl rfl (fun _ wq hM hF=>qv rfl rfl (gU rfl ye rfl (yz hM (i:=1) rfl f_ om rfl))) (gp (fun _ _=>j6 rfl) ?_)
     refine gp (fun _ _=>jy (o' := i*9+0) rfl yj rfl lU rfl) ?_
     refine gp (fun _ _=>vM (o:=i*9+0) (o' := i*9+0) (i:=0) rfl rfl yt gn d_ rfl) ?_
     refine jK rfl rfl rfl rfl (fun _ wq hM hF=>nu (L' := [blk fb 265 (Zm fb nb m ed),blk nb 269 ((fR j i (fun x=>{ x with k0:=((fM j i).k1) })).flatMap Nd.cells)]) 1 rfl rfl rfl rfl gn rfl rfl hM rfl (oS (jQ (cf:=Nd.cells) (sz:=9) (k:=i) (off:=0) (n:=1) f_ om (za rfl))) (jP (cf:=Nd.cells) (sz:=9) (k:=i) (off:=0) f_ om rfl (za rfl)) rfl (fun _ h=>⟨(),⟨h,trivial⟩,rfl,jD.refl _ _ _⟩)) (gp (fun _ _=>j6 rfl) ?_)
     refine gp (fun _ _=>jy (o' := i*9+0) rfl yj rfl lU rfl) ?_
     refine gp (fun _ _=>vM (o:=i*9+0) (o' := i*9+1) (i:=1) rfl rfl yt gn d_ rfl) ?_
     refine jK rfl rfl rfl rfl (fun _ wq hM hF=>nu (L' := [blk fb 265 (Zm fb nb m ed),blk nb 269 ((fR (fR j i (fun x=>{ x with k0:=((fM j i).k1) })) i (fun x=>{ x with k1:=((fM j i).k0) })).flatMap Nd.cells)]) 1 rfl rfl rfl rfl gn rfl rfl hM rfl (oS (jQ (cf:=Nd.cells) (sz:=9) (k:=i) (off:=1) (n:=1) f_ om (za rfl))) (jP (cf:=Nd.cells) (sz:=9) (k:=i) (off:=1) f_ om rfl (za rfl)) rfl (fun _ h=>⟨(),⟨h,trivial⟩,rfl,jD.refl _ _ _⟩)) ?_
     exact og
   rintro-P l -
   have G:ga (fR j i (fun x=>{ x with k0:=((fM j i).k1) })):=ga.iF s om (fun x a b c d e=>⟨(o9 (s.k1 i om)),b,c,d,e⟩)
   have g:ga (fR (fR j i (fun x=>{ x with k0:=((fM j i).k1) })) i (fun x=>{ x with k1:=((fM j i).k0) })):=ga.iF G om (fun x a b c d e=>⟨a,(o9 (s.k0 i om)),c,d,e⟩)
   obtain⟨f,A,Q,g,l⟩:=iG (m:=m) g l
   refine ng tt none l 5 ?_
   refine fa (o' := i*9+0) rfl rfl yj rfl lU rfl (pH (cs:=(Zi ((fM f i).k0:Int) ((fM f i).k1:Int))) rfl rfl yt rfl lU rfl (St.Nl l (i:=1) rfl f_ om rfl) (gL l 4 ?_))
   refine sy 3 (ir (gf l 13 ?_))
   refine nt (i:=0) rfl rfl rfl yt ye rfl gn d_ rfl (fQ l 6 ?_)
   by_cases R:(((fM f i).k0:Int):Int)=(0:Int)
   . refine fW l 11 ?_
     refine tN (?_)
     refine ir (gf l 13 ?_)
     refine nt (i:=1) rfl rfl rfl yt ye rfl gn d_ rfl (fQ l 6 ?_)
     by_cases S:(((fM f i).k1:Int):Int)=(0:Int)
     . refine fW l 11 ?_
       refine tN (?_)
       refine ir (jm l 11 ?_)
       refine jA C5 ?_
       have e9:jY xs i=f:=by subst A;subst z;simp only[jY];(repeat' split)<;>(first|rfl|omega|simp_all)
       have hs9:=l
       rw[<-e9]at hs9
       exact⟨rfl,yq (yc [_,_] [] hs9)⟩
     . refine gL l 4 ?_
       refine jN l 16 ?_ (hA:=by refine' gI 10 ?k0;case k0=>refine' gq (fun wq hM=>rv (pW (o' := ((fM f i).k1)*9+0) (i:=((fM f i).k1:Int)) rfl rfl yk iW (o9 (show ((fM f i).k1)<(f).length from(o9 (g.k1 i om)))) o_)) ?k1;case k1=>refine' gI 1 ?k2;case k2=>refine' gq (fun wq hM=>rv (gU rfl lR rfl (yz hM (i:=1) rfl f_ (o9 (g.k1 i om)) rfl))) ?k3;case k3=>refine' gI 1 ?k4;case k4=>refine' gq (fun wq hM=>rv (pW (o' := ((fM f i).k1)*9+0) (i:=((fM f i).k1:Int)) rfl rfl yk iW (o9 (show ((fM f i).k1)<(f).length from(o9 (g.k1 i om)))) o_)) ?k5;case k5=>exact iA)
       intro wq hM
       refine nu (L' := [blk fb 265 (Zm fb nb m ed),blk nb 269 ((fR f ((fM f i).k1) (fun x=>{ x with flip := !((fM f ((fM f i).k1)).flip) })).flatMap Nd.cells)]) 1 rfl rfl rfl rfl nV rfl rfl hM rfl (oS (jQ (cf:=Nd.cells) (sz:=9) (k:=((fM f i).k1)) (off:=3) (n:=1) f_ (o9 (g.k1 i om)) (za rfl))) (jP (cf:=Nd.cells) (sz:=9) (k:=((fM f i).k1)) (off:=3) f_ (o9 (g.k1 i om)) rfl (za rfl)) rfl (fun _ h=>(jM h (fun U t=>?_)))
       have C:ga (fR f ((fM f i).k1) (fun x=>{ x with flip := !((fM f ((fM f i).k1)).flip) })):=ga.iF g (o9 (g.k1 i om)) (fun x a b c d e=>⟨a,b,c,d,e⟩)
       obtain⟨H,I,V,C,t⟩:=iG (m:=m) C t
       refine iN tt none t 6 ?_
       refine tN (?_)
       refine ir (jm t 11 ?_)
       refine jA C5 ?_
       have e9:jY xs i=H:=by subst I;subst A;subst z;simp only[jY];(repeat' split)<;>(first|rfl|omega|simp_all)
       have hs9:=t
       rw[<-e9]at hs9
       exact⟨rfl,yq (yc [_,_] [] hs9)⟩
   . refine gL l 4 ?_
     refine jN l 16 ?_ (hA:=by refine' gI 10 ?k0;case k0=>refine' gq (fun wq hM=>rv (pW (o' := ((fM f i).k0)*9+0) (i:=((fM f i).k0:Int)) rfl rfl yk iW (o9 (show ((fM f i).k0)<(f).length from(o9 (g.k0 i om)))) o_)) ?k1;case k1=>refine' gI 1 ?k2;case k2=>refine' gq (fun wq hM=>rv (gU rfl lR rfl (yz hM (i:=1) rfl f_ (o9 (g.k0 i om)) rfl))) ?k3;case k3=>refine' gI 1 ?k4;case k4=>refine' gq (fun wq hM=>rv (pW (o' := ((fM f i).k0)*9+0) (i:=((fM f i).k0:Int)) rfl rfl yk iW (o9 (show ((fM f i).k0)<(f).length from(o9 (g.k0 i om)))) o_)) ?k5;case k5=>exact iA)
     intro wq hM
     refine nu (L' := [blk fb 265 (Zm fb nb m ed),blk nb 269 ((fR f ((fM f i).k0) (fun x=>{ x with flip := !((fM f ((fM f i).k0)).flip) })).flatMap Nd.cells)]) 1 rfl rfl rfl rfl nV rfl rfl hM rfl (oS (jQ (cf:=Nd.cells) (sz:=9) (k:=((fM f i).k0)) (off:=3) (n:=1) f_ (o9 (g.k0 i om)) (za rfl))) (jP (cf:=Nd.cells) (sz:=9) (k:=((fM f i).k0)) (off:=3) f_ (o9 (g.k0 i om)) rfl (za rfl)) rfl (fun _ h=>(jM h (fun W p=>?_)))
     have B:ga (fR f ((fM f i).k0) (fun x=>{ x with flip := !((fM f ((fM f i).k0)).flip) })):=ga.iF g (o9 (g.k0 i om)) (fun x a b c d e=>⟨a,b,c,d,e⟩)
     obtain⟨q,D,X,B,p⟩:=iG (m:=m) B p
     refine iN tt none p 6 ?_
     refine tN (?_)
     refine ir (gf p 13 ?_)
     refine nt (i:=1) rfl rfl rfl yt ye rfl gn d_ rfl (fQ p 6 ?_)
     by_cases Y:(((fM f i).k1:Int):Int)=(0:Int)
     . refine fW p 11 ?_
       refine tN (?_)
       refine ir (jm p 11 ?_)
       refine jA C5 ?_
       have e9:jY xs i=q:=by subst D;subst A;subst z;simp only[jY];(repeat' split)<;>(first|rfl|omega|simp_all)
       have hs9:=p
       rw[<-e9]at hs9
       exact⟨rfl,yq (yc [_,_] [] hs9)⟩
     . refine gL p 4 ?_
       refine jN p 16 ?_ (hA:=by refine' gI 10 ?k0;case k0=>refine' gq (fun wq hM=>rv (pW (o' := ((fM f i).k1)*9+0) (i:=((fM f i).k1:Int)) rfl rfl yk iW (o9 (show ((fM f i).k1)<(q).length from(o9 (g.k1 i om)))) o_)) ?k1;case k1=>refine' gI 1 ?k2;case k2=>refine' gq (fun wq hM=>rv (gU rfl lR rfl (yz hM (i:=1) rfl f_ (o9 (g.k1 i om)) rfl))) ?k3;case k3=>refine' gI 1 ?k4;case k4=>refine' gq (fun wq hM=>rv (pW (o' := ((fM f i).k1)*9+0) (i:=((fM f i).k1:Int)) rfl rfl yk iW (o9 (show ((fM f i).k1)<(q).length from(o9 (g.k1 i om)))) o_)) ?k5;case k5=>exact iA)
       intro wq hM
       refine nu (L' := [blk fb 265 (Zm fb nb m ed),blk nb 269 ((fR q ((fM f i).k1) (fun x=>{ x with flip := !((fM q ((fM f i).k1)).flip) })).flatMap Nd.cells)]) 1 rfl rfl rfl rfl nV rfl rfl hM rfl (oS (jQ (cf:=Nd.cells) (sz:=9) (k:=((fM f i).k1)) (off:=3) (n:=1) f_ (o9 (g.k1 i om)) (za rfl))) (jP (cf:=Nd.cells) (sz:=9) (k:=((fM f i).k1)) (off:=3) f_ (o9 (g.k1 i om)) rfl (za rfl)) rfl (fun _ h=>(jM h (fun Z u=>?_)))
       have E:ga (fR q ((fM f i).k1) (fun x=>{ x with flip := !((fM q ((fM f i).k1)).flip) })):=ga.iF B (o9 (g.k1 i om)) (fun x a b c d e=>⟨a,b,c,d,e⟩)
       obtain⟨J,K,aa,E,u⟩:=iG (m:=m) E u
       refine iN tt none u 6 ?_
       refine tN (?_)
       refine ir (jm u 11 ?_)
       refine jA C5 ?_
       have e9:jY xs i=J:=by subst K;subst D;subst A;subst z;simp only[jY];(repeat' split)<;>(first|rfl|omega|simp_all)
       have hs9:=u
       rw[<-e9]at hs9
       exact⟨rfl,yq (yc [_,_] [] hs9)⟩
end
section
open Go Go.Sx
theorem l7(fb nb m:Nat)(ed:Int)(xs:List Nd)(w:World)(hO:Own (Zh fb nb m ed xs) w)(hm:xs.length=m)(hb:m<=1000001)(hI:ga xs)(i:Nat)(hi:i<m) :
 CR ya 143 (Zn fb i) w (fun r w' => r = .tuple #[]/\gm (Zh fb nb m ed xs) w w' (Zh fb nb m ed (iK xs i))):=by
 refine en Tryz.func143 Tryz.ntmps143 ?_
 have hst0:=(y8 hO).unpack
 refine gf hst0 7 ?_
 refine jE (o' := i*9+0) (i:=(i:Int)) rfl rfl rfl yk iW om o_ (fQ hst0 11 ?_)
 refine fa (o' := i*9+7) rfl rfl yj rfl gn rfl (ld rfl rfl ye rfl (yz hst0 (i:=1) rfl f_ om rfl) (ar (e:=(IntKind.i64.wrap (1+(fM xs i).iP))) rfl rfl rfl rfl rfl (fQ hst0 1 ?_)))
 refine fa (o' := i*9+5) rfl rfl yj rfl gn rfl (me (L' := [blk fb 265 (Zm fb nb m ed),blk nb 269 ((fR xs i (fun x=>{ x with size:=1 })).flatMap Nd.cells)]) 1 rfl rfl rfl rfl gn rfl rfl hst0 rfl (jQ (cf:=Nd.cells) (sz:=9) (k:=i) (off:=5) (n:=1) f_ om (za rfl)) (jP (cf:=Nd.cells) (sz:=9) (k:=i) (off:=5) f_ om rfl (za rfl)) rfl ?_)
 intro aD al aE
 have aw:ga (fR xs i (fun x=>{ x with size:=1 })):=ga.iF hI om (fun x a b c d e=>⟨a,b,c,d,e⟩)
 refine fQ al 1 ?_
 refine fa (o' := i*9+6) rfl rfl yj rfl gn rfl (me (L' := [blk fb 265 (Zm fb nb m ed),blk nb 269 ((fR (fR xs i (fun x=>{ x with size:=1 })) i (fun x=>{ x with first:=i })).flatMap Nd.cells)]) 1 rfl rfl rfl rfl gn rfl rfl al rfl (jQ (cf:=Nd.cells) (sz:=9) (k:=i) (off:=6) (n:=1) f_ om (za rfl)) (jP (cf:=Nd.cells) (sz:=9) (k:=i) (off:=6) f_ om rfl (za rfl)) rfl ?_)
 intro aF am aG
 have ax:ga (fR (fR xs i (fun x=>{ x with size:=1 })) i (fun x=>{ x with first:=i })):=ga.iF aw om (fun x a b c d e=>⟨a,b,c,om,e⟩)
 refine fQ am 1 ?_
 refine fa (o' := i*9+8) rfl rfl yj rfl gn rfl (me (L' := [blk fb 265 (Zm fb nb m ed),blk nb 269 ((fR (fR (fR xs i (fun x=>{ x with size:=1 })) i (fun x=>{ x with first:=i })) i (fun x=>{ x with total:=(IntKind.i64.wrap (1+(fM xs i).iP)) })).flatMap Nd.cells)]) 1 rfl rfl rfl rfl gn rfl rfl am rfl (jQ (cf:=Nd.cells) (sz:=9) (k:=i) (off:=8) (n:=1) f_ om (za rfl)) (jP (cf:=Nd.cells) (sz:=9) (k:=i) (off:=8) f_ om rfl (za rfl)) rfl ?_)
 intro aH an aI
 have ay:ga (fR (fR (fR xs i (fun x=>{ x with size:=1 })) i (fun x=>{ x with first:=i })) i (fun x=>{ x with total:=(IntKind.i64.wrap (1+(fM xs i).iP)) })):=ga.iF ax om (fun x a b c d e=>⟨a,b,c,d,e⟩)
 obtain⟨y,hy⟩:∃ y,y=fR xs i (fun x=>{ x with size:=1,first:=i,total:=IntKind.i64.wrap (1+x.iP) }):=⟨_,rfl⟩
 have hs8:=an
 have hIy:=ay
 refine fQ an 4 ?_
 rw[RD o_,<-hy]at hs8 hIy
 have hyl:y.length=m:=by rw[hy,gJ,hm]
 refine fQ hs8 2 ?_
 refine fa (o' := i*9+0) rfl rfl yj rfl lU rfl (pH (cs:=(Zi ((fM y i).k0:Int) ((fM y i).k1:Int))) rfl rfl yt rfl lU rfl (St.Nl hs8 (i:=1) rfl f_ om rfl) (gL hs8 4 ?_))
 refine sy 3 (ir (gf hs8 13 ?_))
 refine nt (i:=0) rfl rfl rfl yt ye rfl gn d_ rfl (fQ hs8 7 ?_)
 by_cases aJ:(((fM y i).k0:Int):Int)=(0:Int)
 . refine fW hs8 12 ?_
   refine tN (?_)
   refine ir (gf hs8 13 ?_)
   refine nt (i:=1) rfl rfl rfl yt ye rfl gn d_ rfl (fQ hs8 7 ?_)
   by_cases aK:(((fM y i).k1:Int):Int)=(0:Int)
   . refine fW hs8 12 ?_
     refine tN (?_)
     refine ir (jm hs8 11 ?_)
     refine jA vz ?_
     have e9:iK xs i=y:=by rw[ue hy o_];first|(rw[sP (k:=(fM y i).k0) o_];rw[sP (k:=(fM y i).k1) o_])
     have hs9:=hs8
     rw[<-e9]at hs9
     exact⟨rfl,yq (yc [_,_] [] hs9)⟩
   . refine fQ hs8 13 ?_
     refine jE (o' := ((fM y i).k1)*9+0) (i:=((fM y i).k1:Int)) rfl rfl rfl yk iW (o9 (show ((fM y i).k1)<(y).length from(o9 (hIy.k1 i om)))) o_ (gL hs8 4 ?_)
     refine jN hs8 11 ?_ (hA:=by refine' gI 7 ?k0;case k0=>refine' gq (fun wq hM=>rv (gU rfl ye rfl (yz hM (i:=1) rfl f_ (o9 (hIy.k1 i om)) rfl))) ?k1;case k1=>refine' gq (fun wq hM=>rv (kV (e:=(IntKind.i64.wrap ((fM y i).size+(fM y ((fM y i).k1)).size))) rfl rfl rfl rfl)) ?k2;case k2=>exact iA)
     intro wq hM
     refine nu (L' := [blk fb 265 (Zm fb nb m ed),blk nb 269 ((fR y i (fun x=>{ x with size:=(IntKind.i64.wrap ((fM y i).size+(fM y ((fM y i).k1)).size)) })).flatMap Nd.cells)]) 1 rfl rfl rfl rfl gn rfl rfl hM rfl (oS (jQ (cf:=Nd.cells) (sz:=9) (k:=i) (off:=5) (n:=1) f_ om (za rfl))) (jP (cf:=Nd.cells) (sz:=9) (k:=i) (off:=5) f_ om rfl (za rfl)) rfl (fun _ h=>(jM h (fun aL O=>?_)))
     have aa:ga (fR y i (fun x=>{ x with size:=(IntKind.i64.wrap ((fM y i).size+(fM y ((fM y i).k1)).size)) })):=ga.iF hIy om (fun x a b c d e=>⟨a,b,c,d,e⟩)
     obtain⟨v,P,aM,aa,O⟩:=iG (m:=m) aa O
     refine kF tt none O 2 ?_
     refine jN O 11 ?_ (hA:=by refine' gI 7 ?k0;case k0=>refine' gq (fun wq hM=>rv (gU rfl ye rfl (yz hM (i:=1) rfl f_ (o9 (hIy.k1 i om)) rfl))) ?k1;case k1=>refine' gq (fun wq hM=>rv (kV (e:=(IntKind.i64.wrap ((fM v i).total+(fM v ((fM y i).k1)).total))) rfl rfl rfl rfl)) ?k2;case k2=>exact iA)
     intro wq hM
     refine nu (L' := [blk fb 265 (Zm fb nb m ed),blk nb 269 ((fR v i (fun x=>{ x with total:=(IntKind.i64.wrap ((fM v i).total+(fM v ((fM y i).k1)).total)) })).flatMap Nd.cells)]) 1 rfl rfl rfl rfl gn rfl rfl hM rfl (oS (jQ (cf:=Nd.cells) (sz:=9) (k:=i) (off:=8) (n:=1) f_ om (za rfl))) (jP (cf:=Nd.cells) (sz:=9) (k:=i) (off:=8) f_ om rfl (za rfl)) rfl (fun _ h=>(jM h (fun aN Q=>?_)))
     have H:ga (fR v i (fun x=>{ x with total:=(IntKind.i64.wrap ((fM v i).total+(fM v ((fM y i).k1)).total)) })):=ga.iF aa om (fun x a b c d e=>⟨a,b,c,d,e⟩)
     obtain⟨j,R,aO,H,Q⟩:=iG (m:=m) H Q
     refine kF tt none Q 2 ?_
     refine iR Q (fun aP z=>?_) (hA:=by refine' gI 4 ?k0;case k0=>refine' gq (fun wq hM=>rv (gU rfl ye rfl (yz hM (i:=1) rfl f_ (o9 (hIy.k1 i om)) rfl))) ?k1;case k1=>refine' gI 4 ?k2;case k2=>refine' gq (fun wq hM=>rc (i6 rfl EC) (CR.mono (DD fb nb m ed j wq (hM.at (i:=0) rfl) (hM.at (i:=1) rfl) oa hb H ((fM j ((fM y i).k1)).first) ((fM j i).first) (o9 (H.first ((fM y i).k1) (o9 (hIy.k1 i om)))) (o9 (H.first i om))) fun _ _ h=>⟨h.1,hM.grow h.2⟩)) ?k3;case k3=>exact iA)
     refine kF tt none z 1 ?_
     cases S:(lI j ((fM j ((fM y i).k1)).first) ((fM j i).first):Bool)
     . skip
       refine jm z 8 ?_
       refine tN (?_)
       refine ir (jm z 11 ?_)
       refine jA vz ?_
       have e9:iK xs i=j:=by rw[ue hy o_];first|(rw[sP (k:=(fM y i).k0) o_];rw[sV (k:=(fM y i).k1) o_ P R S])|(rw[sV (k:=(fM y i).k0) o_ P R S];rw[sP (k:=(fM y i).k1) o_])
       have hs9:=z
       rw[<-e9]at hs9
       exact⟨rfl,yq (yc [_,_] [] hs9)⟩
     . skip
       refine gf z 5 ?_
       refine fa (o' := ((fM y i).k1)*9+6) rfl rfl yj rfl gn rfl (ld rfl rfl ye rfl (yz z (i:=1) rfl f_ (o9 (hIy.k1 i om)) rfl) (fQ z 1 ?_))
       refine fa (o' := i*9+6) rfl rfl yj rfl gn rfl (me (L' := [blk fb 265 (Zm fb nb m ed),blk nb 269 ((fR j i (fun x=>{ x with first:=((fM j ((fM y i).k1)).first) })).flatMap Nd.cells)]) 1 rfl rfl rfl rfl gn rfl rfl z rfl (jQ (cf:=Nd.cells) (sz:=9) (k:=i) (off:=6) (n:=1) f_ om (za rfl)) (jP (cf:=Nd.cells) (sz:=9) (k:=i) (off:=6) f_ om rfl (za rfl)) rfl ?_)
       intro aQ K aR
       have ao:ga (fR j i (fun x=>{ x with first:=((fM j ((fM y i).k1)).first) })):=ga.iF H om (fun x a b c d e=>⟨a,b,c,(o9 (H.first ((fM y i).k1) (o9 (hIy.k1 i om)))),e⟩)
       obtain⟨az,ap,aS,ao,K⟩:=iG (m:=m) ao K
       refine fW K 7 ?_
       refine tN (?_)
       refine ir (jm K 11 ?_)
       refine jA vz ?_
       have e9:iK xs i=az:=by rw[ue hy o_];first|(rw[sP (k:=(fM y i).k0) o_];rw[sU (k:=(fM y i).k1) o_ P R S ap])|(rw[sU (k:=(fM y i).k0) o_ P R S ap];rw[sP (k:=(fM y i).k1) o_])
       have hs9:=K
       rw[<-e9]at hs9
       exact⟨rfl,yq (yc [_,_] [] hs9)⟩
 . refine fQ hs8 13 ?_
   refine jE (o' := ((fM y i).k0)*9+0) (i:=((fM y i).k0:Int)) rfl rfl rfl yk iW (o9 (show ((fM y i).k0)<(y).length from(o9 (hIy.k0 i om)))) o_ (gL hs8 4 ?_)
   refine jN hs8 11 ?_ (hA:=by refine' gI 7 ?k0;case k0=>refine' gq (fun wq hM=>rv (gU rfl ye rfl (yz hM (i:=1) rfl f_ (o9 (hIy.k0 i om)) rfl))) ?k1;case k1=>refine' gq (fun wq hM=>rv (kV (e:=(IntKind.i64.wrap ((fM y i).size+(fM y ((fM y i).k0)).size))) rfl rfl rfl rfl)) ?k2;case k2=>exact iA)
   intro wq hM
   refine nu (L' := [blk fb 265 (Zm fb nb m ed),blk nb 269 ((fR y i (fun x=>{ x with size:=(IntKind.i64.wrap ((fM y i).size+(fM y ((fM y i).k0)).size)) })).flatMap Nd.cells)]) 1 rfl rfl rfl rfl gn rfl rfl hM rfl (oS (jQ (cf:=Nd.cells) (sz:=9) (k:=i) (off:=5) (n:=1) f_ om (za rfl))) (jP (cf:=Nd.cells) (sz:=9) (k:=i) (off:=5) f_ om rfl (za rfl)) rfl (fun _ h=>(jM h (fun aT U=>?_)))
   have ab:ga (fR y i (fun x=>{ x with size:=(IntKind.i64.wrap ((fM y i).size+(fM y ((fM y i).k0)).size)) })):=ga.iF hIy om (fun x a b c d e=>⟨a,b,c,d,e⟩)
   obtain⟨A,q,aU,ab,U⟩:=iG (m:=m) ab U
   refine kF tt none U 2 ?_
   refine jN U 11 ?_ (hA:=by refine' gI 7 ?k0;case k0=>refine' gq (fun wq hM=>rv (gU rfl ye rfl (yz hM (i:=1) rfl f_ (o9 (hIy.k0 i om)) rfl))) ?k1;case k1=>refine' gq (fun wq hM=>rv (kV (e:=(IntKind.i64.wrap ((fM A i).total+(fM A ((fM y i).k0)).total))) rfl rfl rfl rfl)) ?k2;case k2=>exact iA)
   intro wq hM
   refine nu (L' := [blk fb 265 (Zm fb nb m ed),blk nb 269 ((fR A i (fun x=>{ x with total:=(IntKind.i64.wrap ((fM A i).total+(fM A ((fM y i).k0)).total)) })).flatMap Nd.cells)]) 1 rfl rfl rfl rfl gn rfl rfl hM rfl (oS (jQ (cf:=Nd.cells) (sz:=9) (k:=i) (off:=8) (n:=1) f_ om (za rfl))) (jP (cf:=Nd.cells) (sz:=9) (k:=i) (off:=8) f_ om rfl (za rfl)) rfl (fun _ h=>(jM h (fun aV V=>?_)))
   have B:ga (fR A i (fun x=>{ x with total:=(IntKind.i64.wrap ((fM A i).total+(fM A ((fM y i).k0)).total)) })):=ga.iF ab om (fun x a b c d e=>⟨a,b,c,d,e⟩)
   obtain⟨f,s,aW,B,V⟩:=iG (m:=m) B V
   refine kF tt none V 2 ?_
   refine iR V (fun aX g=>?_) (hA:=by refine' gI 4 ?k0;case k0=>refine' gq (fun wq hM=>rv (gU rfl ye rfl (yz hM (i:=1) rfl f_ (o9 (hIy.k0 i om)) rfl))) ?k1;case k1=>refine' gI 4 ?k2;case k2=>refine' gq (fun wq hM=>rc (i6 rfl EC) (CR.mono (DD fb nb m ed f wq (hM.at (i:=0) rfl) (hM.at (i:=1) rfl) oa hb B ((fM f ((fM y i).k0)).first) ((fM f i).first) (o9 (B.first ((fM y i).k0) (o9 (hIy.k0 i om)))) (o9 (B.first i om))) fun _ _ h=>⟨h.1,hM.grow h.2⟩)) ?k3;case k3=>exact iA)
   refine kF tt none g 1 ?_
   cases t:(lI f ((fM f ((fM y i).k0)).first) ((fM f i).first):Bool)
   . skip
     refine jm g 8 ?_
     refine tN (?_)
     refine ir (gf g 13 ?_)
     refine nt (i:=1) rfl rfl rfl yt ye rfl gn d_ rfl (fQ g 7 ?_)
     by_cases aY:(((fM y i).k1:Int):Int)=(0:Int)
     . refine fW g 12 ?_
       refine tN (?_)
       refine ir (jm g 11 ?_)
       refine jA vz ?_
       have e9:iK xs i=f:=by rw[ue hy o_];first|(rw[sP (k:=(fM y i).k0) o_];rw[sV (k:=(fM y i).k1) o_ q s t])|(rw[sV (k:=(fM y i).k0) o_ q s t];rw[sP (k:=(fM y i).k1) o_])
       have hs9:=g
       rw[<-e9]at hs9
       exact⟨rfl,yq (yc [_,_] [] hs9)⟩
     . refine fQ g 13 ?_
       refine jE (o' := ((fM y i).k1)*9+0) (i:=((fM y i).k1:Int)) rfl rfl rfl yk iW (o9 (show ((fM y i).k1)<(f).length from(o9 (hIy.k1 i om)))) o_ (gL g 4 ?_)
       refine jN g 11 ?_ (hA:=by refine' gI 7 ?k0;case k0=>refine' gq (fun wq hM=>rv (gU rfl ye rfl (yz hM (i:=1) rfl f_ (o9 (hIy.k1 i om)) rfl))) ?k1;case k1=>refine' gq (fun wq hM=>rv (kV (e:=(IntKind.i64.wrap ((fM f i).size+(fM f ((fM y i).k1)).size))) rfl rfl rfl rfl)) ?k2;case k2=>exact iA)
       intro wq hM
       refine nu (L' := [blk fb 265 (Zm fb nb m ed),blk nb 269 ((fR f i (fun x=>{ x with size:=(IntKind.i64.wrap ((fM f i).size+(fM f ((fM y i).k1)).size)) })).flatMap Nd.cells)]) 1 rfl rfl rfl rfl gn rfl rfl hM rfl (oS (jQ (cf:=Nd.cells) (sz:=9) (k:=i) (off:=5) (n:=1) f_ om (za rfl))) (jP (cf:=Nd.cells) (sz:=9) (k:=i) (off:=5) f_ om rfl (za rfl)) rfl (fun _ h=>(jM h (fun aZ W=>?_)))
       have ac:ga (fR f i (fun x=>{ x with size:=(IntKind.i64.wrap ((fM f i).size+(fM f ((fM y i).k1)).size)) })):=ga.iF B om (fun x a b c d e=>⟨a,b,c,d,e⟩)
       obtain⟨C,ad,a0,ac,W⟩:=iG (m:=m) ac W
       refine kF tt none W 2 ?_
       refine jN W 11 ?_ (hA:=by refine' gI 7 ?k0;case k0=>refine' gq (fun wq hM=>rv (gU rfl ye rfl (yz hM (i:=1) rfl f_ (o9 (hIy.k1 i om)) rfl))) ?k1;case k1=>refine' gq (fun wq hM=>rv (kV (e:=(IntKind.i64.wrap ((fM C i).total+(fM C ((fM y i).k1)).total))) rfl rfl rfl rfl)) ?k2;case k2=>exact iA)
       intro wq hM
       refine nu (L' := [blk fb 265 (Zm fb nb m ed),blk nb 269 ((fR C i (fun x=>{ x with total:=(IntKind.i64.wrap ((fM C i).total+(fM C ((fM y i).k1)).total)) })).flatMap Nd.cells)]) 1 rfl rfl rfl rfl gn rfl rfl hM rfl (oS (jQ (cf:=Nd.cells) (sz:=9) (k:=i) (off:=8) (n:=1) f_ om (za rfl))) (jP (cf:=Nd.cells) (sz:=9) (k:=i) (off:=8) f_ om rfl (za rfl)) rfl (fun _ h=>(jM h (fun a1 X=>?_)))
       have I:ga (fR C i (fun x=>{ x with total:=(IntKind.i64.wrap ((fM C i).total+(fM C ((fM y i).k1)).total)) })):=ga.iF ac om (fun x a b c d e=>⟨a,b,c,d,e⟩)
       obtain⟨l,ae,a2,I,X⟩:=iG (m:=m) I X
       refine kF tt none X 2 ?_
       refine iR X (fun a3 D=>?_) (hA:=by refine' gI 4 ?k0;case k0=>refine' gq (fun wq hM=>rv (gU rfl ye rfl (yz hM (i:=1) rfl f_ (o9 (hIy.k1 i om)) rfl))) ?k1;case k1=>refine' gI 4 ?k2;case k2=>refine' gq (fun wq hM=>rc (i6 rfl EC) (CR.mono (DD fb nb m ed l wq (hM.at (i:=0) rfl) (hM.at (i:=1) rfl) oa hb I ((fM l ((fM y i).k1)).first) ((fM l i).first) (o9 (I.first ((fM y i).k1) (o9 (hIy.k1 i om)))) (o9 (I.first i om))) fun _ _ h=>⟨h.1,hM.grow h.2⟩)) ?k3;case k3=>exact iA)
       refine kF tt none D 1 ?_
       cases af:(lI l ((fM l ((fM y i).k1)).first) ((fM l i).first):Bool)
       . skip
         refine jm D 8 ?_
         refine tN (?_)
         refine ir (jm D 11 ?_)
         refine jA vz ?_
         have e9:iK xs i=l:=by rw[ue hy o_];first|(rw[sV (k:=(fM y i).k0) o_ q s t];rw[sV (k:=(fM y i).k1) o_ ad ae af])
         have hs9:=D
         rw[<-e9]at hs9
         exact⟨rfl,yq (yc [_,_] [] hs9)⟩
       . skip
         refine gf D 5 ?_
         refine fa (o' := ((fM y i).k1)*9+6) rfl rfl yj rfl gn rfl (ld rfl rfl ye rfl (yz D (i:=1) rfl f_ (o9 (hIy.k1 i om)) rfl) (fQ D 1 ?_))
         refine fa (o' := i*9+6) rfl rfl yj rfl gn rfl (me (L' := [blk fb 265 (Zm fb nb m ed),blk nb 269 ((fR l i (fun x=>{ x with first:=((fM l ((fM y i).k1)).first) })).flatMap Nd.cells)]) 1 rfl rfl rfl rfl gn rfl rfl D rfl (jQ (cf:=Nd.cells) (sz:=9) (k:=i) (off:=6) (n:=1) f_ om (za rfl)) (jP (cf:=Nd.cells) (sz:=9) (k:=i) (off:=6) f_ om rfl (za rfl)) rfl ?_)
         intro a4 L a5
         have aq:ga (fR l i (fun x=>{ x with first:=((fM l ((fM y i).k1)).first) })):=ga.iF I om (fun x a b c d e=>⟨a,b,c,(o9 (I.first ((fM y i).k1) (o9 (hIy.k1 i om)))),e⟩)
         obtain⟨aA,au,a6,aq,L⟩:=iG (m:=m) aq L
         refine fW L 7 ?_
         refine tN (?_)
         refine ir (jm L 11 ?_)
         refine jA vz ?_
         have e9:iK xs i=aA:=by rw[ue hy o_];first|(rw[sV (k:=(fM y i).k0) o_ q s t];rw[sU (k:=(fM y i).k1) o_ ad ae af au])|(rw[sU (k:=(fM y i).k0) o_ q s t ad];rw[sV (k:=(fM y i).k1) o_ ae au af])
         have hs9:=L
         rw[<-e9]at hs9
         exact⟨rfl,yq (yc [_,_] [] hs9)⟩
   . skip
     refine gf g 5 ?_
     refine fa (o' := ((fM y i).k0)*9+6) rfl rfl yj rfl gn rfl (ld rfl rfl ye rfl (yz g (i:=1) rfl f_ (o9 (hIy.k0 i om)) rfl) (fQ g 1 ?_))
     refine fa (o' := i*9+6) rfl rfl yj rfl gn rfl (me (L' := [blk fb 265 (Zm fb nb m ed),blk nb 269 ((fR f i (fun x=>{ x with first:=((fM f ((fM y i).k0)).first) })).flatMap Nd.cells)]) 1 rfl rfl rfl rfl gn rfl rfl g rfl (jQ (cf:=Nd.cells) (sz:=9) (k:=i) (off:=6) (n:=1) f_ om (za rfl)) (jP (cf:=Nd.cells) (sz:=9) (k:=i) (off:=6) f_ om rfl (za rfl)) rfl ?_)
     intro a7 o a8
     have ag:ga (fR f i (fun x=>{ x with first:=((fM f ((fM y i).k0)).first) })):=ga.iF B om (fun x a b c d e=>⟨a,b,c,(o9 (B.first ((fM y i).k0) (o9 (hIy.k0 i om)))),e⟩)
     obtain⟨u,M,a9,ag,o⟩:=iG (m:=m) ag o
     refine fW o 7 ?_
     refine tN (?_)
     refine ir (gf o 13 ?_)
     refine nt (i:=1) rfl rfl rfl yt ye rfl gn d_ rfl (fQ o 7 ?_)
     by_cases ba:(((fM y i).k1:Int):Int)=(0:Int)
     . refine fW o 12 ?_
       refine tN (?_)
       refine ir (jm o 11 ?_)
       refine jA vz ?_
       have e9:iK xs i=u:=by rw[ue hy o_];first|(rw[sP (k:=(fM y i).k0) o_];rw[sU (k:=(fM y i).k1) o_ q s t M])|(rw[sU (k:=(fM y i).k0) o_ q s t M];rw[sP (k:=(fM y i).k1) o_])
       have hs9:=o
       rw[<-e9]at hs9
       exact⟨rfl,yq (yc [_,_] [] hs9)⟩
     . refine fQ o 13 ?_
       refine jE (o' := ((fM y i).k1)*9+0) (i:=((fM y i).k1:Int)) rfl rfl rfl yk iW (o9 (show ((fM y i).k1)<(u).length from(o9 (hIy.k1 i om)))) o_ (gL o 4 ?_)
       refine jN o 11 ?_ (hA:=by refine' gI 7 ?k0;case k0=>refine' gq (fun wq hM=>rv (gU rfl ye rfl (yz hM (i:=1) rfl f_ (o9 (hIy.k1 i om)) rfl))) ?k1;case k1=>refine' gq (fun wq hM=>rv (kV (e:=(IntKind.i64.wrap ((fM u i).size+(fM u ((fM y i).k1)).size))) rfl rfl rfl rfl)) ?k2;case k2=>exact iA)
       intro wq hM
       refine nu (L' := [blk fb 265 (Zm fb nb m ed),blk nb 269 ((fR u i (fun x=>{ x with size:=(IntKind.i64.wrap ((fM u i).size+(fM u ((fM y i).k1)).size)) })).flatMap Nd.cells)]) 1 rfl rfl rfl rfl gn rfl rfl hM rfl (oS (jQ (cf:=Nd.cells) (sz:=9) (k:=i) (off:=5) (n:=1) f_ om (za rfl))) (jP (cf:=Nd.cells) (sz:=9) (k:=i) (off:=5) f_ om rfl (za rfl)) rfl (fun _ h=>(jM h (fun bb Y=>?_)))
       have ah:ga (fR u i (fun x=>{ x with size:=(IntKind.i64.wrap ((fM u i).size+(fM u ((fM y i).k1)).size)) })):=ga.iF ag om (fun x a b c d e=>⟨a,b,c,d,e⟩)
       obtain⟨E,ai,bc,ah,Y⟩:=iG (m:=m) ah Y
       refine kF tt none Y 2 ?_
       refine jN Y 11 ?_ (hA:=by refine' gI 7 ?k0;case k0=>refine' gq (fun wq hM=>rv (gU rfl ye rfl (yz hM (i:=1) rfl f_ (o9 (hIy.k1 i om)) rfl))) ?k1;case k1=>refine' gq (fun wq hM=>rv (kV (e:=(IntKind.i64.wrap ((fM E i).total+(fM E ((fM y i).k1)).total))) rfl rfl rfl rfl)) ?k2;case k2=>exact iA)
       intro wq hM
       refine nu (L' := [blk fb 265 (Zm fb nb m ed),blk nb 269 ((fR E i (fun x=>{ x with total:=(IntKind.i64.wrap ((fM E i).total+(fM E ((fM y i).k1)).total)) })).flatMap Nd.cells)]) 1 rfl rfl rfl rfl gn rfl rfl hM rfl (oS (jQ (cf:=Nd.cells) (sz:=9) (k:=i) (off:=8) (n:=1) f_ om (za rfl))) (jP (cf:=Nd.cells) (sz:=9) (k:=i) (off:=8) f_ om rfl (za rfl)) rfl (fun _ h=>(jM h (fun bd Z=>?_)))
       have J:ga (fR E i (fun x=>{ x with total:=(IntKind.i64.wrap ((fM E i).total+(fM E ((fM y i).k1)).total)) })):=ga.iF ah om (fun x a b c d e=>⟨a,b,c,d,e⟩)
       obtain⟨p,aj,be,J,Z⟩:=iG (m:=m) J Z
       refine kF tt none Z 2 ?_
       refine iR Z (fun bf G=>?_) (hA:=by refine' gI 4 ?k0;case k0=>refine' gq (fun wq hM=>rv (gU rfl ye rfl (yz hM (i:=1) rfl f_ (o9 (hIy.k1 i om)) rfl))) ?k1;case k1=>refine' gI 4 ?k2;case k2=>refine' gq (fun wq hM=>rc (i6 rfl EC) (CR.mono (DD fb nb m ed p wq (hM.at (i:=0) rfl) (hM.at (i:=1) rfl) oa hb J ((fM p ((fM y i).k1)).first) ((fM p i).first) (o9 (J.first ((fM y i).k1) (o9 (hIy.k1 i om)))) (o9 (J.first i om))) fun _ _ h=>⟨h.1,hM.grow h.2⟩)) ?k3;case k3=>exact iA)
       refine kF tt none G 1 ?_
       cases ak:(lI p ((fM p ((fM y i).k1)).first) ((fM p i).first):Bool)
       . skip
         refine jm G 8 ?_
         refine tN (?_)
         refine ir (jm G 11 ?_)
         refine jA vz ?_
         have e9:iK xs i=p:=by rw[ue hy o_];first|(rw[sV (k:=(fM y i).k0) o_ q s t];rw[sU (k:=(fM y i).k1) o_ M ai ak aj])|(rw[sU (k:=(fM y i).k0) o_ q s t M];rw[sV (k:=(fM y i).k1) o_ ai aj ak])
         have hs9:=G
         rw[<-e9]at hs9
         exact⟨rfl,yq (yc [_,_] [] hs9)⟩
       . skip
         refine gf G 5 ?_
         refine fa (o' := ((fM y i).k1)*9+6) rfl rfl yj rfl gn rfl (ld rfl rfl ye rfl (yz G (i:=1) rfl f_ (o9 (hIy.k1 i om)) rfl) (fQ G 1 ?_))
         refine fa (o' := i*9+6) rfl rfl yj rfl gn rfl (me (L' := [blk fb 265 (Zm fb nb m ed),blk nb 269 ((fR p i (fun x=>{ x with first:=((fM p ((fM y i).k1)).first) })).flatMap Nd.cells)]) 1 rfl rfl rfl rfl gn rfl rfl G rfl (jQ (cf:=Nd.cells) (sz:=9) (k:=i) (off:=6) (n:=1) f_ om (za rfl)) (jP (cf:=Nd.cells) (sz:=9) (k:=i) (off:=6) f_ om rfl (za rfl)) rfl ?_)
         intro bg N bh
         have av:ga (fR p i (fun x=>{ x with first:=((fM p ((fM y i).k1)).first) })):=ga.iF J om (fun x a b c d e=>⟨a,b,c,(o9 (J.first ((fM y i).k1) (o9 (hIy.k1 i om)))),e⟩)
         obtain⟨aB,aC,bi,av,N⟩:=iG (m:=m) av N
         refine fW N 7 ?_
         refine tN (?_)
         refine ir (jm N 11 ?_)
         refine jA vz ?_
         have e9:iK xs i=aB:=by rw[ue hy o_];first|(rw[sU (k:=(fM y i).k0) o_ q s t M];rw[sU (k:=(fM y i).k1) o_ ai aj ak aC])
         have hs9:=N
         rw[<-e9]at hs9
         exact⟨rfl,yq (yc [_,_] [] hs9)⟩
end
section
open Go Go.Sx
theorem mW(fb nb m:Nat)(ed:Int)(xs:List Nd)(w:World)(hf:(Ba fb nb m ed).holds w)(hN:(blk nb 269 (xs.flatMap Nd.cells)).holds w)(hm:xs.length=m)(hb:m<=1000001)(hI:ga xs)(i:Nat)(hi:i<m){s:Nat}{o:Bool}(hq:jw xs i=(s,o)):CR ya 230 (Zn fb i) w (fun r w' => r = .tuple (ve s o)/\gB [] w w'):=by
 have h:=WQ fb nb m ed xs w hf hN hm hb hI i hi
 rw[hq]at h
 exact h
theorem w6(fb nb m:Nat)(ed:Int)(xs:List Nd)(w:World)(hO:Own (Zh fb nb m ed xs) w)(hm:xs.length=m)(hb:m<=1000001)(hI:ga xs)(i:Nat)(hi:i<m) :
 CR ya 233 (Zn fb i) w (fun r w' => r = .tuple #[]/\gm (Zh fb nb m ed xs) w w' (Zh fb nb m ed (iH xs i))):=by
 have hup:=hI.up i o_
 have hup2:=hI.up _ hup
 refine en Tryz.func233 Tryz.ntmps233 ?_
 have hst0:=(y8 hO).unpack
 refine gf hst0 7 ?_
 refine jE (o' := i*9+0) (i:=(i:Int)) rfl rfl rfl yk iW om o_ (fa (o' := i*9+2) rfl rfl yj rfl gn rfl (ld rfl rfl ye rfl (yz hst0 (i:=1) rfl f_ om rfl) (fQ hst0 10 ?_)))
 refine jE (o' := ((fM xs i).up)*9+0) (i:=((fM xs i).up:Int)) rfl rfl rfl yk iW (o9 (show ((fM xs i).up)<(xs).length from(o9 (hI.up i om)))) o_ (fa (o' := ((fM xs i).up)*9+2) rfl rfl yj rfl gn rfl (ld rfl rfl ye rfl (yz hst0 (i:=1) rfl f_ (o9 (hI.up i om)) rfl) ?_))
 obtain⟨cP,eG⟩:∃ q,Bz xs i=q:=⟨_,rfl⟩
 refine fQ hst0 7 ?_
 rcases cP with K|L|M
 . skip
   refine cl mX (mW fb nb m ed xs w (hst0.at (i:=0) rfl) (hst0.at (i:=1) rfl) oa hb hI i o_ K) ?_
   rintro _ ba ⟨rfl,cQ⟩
   have f:=jf hst0 cQ
   obtain⟨cR,eH⟩:∃ q,Bz xs ((fM xs i).up)=q:=⟨_,rfl⟩
   refine fQ f 12 ?_
   rcases cR with bd|be|bf
   . skip
     refine cl mX (mW fb nb m ed xs ba (f.at (i:=0) rfl) (f.at (i:=1) rfl) oa hb hI ((fM xs i).up) (o9 (hI.up i om)) bd) ?_
     rintro _ eI ⟨rfl,cS⟩
     have bg:=jf f cS
     refine fQ bg 20 ?_
     refine jE (o' := i*9+0) (i:=(i:Int)) rfl rfl rfl yk iW om o_ (fa (o' := i*9+2) rfl rfl yj rfl gn rfl (me (L' := [blk fb 265 (Zm fb nb m ed),blk nb 269 ((fR xs i (fun x=>{ x with up:=((fM xs ((fM xs i).up)).up) })).flatMap Nd.cells)]) 1 rfl rfl rfl rfl gn rfl rfl bg rfl (jQ (cf:=Nd.cells) (sz:=9) (k:=i) (off:=2) (n:=1) f_ om (za rfl)) (jP (cf:=Nd.cells) (sz:=9) (k:=i) (off:=2) f_ om rfl (za rfl)) rfl ?_))
     intro cT A eJ
     have j:ga (fR xs i (fun x=>{ x with up:=((fM xs ((fM xs i).up)).up) })):=ga.iF hI om (fun x a b c d e=>⟨a,b,(o9 (hI.up ((fM xs i).up) (o9 (hI.up i om)))),d,e⟩)
     obtain⟨N,cU,eK,j,A⟩:=iG (m:=m) j A
     refine fQ A 14 ?_
     refine jE (o' := i*9+0) (i:=(i:Int)) rfl rfl rfl yk iW om o_ (fa (o' := i*9+0) rfl rfl yj rfl lU rfl (mA (o:=i*9+0) (o' := i*9+1) (i:=1) rfl rfl rfl yt gn d_ rfl (ld rfl rfl ye rfl (yz A (i:=1) rfl f_ om rfl) ?_)))
     have bh:=yc [_,_] _ A
     refine cl lT (qX fb nb m ed N cT (yd bh (i:=0) rfl) oa hb j ((fM xs i).up) ((fM N i).k1) (o9 (hI.up i om)) (o9 (j.k1 i om))) ?_
     rintro _ cV ⟨rfl,ht⟩
     have O:=(yp bh ht)
     have P:ga (iS N ((fM xs i).up) 0 ((fM N i).k1)):=ga.kS j (o9 (hI.up i om)) (o9 (j.k1 i om))
     obtain⟨bi,cW,eL,P,O⟩:=iG (m:=m) P O
     have bj:=yc [_,_] _ O
     refine fQ O 9 ?_
     refine cl lT (qW fb nb m ed bi cV (yd bj (i:=0) rfl) oa hb P i ((fM xs i).up) o_ (o9 (hI.up i om))) ?_
     rintro _ cX ⟨rfl,ht⟩
     have Q:=(yp bj ht)
     have R:ga (iS bi i 1 ((fM xs i).up)):=ga.kS P o_ (o9 (hI.up i om))
     obtain⟨bl,cY,eM,R,Q⟩:=iG (m:=m) R Q
     have bm:=yc [_,_] _ Q
     refine fQ Q 6 ?_
     refine cl l8 (l7 fb nb m ed bl cX (yd bm (i:=0) rfl) oa hb R ((fM xs i).up) (o9 (hI.up i om))) ?_
     rintro _ cZ ⟨rfl,ht⟩
     have S:=(yp bm ht)
     have U:ga (iK bl ((fM xs i).up)):=ga.lS R (o9 (hI.up i om))
     obtain⟨bn,c0,eN,U,S⟩:=iG (m:=m) U S
     have bo:=yc [_,_] _ S
     refine fQ S 5 ?_
     refine cl l8 (l7 fb nb m ed bn cZ (yd bo (i:=0) rfl) oa hb U i o_) ?_
     rintro _ eO ⟨rfl,ht⟩
     have V:=(yp bo ht)
     have bp:ga (iK bn i):=ga.lS U o_
     obtain⟨c1,c2,eP,bp,V⟩:=iG (m:=m) bp V
     refine fW V 1 ?_
     refine jA uQ ?_
     have e9:iH xs i=c1:=by subst c2;subst c0;subst cY;subst cW;subst cU;simp only[iH,K,bd];rfl
     have hs9:=V
     rw[<-e9]at hs9
     exact⟨rfl,yq (yc [_,_] [] hs9)⟩
   . skip
     refine cl mX (mW fb nb m ed xs ba (f.at (i:=0) rfl) (f.at (i:=1) rfl) oa hb hI ((fM xs i).up) (o9 (hI.up i om)) be) ?_
     rintro _ c3 ⟨rfl,c4⟩
     have bq:=jf f c4
     have br:=yc [_,_] _ bq
     refine fQ bq 18 ?_
     refine cl lT (qX fb nb m ed xs c3 (yd br (i:=0) rfl) oa hb hI ((fM xs ((fM xs i).up)).up) i (o9 (hI.up ((fM xs i).up) (o9 (hI.up i om)))) o_) ?_
     rintro _ c5 ⟨rfl,ht⟩
     have B:=(yp br ht)
     have l:ga (iS xs ((fM xs ((fM xs i).up)).up) 0 i):=ga.kS hI (o9 (hI.up ((fM xs i).up) (o9 (hI.up i om)))) o_
     obtain⟨W,c6,eQ,l,B⟩:=iG (m:=m) l B
     refine fQ B 14 ?_
     refine jE (o' := i*9+0) (i:=(i:Int)) rfl rfl rfl yk iW om o_ (fa (o' := i*9+0) rfl rfl yj rfl lU rfl (mA (o:=i*9+0) (o' := i*9+1) (i:=1) rfl rfl rfl yt gn d_ rfl (ld rfl rfl ye rfl (yz B (i:=1) rfl f_ om rfl) ?_)))
     have bs:=yc [_,_] _ B
     refine cl lT (qX fb nb m ed W c5 (yd bs (i:=0) rfl) oa hb l ((fM xs i).up) ((fM W i).k1) (o9 (hI.up i om)) (o9 (l.k1 i om))) ?_
     rintro _ c7 ⟨rfl,ht⟩
     have X:=(yp bs ht)
     have Y:ga (iS W ((fM xs i).up) 0 ((fM W i).k1)):=ga.kS l (o9 (hI.up i om)) (o9 (l.k1 i om))
     obtain⟨bt,c8,eR,Y,X⟩:=iG (m:=m) Y X
     have bu:=yc [_,_] _ X
     refine fQ X 9 ?_
     refine cl lT (qW fb nb m ed bt c7 (yd bu (i:=0) rfl) oa hb Y i ((fM xs i).up) o_ (o9 (hI.up i om))) ?_
     rintro _ c9 ⟨rfl,ht⟩
     have Z:=(yp bu ht)
     have aa:ga (iS bt i 1 ((fM xs i).up)):=ga.kS Y o_ (o9 (hI.up i om))
     obtain⟨bv,da,eS,aa,Z⟩:=iG (m:=m) aa Z
     have bw:=yc [_,_] _ Z
     refine fQ Z 6 ?_
     refine cl l8 (l7 fb nb m ed bv c9 (yd bw (i:=0) rfl) oa hb aa ((fM xs i).up) (o9 (hI.up i om))) ?_
     rintro _ db ⟨rfl,ht⟩
     have ab:=(yp bw ht)
     have ac:ga (iK bv ((fM xs i).up)):=ga.lS aa (o9 (hI.up i om))
     obtain⟨bx,dc,eU,ac,ab⟩:=iG (m:=m) ac ab
     have bz:=yc [_,_] _ ab
     refine fQ ab 5 ?_
     refine cl l8 (l7 fb nb m ed bx db (yd bz (i:=0) rfl) oa hb ac i o_) ?_
     rintro _ eV ⟨rfl,ht⟩
     have ad:=(yp bz ht)
     have bA:ga (iK bx i):=ga.lS ac o_
     obtain⟨dd,de,eW,bA,ad⟩:=iG (m:=m) bA ad
     refine fW ad 1 ?_
     refine jA uQ ?_
     have e9:iH xs i=dd:=by subst de;subst dc;subst da;subst c8;subst c6;simp only[iH,K,be];rfl
     have hs9:=ad
     rw[<-e9]at hs9
     exact⟨rfl,yq (yc [_,_] [] hs9)⟩
   . skip
     refine cl mX (mW fb nb m ed xs ba (f.at (i:=0) rfl) (f.at (i:=1) rfl) oa hb hI ((fM xs i).up) (o9 (hI.up i om)) bf) ?_
     rintro _ df ⟨rfl,dg⟩
     have bB:=jf f dg
     have bC:=yc [_,_] _ bB
     refine fQ bB 18 ?_
     refine cl lT (qW fb nb m ed xs df (yd bC (i:=0) rfl) oa hb hI ((fM xs ((fM xs i).up)).up) i (o9 (hI.up ((fM xs i).up) (o9 (hI.up i om)))) o_) ?_
     rintro _ dh ⟨rfl,ht⟩
     have C:=(yp bC ht)
     have p:ga (iS xs ((fM xs ((fM xs i).up)).up) 1 i):=ga.kS hI (o9 (hI.up ((fM xs i).up) (o9 (hI.up i om)))) o_
     obtain⟨ae,di,eX,p,C⟩:=iG (m:=m) p C
     refine fQ C 14 ?_
     refine jE (o' := i*9+0) (i:=(i:Int)) rfl rfl rfl yk iW om o_ (fa (o' := i*9+0) rfl rfl yj rfl lU rfl (mA (o:=i*9+0) (o' := i*9+1) (i:=1) rfl rfl rfl yt gn d_ rfl (ld rfl rfl ye rfl (yz C (i:=1) rfl f_ om rfl) ?_)))
     have bD:=yc [_,_] _ C
     refine cl lT (qX fb nb m ed ae dh (yd bD (i:=0) rfl) oa hb p ((fM xs i).up) ((fM ae i).k1) (o9 (hI.up i om)) (o9 (p.k1 i om))) ?_
     rintro _ dj ⟨rfl,ht⟩
     have af:=(yp bD ht)
     have ag:ga (iS ae ((fM xs i).up) 0 ((fM ae i).k1)):=ga.kS p (o9 (hI.up i om)) (o9 (p.k1 i om))
     obtain⟨bE,dk,eY,ag,af⟩:=iG (m:=m) ag af
     have bF:=yc [_,_] _ af
     refine fQ af 9 ?_
     refine cl lT (qW fb nb m ed bE dj (yd bF (i:=0) rfl) oa hb ag i ((fM xs i).up) o_ (o9 (hI.up i om))) ?_
     rintro _ dl ⟨rfl,ht⟩
     have ah:=(yp bF ht)
     have ai:ga (iS bE i 1 ((fM xs i).up)):=ga.kS ag o_ (o9 (hI.up i om))
     obtain⟨bG,dm,eZ,ai,ah⟩:=iG (m:=m) ai ah
     have bH:=yc [_,_] _ ah
     refine fQ ah 6 ?_
     refine cl l8 (l7 fb nb m ed bG dl (yd bH (i:=0) rfl) oa hb ai ((fM xs i).up) (o9 (hI.up i om))) ?_
     rintro _ dn ⟨rfl,ht⟩
     have aj:=(yp bH ht)
     have ak:ga (iK bG ((fM xs i).up)):=ga.lS ai (o9 (hI.up i om))
     obtain⟨bI,dp,e0,ak,aj⟩:=iG (m:=m) ak aj
     have bJ:=yc [_,_] _ aj
     refine fQ aj 5 ?_
     refine cl l8 (l7 fb nb m ed bI dn (yd bJ (i:=0) rfl) oa hb ak i o_) ?_
     rintro _ e1 ⟨rfl,ht⟩
     have al:=(yp bJ ht)
     have bK:ga (iK bI i):=ga.lS ak o_
     obtain⟨dq,dr,e2,bK,al⟩:=iG (m:=m) bK al
     refine fW al 1 ?_
     refine jA uQ ?_
     have e9:iH xs i=dq:=by subst dr;subst dp;subst dm;subst dk;subst di;simp only[iH,K,bf];rfl
     have hs9:=al
     rw[<-e9]at hs9
     exact⟨rfl,yq (yc [_,_] [] hs9)⟩
 . skip
   refine cl mX (mW fb nb m ed xs w (hst0.at (i:=0) rfl) (hst0.at (i:=1) rfl) oa hb hI i o_ L) ?_
   rintro _ bb ⟨rfl,ds⟩
   have g:=jf hst0 ds
   obtain⟨dt,e3⟩:∃ q,Bz xs ((fM xs i).up)=q:=⟨_,rfl⟩
   refine fQ g 12 ?_
   rcases dt with bL|bM|bN
   . skip
     refine cl mX (mW fb nb m ed xs bb (g.at (i:=0) rfl) (g.at (i:=1) rfl) oa hb hI ((fM xs i).up) (o9 (hI.up i om)) bL) ?_
     rintro _ e4 ⟨rfl,du⟩
     have bO:=jf g du
     refine fQ bO 20 ?_
     refine jE (o' := i*9+0) (i:=(i:Int)) rfl rfl rfl yk iW om o_ (fa (o' := i*9+2) rfl rfl yj rfl gn rfl (me (L' := [blk fb 265 (Zm fb nb m ed),blk nb 269 ((fR xs i (fun x=>{ x with up:=((fM xs ((fM xs i).up)).up) })).flatMap Nd.cells)]) 1 rfl rfl rfl rfl gn rfl rfl bO rfl (jQ (cf:=Nd.cells) (sz:=9) (k:=i) (off:=2) (n:=1) f_ om (za rfl)) (jP (cf:=Nd.cells) (sz:=9) (k:=i) (off:=2) f_ om rfl (za rfl)) rfl ?_))
     intro dv D e5
     have s:ga (fR xs i (fun x=>{ x with up:=((fM xs ((fM xs i).up)).up) })):=ga.iF hI om (fun x a b c d e=>⟨a,b,(o9 (hI.up ((fM xs i).up) (o9 (hI.up i om)))),d,e⟩)
     obtain⟨am,dw,e6,s,D⟩:=iG (m:=m) s D
     refine fQ D 14 ?_
     refine jE (o' := i*9+0) (i:=(i:Int)) rfl rfl rfl yk iW om o_ (fa (o' := i*9+0) rfl rfl yj rfl lU rfl (mA (o:=i*9+0) (o' := i*9+1) (i:=1) rfl rfl rfl yt gn d_ rfl (ld rfl rfl ye rfl (yz D (i:=1) rfl f_ om rfl) ?_)))
     have bP:=yc [_,_] _ D
     refine cl lT (qX fb nb m ed am dv (yd bP (i:=0) rfl) oa hb s ((fM xs i).up) ((fM am i).k1) (o9 (hI.up i om)) (o9 (s.k1 i om))) ?_
     rintro _ dx ⟨rfl,ht⟩
     have an:=(yp bP ht)
     have ao:ga (iS am ((fM xs i).up) 0 ((fM am i).k1)):=ga.kS s (o9 (hI.up i om)) (o9 (s.k1 i om))
     obtain⟨bQ,dy,e7,ao,an⟩:=iG (m:=m) ao an
     have bR:=yc [_,_] _ an
     refine fQ an 9 ?_
     refine cl lT (qW fb nb m ed bQ dx (yd bR (i:=0) rfl) oa hb ao i ((fM xs i).up) o_ (o9 (hI.up i om))) ?_
     rintro _ dz ⟨rfl,ht⟩
     have ap:=(yp bR ht)
     have aq:ga (iS bQ i 1 ((fM xs i).up)):=ga.kS ao o_ (o9 (hI.up i om))
     obtain⟨bS,dA,e8,aq,ap⟩:=iG (m:=m) aq ap
     have bT:=yc [_,_] _ ap
     refine fQ ap 6 ?_
     refine cl l8 (l7 fb nb m ed bS dz (yd bT (i:=0) rfl) oa hb aq ((fM xs i).up) (o9 (hI.up i om))) ?_
     rintro _ dB ⟨rfl,ht⟩
     have ar:=(yp bT ht)
     have au:ga (iK bS ((fM xs i).up)):=ga.lS aq (o9 (hI.up i om))
     obtain⟨bU,dC,fc,au,ar⟩:=iG (m:=m) au ar
     have bV:=yc [_,_] _ ar
     refine fQ ar 5 ?_
     refine cl l8 (l7 fb nb m ed bU dB (yd bV (i:=0) rfl) oa hb au i o_) ?_
     rintro _ fd ⟨rfl,ht⟩
     have av:=(yp bV ht)
     have bW:ga (iK bU i):=ga.lS au o_
     obtain⟨dD,dE,fe,bW,av⟩:=iG (m:=m) bW av
     refine fW av 1 ?_
     refine jA uQ ?_
     have e9:iH xs i=dD:=by subst dE;subst dC;subst dA;subst dy;subst dw;simp only[iH,L,bL];rfl
     have hs9:=av
     rw[<-e9]at hs9
     exact⟨rfl,yq (yc [_,_] [] hs9)⟩
   . skip
     refine cl mX (mW fb nb m ed xs bb (g.at (i:=0) rfl) (g.at (i:=1) rfl) oa hb hI ((fM xs i).up) (o9 (hI.up i om)) bM) ?_
     rintro _ dF ⟨rfl,dG⟩
     have bX:=jf g dG
     have bY:=yc [_,_] _ bX
     refine fQ bX 18 ?_
     refine cl lT (qX fb nb m ed xs dF (yd bY (i:=0) rfl) oa hb hI ((fM xs ((fM xs i).up)).up) i (o9 (hI.up ((fM xs i).up) (o9 (hI.up i om)))) o_) ?_
     rintro _ dH ⟨rfl,ht⟩
     have E:=(yp bY ht)
     have t:ga (iS xs ((fM xs ((fM xs i).up)).up) 0 i):=ga.kS hI (o9 (hI.up ((fM xs i).up) (o9 (hI.up i om)))) o_
     obtain⟨aw,dI,ff,t,E⟩:=iG (m:=m) t E
     refine fQ E 14 ?_
     refine jE (o' := i*9+0) (i:=(i:Int)) rfl rfl rfl yk iW om o_ (fa (o' := i*9+0) rfl rfl yj rfl lU rfl (mA (o:=i*9+0) (o' := i*9+1) (i:=1) rfl rfl rfl yt gn d_ rfl (ld rfl rfl ye rfl (yz E (i:=1) rfl f_ om rfl) ?_)))
     have bZ:=yc [_,_] _ E
     refine cl lT (qX fb nb m ed aw dH (yd bZ (i:=0) rfl) oa hb t ((fM xs i).up) ((fM aw i).k1) (o9 (hI.up i om)) (o9 (t.k1 i om))) ?_
     rintro _ dJ ⟨rfl,ht⟩
     have ax:=(yp bZ ht)
     have ay:ga (iS aw ((fM xs i).up) 0 ((fM aw i).k1)):=ga.kS t (o9 (hI.up i om)) (o9 (t.k1 i om))
     obtain⟨b0,dK,fg,ay,ax⟩:=iG (m:=m) ay ax
     have b1:=yc [_,_] _ ax
     refine fQ ax 9 ?_
     refine cl lT (qW fb nb m ed b0 dJ (yd b1 (i:=0) rfl) oa hb ay i ((fM xs i).up) o_ (o9 (hI.up i om))) ?_
     rintro _ dL ⟨rfl,ht⟩
     have az:=(yp b1 ht)
     have aA:ga (iS b0 i 1 ((fM xs i).up)):=ga.kS ay o_ (o9 (hI.up i om))
     obtain⟨b2,dM,fh,aA,az⟩:=iG (m:=m) aA az
     have b3:=yc [_,_] _ az
     refine fQ az 6 ?_
     refine cl l8 (l7 fb nb m ed b2 dL (yd b3 (i:=0) rfl) oa hb aA ((fM xs i).up) (o9 (hI.up i om))) ?_
     rintro _ dN ⟨rfl,ht⟩
     have aB:=(yp b3 ht)
     have aC:ga (iK b2 ((fM xs i).up)):=ga.lS aA (o9 (hI.up i om))
     obtain⟨b4,dO,fi,aC,aB⟩:=iG (m:=m) aC aB
     have b5:=yc [_,_] _ aB
     refine fQ aB 5 ?_
     refine cl l8 (l7 fb nb m ed b4 dN (yd b5 (i:=0) rfl) oa hb aC i o_) ?_
     rintro _ fj ⟨rfl,ht⟩
     have aD:=(yp b5 ht)
     have b6:ga (iK b4 i):=ga.lS aC o_
     obtain⟨dP,dQ,fk,b6,aD⟩:=iG (m:=m) b6 aD
     refine fW aD 1 ?_
     refine jA uQ ?_
     have e9:iH xs i=dP:=by subst dQ;subst dO;subst dM;subst dK;subst dI;simp only[iH,L,bM];rfl
     have hs9:=aD
     rw[<-e9]at hs9
     exact⟨rfl,yq (yc [_,_] [] hs9)⟩
   . skip
     refine cl mX (mW fb nb m ed xs bb (g.at (i:=0) rfl) (g.at (i:=1) rfl) oa hb hI ((fM xs i).up) (o9 (hI.up i om)) bN) ?_
     rintro _ dR ⟨rfl,dS⟩
     have b7:=jf g dS
     have b8:=yc [_,_] _ b7
     refine fQ b7 18 ?_
     refine cl lT (qW fb nb m ed xs dR (yd b8 (i:=0) rfl) oa hb hI ((fM xs ((fM xs i).up)).up) i (o9 (hI.up ((fM xs i).up) (o9 (hI.up i om)))) o_) ?_
     rintro _ dT ⟨rfl,ht⟩
     have G:=(yp b8 ht)
     have u:ga (iS xs ((fM xs ((fM xs i).up)).up) 1 i):=ga.kS hI (o9 (hI.up ((fM xs i).up) (o9 (hI.up i om)))) o_
     obtain⟨aE,dU,fl,u,G⟩:=iG (m:=m) u G
     refine fQ G 14 ?_
     refine jE (o' := i*9+0) (i:=(i:Int)) rfl rfl rfl yk iW om o_ (fa (o' := i*9+0) rfl rfl yj rfl lU rfl (mA (o:=i*9+0) (o' := i*9+1) (i:=1) rfl rfl rfl yt gn d_ rfl (ld rfl rfl ye rfl (yz G (i:=1) rfl f_ om rfl) ?_)))
     have b9:=yc [_,_] _ G
     refine cl lT (qX fb nb m ed aE dT (yd b9 (i:=0) rfl) oa hb u ((fM xs i).up) ((fM aE i).k1) (o9 (hI.up i om)) (o9 (u.k1 i om))) ?_
     rintro _ dV ⟨rfl,ht⟩
     have aF:=(yp b9 ht)
     have aG:ga (iS aE ((fM xs i).up) 0 ((fM aE i).k1)):=ga.kS u (o9 (hI.up i om)) (o9 (u.k1 i om))
     obtain⟨ca,dW,fm,aG,aF⟩:=iG (m:=m) aG aF
     have cb:=yc [_,_] _ aF
     refine fQ aF 9 ?_
     refine cl lT (qW fb nb m ed ca dV (yd cb (i:=0) rfl) oa hb aG i ((fM xs i).up) o_ (o9 (hI.up i om))) ?_
     rintro _ dX ⟨rfl,ht⟩
     have aH:=(yp cb ht)
     have aI:ga (iS ca i 1 ((fM xs i).up)):=ga.kS aG o_ (o9 (hI.up i om))
     obtain⟨cc,dY,fn,aI,aH⟩:=iG (m:=m) aI aH
     have cd:=yc [_,_] _ aH
     refine fQ aH 6 ?_
     refine cl l8 (l7 fb nb m ed cc dX (yd cd (i:=0) rfl) oa hb aI ((fM xs i).up) (o9 (hI.up i om))) ?_
     rintro _ dZ ⟨rfl,ht⟩
     have aJ:=(yp cd ht)
     have aK:ga (iK cc ((fM xs i).up)):=ga.lS aI (o9 (hI.up i om))
     obtain⟨ce,d0,fo,aK,aJ⟩:=iG (m:=m) aK aJ
     have cg:=yc [_,_] _ aJ
     refine fQ aJ 5 ?_
     refine cl l8 (l7 fb nb m ed ce dZ (yd cg (i:=0) rfl) oa hb aK i o_) ?_
     rintro _ fp ⟨rfl,ht⟩
     have aL:=(yp cg ht)
     have ch:ga (iK ce i):=ga.lS aK o_
     obtain⟨d1,d2,fq,ch,aL⟩:=iG (m:=m) ch aL
     refine fW aL 1 ?_
     refine jA uQ ?_
     have e9:iH xs i=d1:=by subst d2;subst d0;subst dY;subst dW;subst dU;simp only[iH,L,bN];rfl
     have hs9:=aL
     rw[<-e9]at hs9
     exact⟨rfl,yq (yc [_,_] [] hs9)⟩
 . skip
   refine cl mX (mW fb nb m ed xs w (hst0.at (i:=0) rfl) (hst0.at (i:=1) rfl) oa hb hI i o_ M) ?_
   rintro _ bc ⟨rfl,d3⟩
   have h:=jf hst0 d3
   obtain⟨d4,fr⟩:∃ q,Bz xs ((fM xs i).up)=q:=⟨_,rfl⟩
   refine fQ h 12 ?_
   rcases d4 with ci|cj|ck
   . skip
     refine cl mX (mW fb nb m ed xs bc (h.at (i:=0) rfl) (h.at (i:=1) rfl) oa hb hI ((fM xs i).up) (o9 (hI.up i om)) ci) ?_
     rintro _ fs ⟨rfl,d5⟩
     have cm:=jf h d5
     refine fQ cm 20 ?_
     refine jE (o' := i*9+0) (i:=(i:Int)) rfl rfl rfl yk iW om o_ (fa (o' := i*9+2) rfl rfl yj rfl gn rfl (me (L' := [blk fb 265 (Zm fb nb m ed),blk nb 269 ((fR xs i (fun x=>{ x with up:=((fM xs ((fM xs i).up)).up) })).flatMap Nd.cells)]) 1 rfl rfl rfl rfl gn rfl rfl cm rfl (jQ (cf:=Nd.cells) (sz:=9) (k:=i) (off:=2) (n:=1) f_ om (za rfl)) (jP (cf:=Nd.cells) (sz:=9) (k:=i) (off:=2) f_ om rfl (za rfl)) rfl ?_))
     intro d6 H ft
     have v:ga (fR xs i (fun x=>{ x with up:=((fM xs ((fM xs i).up)).up) })):=ga.iF hI om (fun x a b c d e=>⟨a,b,(o9 (hI.up ((fM xs i).up) (o9 (hI.up i om)))),d,e⟩)
     obtain⟨aM,d7,fu,v,H⟩:=iG (m:=m) v H
     refine fQ H 14 ?_
     refine jE (o' := i*9+0) (i:=(i:Int)) rfl rfl rfl yk iW om o_ (fa (o' := i*9+0) rfl rfl yj rfl lU rfl (mA (o:=i*9+0) (o' := i*9+0) (i:=0) rfl rfl rfl yt gn d_ rfl (ld rfl rfl ye rfl (yz H (i:=1) rfl f_ om rfl) ?_)))
     have cn:=yc [_,_] _ H
     refine cl lT (qW fb nb m ed aM d6 (yd cn (i:=0) rfl) oa hb v ((fM xs i).up) ((fM aM i).k0) (o9 (hI.up i om)) (o9 (v.k0 i om))) ?_
     rintro _ d8 ⟨rfl,ht⟩
     have aN:=(yp cn ht)
     have aO:ga (iS aM ((fM xs i).up) 1 ((fM aM i).k0)):=ga.kS v (o9 (hI.up i om)) (o9 (v.k0 i om))
     obtain⟨co,d9,fv,aO,aN⟩:=iG (m:=m) aO aN
     have cp:=yc [_,_] _ aN
     refine fQ aN 9 ?_
     refine cl lT (qX fb nb m ed co d8 (yd cp (i:=0) rfl) oa hb aO i ((fM xs i).up) o_ (o9 (hI.up i om))) ?_
     rintro _ ea ⟨rfl,ht⟩
     have aP:=(yp cp ht)
     have aQ:ga (iS co i 0 ((fM xs i).up)):=ga.kS aO o_ (o9 (hI.up i om))
     obtain⟨cq,eb,fw,aQ,aP⟩:=iG (m:=m) aQ aP
     have cr:=yc [_,_] _ aP
     refine fQ aP 6 ?_
     refine cl l8 (l7 fb nb m ed cq ea (yd cr (i:=0) rfl) oa hb aQ ((fM xs i).up) (o9 (hI.up i om))) ?_
     rintro _ ec ⟨rfl,ht⟩
     have aR:=(yp cr ht)
     have aS:ga (iK cq ((fM xs i).up)):=ga.lS aQ (o9 (hI.up i om))
     obtain⟨cs,ee,fx,aS,aR⟩:=iG (m:=m) aS aR
     have ct:=yc [_,_] _ aR
     refine fQ aR 5 ?_
     refine cl l8 (l7 fb nb m ed cs ec (yd ct (i:=0) rfl) oa hb aS i o_) ?_
     rintro _ fy ⟨rfl,ht⟩
     have aT:=(yp ct ht)
     have cu:ga (iK cs i):=ga.lS aS o_
     obtain⟨ef,eg,fz,cu,aT⟩:=iG (m:=m) cu aT
     refine fW aT 1 ?_
     refine jA uQ ?_
     have e9:iH xs i=ef:=by subst eg;subst ee;subst eb;subst d9;subst d7;simp only[iH,M,ci];rfl
     have hs9:=aT
     rw[<-e9]at hs9
     exact⟨rfl,yq (yc [_,_] [] hs9)⟩
   . skip
     refine cl mX (mW fb nb m ed xs bc (h.at (i:=0) rfl) (h.at (i:=1) rfl) oa hb hI ((fM xs i).up) (o9 (hI.up i om)) cj) ?_
     rintro _ eh ⟨rfl,ei⟩
     have cv:=jf h ei
     have cw:=yc [_,_] _ cv
     refine fQ cv 18 ?_
     refine cl lT (qX fb nb m ed xs eh (yd cw (i:=0) rfl) oa hb hI ((fM xs ((fM xs i).up)).up) i (o9 (hI.up ((fM xs i).up) (o9 (hI.up i om)))) o_) ?_
     rintro _ ej ⟨rfl,ht⟩
     have I:=(yp cw ht)
     have y:ga (iS xs ((fM xs ((fM xs i).up)).up) 0 i):=ga.kS hI (o9 (hI.up ((fM xs i).up) (o9 (hI.up i om)))) o_
     obtain⟨aU,ek,fA,y,I⟩:=iG (m:=m) y I
     refine fQ I 14 ?_
     refine jE (o' := i*9+0) (i:=(i:Int)) rfl rfl rfl yk iW om o_ (fa (o' := i*9+0) rfl rfl yj rfl lU rfl (mA (o:=i*9+0) (o' := i*9+0) (i:=0) rfl rfl rfl yt gn d_ rfl (ld rfl rfl ye rfl (yz I (i:=1) rfl f_ om rfl) ?_)))
     have cx:=yc [_,_] _ I
     refine cl lT (qW fb nb m ed aU ej (yd cx (i:=0) rfl) oa hb y ((fM xs i).up) ((fM aU i).k0) (o9 (hI.up i om)) (o9 (y.k0 i om))) ?_
     rintro _ el ⟨rfl,ht⟩
     have aV:=(yp cx ht)
     have aW:ga (iS aU ((fM xs i).up) 1 ((fM aU i).k0)):=ga.kS y (o9 (hI.up i om)) (o9 (y.k0 i om))
     obtain⟨cy,em,fB,aW,aV⟩:=iG (m:=m) aW aV
     have cz:=yc [_,_] _ aV
     refine fQ aV 9 ?_
     refine cl lT (qX fb nb m ed cy el (yd cz (i:=0) rfl) oa hb aW i ((fM xs i).up) o_ (o9 (hI.up i om))) ?_
     rintro _ eo ⟨rfl,ht⟩
     have aX:=(yp cz ht)
     have aY:ga (iS cy i 0 ((fM xs i).up)):=ga.kS aW o_ (o9 (hI.up i om))
     obtain⟨cA,ep,fC,aY,aX⟩:=iG (m:=m) aY aX
     have cB:=yc [_,_] _ aX
     refine fQ aX 6 ?_
     refine cl l8 (l7 fb nb m ed cA eo (yd cB (i:=0) rfl) oa hb aY ((fM xs i).up) (o9 (hI.up i om))) ?_
     rintro _ eq ⟨rfl,ht⟩
     have aZ:=(yp cB ht)
     have a0:ga (iK cA ((fM xs i).up)):=ga.lS aY (o9 (hI.up i om))
     obtain⟨cC,er,fD,a0,aZ⟩:=iG (m:=m) a0 aZ
     have cD:=yc [_,_] _ aZ
     refine fQ aZ 5 ?_
     refine cl l8 (l7 fb nb m ed cC eq (yd cD (i:=0) rfl) oa hb a0 i o_) ?_
     rintro _ fE ⟨rfl,ht⟩
     have a1:=(yp cD ht)
     have cE:ga (iK cC i):=ga.lS a0 o_
     obtain⟨es,et,fF,cE,a1⟩:=iG (m:=m) cE a1
     refine fW a1 1 ?_
     refine jA uQ ?_
     have e9:iH xs i=es:=by subst et;subst er;subst ep;subst em;subst ek;simp only[iH,M,cj];rfl
     have hs9:=a1
     rw[<-e9]at hs9
     exact⟨rfl,yq (yc [_,_] [] hs9)⟩
   . skip
     refine cl mX (mW fb nb m ed xs bc (h.at (i:=0) rfl) (h.at (i:=1) rfl) oa hb hI ((fM xs i).up) (o9 (hI.up i om)) ck) ?_
     rintro _ eu ⟨rfl,ev⟩
     have cF:=jf h ev
     have cG:=yc [_,_] _ cF
     refine fQ cF 18 ?_
     refine cl lT (qW fb nb m ed xs eu (yd cG (i:=0) rfl) oa hb hI ((fM xs ((fM xs i).up)).up) i (o9 (hI.up ((fM xs i).up) (o9 (hI.up i om)))) o_) ?_
     rintro _ ew ⟨rfl,ht⟩
     have J:=(yp cG ht)
     have z:ga (iS xs ((fM xs ((fM xs i).up)).up) 1 i):=ga.kS hI (o9 (hI.up ((fM xs i).up) (o9 (hI.up i om)))) o_
     obtain⟨a2,ex,fG,z,J⟩:=iG (m:=m) z J
     refine fQ J 14 ?_
     refine jE (o' := i*9+0) (i:=(i:Int)) rfl rfl rfl yk iW om o_ (fa (o' := i*9+0) rfl rfl yj rfl lU rfl (mA (o:=i*9+0) (o' := i*9+0) (i:=0) rfl rfl rfl yt gn d_ rfl (ld rfl rfl ye rfl (yz J (i:=1) rfl f_ om rfl) ?_)))
     have cH:=yc [_,_] _ J
     refine cl lT (qW fb nb m ed a2 ew (yd cH (i:=0) rfl) oa hb z ((fM xs i).up) ((fM a2 i).k0) (o9 (hI.up i om)) (o9 (z.k0 i om))) ?_
     rintro _ ey ⟨rfl,ht⟩
     have a3:=(yp cH ht)
     have a4:ga (iS a2 ((fM xs i).up) 1 ((fM a2 i).k0)):=ga.kS z (o9 (hI.up i om)) (o9 (z.k0 i om))
     obtain⟨cI,ez,fH,a4,a3⟩:=iG (m:=m) a4 a3
     have cJ:=yc [_,_] _ a3
     refine fQ a3 9 ?_
     refine cl lT (qX fb nb m ed cI ey (yd cJ (i:=0) rfl) oa hb a4 i ((fM xs i).up) o_ (o9 (hI.up i om))) ?_
     rintro _ eA ⟨rfl,ht⟩
     have a5:=(yp cJ ht)
     have a6:ga (iS cI i 0 ((fM xs i).up)):=ga.kS a4 o_ (o9 (hI.up i om))
     obtain⟨cK,eB,fI,a6,a5⟩:=iG (m:=m) a6 a5
     have cL:=yc [_,_] _ a5
     refine fQ a5 6 ?_
     refine cl l8 (l7 fb nb m ed cK eA (yd cL (i:=0) rfl) oa hb a6 ((fM xs i).up) (o9 (hI.up i om))) ?_
     rintro _ eC ⟨rfl,ht⟩
     have a7:=(yp cL ht)
     have a8:ga (iK cK ((fM xs i).up)):=ga.lS a6 (o9 (hI.up i om))
     obtain⟨cM,eD,fJ,a8,a7⟩:=iG (m:=m) a8 a7
     have cN:=yc [_,_] _ a7
     refine fQ a7 5 ?_
     refine cl l8 (l7 fb nb m ed cM eC (yd cN (i:=0) rfl) oa hb a8 i o_) ?_
     rintro _ fK ⟨rfl,ht⟩
     have a9:=(yp cN ht)
     have cO:ga (iK cM i):=ga.lS a8 o_
     obtain⟨eE,eF,fL,cO,a9⟩:=iG (m:=m) cO a9
     refine fW a9 1 ?_
     refine jA uQ ?_
     have e9:iH xs i=eE:=by subst eF;subst eD;subst eB;subst ez;subst ex;simp only[iH,M,ck];rfl
     have hs9:=a9
     rw[<-e9]at hs9
     exact⟨rfl,yq (yc [_,_] [] hs9)⟩
end
section
open Go Go.Sx
theorem Wq(v:Value)(w:World)(h1:v.oneCell' = true) :
 CR ya 231 #[v] w (fun r w' => ∃ kb,w.heap.size<=kb/\r = .func (.func 242) #[] (Zl kb)/\(blk kb 115 [v]).holds w' /\ gB [] w w'):=by
 refine en Tryz.func231 Tryz.ntmps231 ?_
 have hst0:=jO w
 refine gf hst0 2 ?_
 refine bx (v:=v) (cs:=[v]) rfl rfl (cells_one h1) hst0 (fun b d c e a=>fQ a 5 ?_)
 refine yY (vf:=[]) (vc:=(Zj b)) rfl rfl rfl (fW a 4 ?_)
 refine gw (v:=(.func (.func 242) #[] (Zl b))) Tryz.results231 rfl ?_
 exact⟨_,z1 (hst0.size zh) c,rfl,a.at (i:=0) rfl,a.gK s_⟩
theorem VM(Cl:Nat->gh)(l kb:Nat)(v:Value)(xs:List Int)(ok:Nat->Prop)(w:World)(hy:∀ (k:Nat) (x:Int) (bs:List (World×List Nat)) (L:List gh) (w:World),k<xs.length->xs[xs.length-1-k]? = some x->St bs (Cl k :: L) w->YR ya l (Zi ((xs.length:Int)-1-(k:Int)) x) w (fun v w' => v = .bool true/\St bs (Cl (k+1) :: L) w'))(hO:Own (Cl 0) w)(hkb:(blk kb 115 [v]).holds w)(hkc:kb∉(Cl 0).gT)(hv:Ints .i64 ok w v xs)(hok:∀ b,ok b->b∉(Cl 0).gT)(hl0:xs.length<=1000000000000) :
 CR ya 242 #[(.func (.yield l) #[] #[]),(Zb kb)] w (fun r w' => r = .tuple #[]/\gm (Cl 0) w w' (Cl xs.length)):=by
 have hv:=hv.old d_
 have hok:∀ b,(ok b/\b<w.heap.size)->b∉(Cl 0).gT:=fun b hb=>hok b hb.1
 refine en Tryz.func242 Tryz.ntmps242 ?_
 have hst0:=y8 hO
 refine gf hst0 2 ?_
 refine ld rfl rfl yh rfl (Ih hkb (o:=0) rfl) (tE (v:=v) rfl rfl yh hv (gL hst0 5 ?_))
 refine lp (α:=Nat) (fun k=>[(0,(.func (.yield l) #[] #[])),(1,(Zb kb)),(3,(Za ((xs.length:Int)-1-(k:Int))))]) (fun k w1=>St [(w,(Cl 0).gT)] [Cl k] w1/\k<=xs.length) (fun k=>xs.length-k) 0 ⟨rfl,rfl,gD (by first|rfl|omega),trivial⟩ (⟨hst0,o_⟩) ?_
 rintro k f g ⟨hst,hk1⟩
 refine gf hst 4 ?_
 by_cases h:((xs.length:Int)-1-(k:Int):Int)≥(0:Int)
 . obtain⟨x,hx⟩:=ov (show xs.length-1-k<xs.length by omega)
   refine fQ hst 12 ?_
   refine ld rfl rfl yh rfl (St.Pf hst (X:=(Cl 0).gT) s_ (Ih hkb (o:=0) rfl) hkc) (fQ hst 1 ?_)
   refine Gb (i:=(xs.length:Int)-1-(k:Int)) (el:=x) rfl rfl rfl yh gn (St.ints hst (X:=(Cl 0).gT) s_ hv hok) o_ (by rw[show ((xs.length:Int)-1-(k:Int)).toNat=xs.length-1-k by omega];exact hx) ?_
   intro j m c d n
   have p:=d.i64
   refine ld rfl rfl ye rfl c (yl (vl:=(Zi ((xs.length:Int)-1-(k:Int)) x)) rfl rfl rfl (hy k x _ _ _ o_ hx hst) ?_)
   rintro _ q ⟨rfl,a⟩
   refine fQ a 9 ?_
   refine ar (e:=(xs.length:Int)-1-((k+1:Nat):Int)) rfl rfl rfl rfl (by rw[iZ o_];omega) (fW a 2 ?_)
   refine tN (?_)
   exact again (k+1) ⟨rfl,rfl,gD (by first|rfl|omega),trivial⟩ (⟨a,o_⟩) (by show (xs.length-(k+1):Nat)<xs.length-k;omega)
 . refine fW hst 8 ?_
   refine jA Tryz.results242 ?_
   obtain rfl:k=xs.length:=by omega
   exact⟨rfl,yv (R:=Cl 0) hst s_⟩
end
section
open Go Go.Sx
theorem MU(fb nb m:Nat)(ed:Int)(xs:List Nd)(w:World)(hO:Own (Zh fb nb m ed xs) w)(hm:xs.length=m)(hb:m<=1000001)(hI:ga xs)(i q:Nat)(T:Tr)(hR:gO xs T q)(hT:i∈T.mem)(hn:T.mem.Nodup)(hcnt:T.mem.length<=1000000)(hq:Out xs q T.mem) :
 CR ya 201 (Zn fb i) w (fun r w' => r = .tuple #[]/\∃ ys a' b', jB xs ys T [] (.nd a' i b') q/\(fM ys i).flip=false/\ga ys/\gm (Zh fb nb m ed xs) w w' (Zh fb nb m ed ys)):=by
 have him:i<m:=by have h7:=hR.pR i hT;omega
 obtain⟨c,a,b,rfl⟩:=D7 hT
 have hat:=At.start hR hn
 have hout:Out xs q (lN c (Tr.nd a i b).mem):=by rw[<-oM];exact hq
 have hPm:=Ws hR
 have hpl:=V4 (c:=c) (a:=a) (b:=b) (i:=i)
 have hIw:=hI.lM hPm
 have hPin:=DN (m:=m) (fun j hj=>by have:=hPm j hj;omega) hb
 refine Ey (vs:=(FI fb i)) Tryz.func201 rfl Tryz.ntmps201 rfl ?_
 have hst0:=(y8 hO).unpack
 refine gf hst0 2 ?_
 refine bx (v:=(Zb fb)) (cs:=(Zj fb)) rfl rfl rfl hst0 ?_
 intro e aj a7 a8 I
 have ak:St _ [iB .i64 Zk 3 ([]),blk e 167 (Zj fb),blk fb 265 (Zm fb nb m ed),blk nb 269 (xs.flatMap Nd.cells)] aj:=sI I 3 1
 have al:=ak
 have am:=al
 refine gL I 19 ?_
 refine lp (α:=Nat×Nat×Value) (fun(k,j,pv)=>[(1,(Za i)),(2,(Zb e)),(4,pv),(5,(Za j))]) (fun(k,j,pv) w1=>St [(w,(Zh fb nb m ed xs).gT)] [iB .i64 pv 3 (gx ((je c i).take k)),blk e 167 (Zj fb),blk fb 265 (Zm fb nb m ed),blk nb 269 (xs.flatMap Nd.cells)] w1/\(je c i)[k]? = some j) (fun(k,j,pv)=>c.length+1-k) (0,i,Zk) ⟨rfl,rfl,rfl,gD (by first|rfl|omega),trivial⟩ (⟨am,rfl⟩) ?_
 rintro⟨k,j,pv⟩ a9 ba hC
 have hjm:j<m:=by have h7:=hPm j (ze hC.2);omega
 refine gf hC.1 5 ?_
 refine lC (vs:=(Ze j)) (cs:=(Ze j)) rfl rfl yh gn rfl (by simp[Value.cells]) rfl rfl rfl hC.1 (fun an bb bc bd J=>JU (k:=.i64) (ys:=gx ((je c i).take k)) (zs:=[(j:Int)]) (LL:=fun f=>[iB .i64 (Zy an) 3 ([(j:Int)]),iB .i64 f 3 ((gx ((je c i).take k))++([(j:Int)])),blk e 167 (Zj fb),blk fb 265 (Zm fb nb m ed),blk nb 269 (xs.flatMap Nd.cells)]) 1 rfl rfl rfl yh gn rfl J rfl (mh J (i:=0) rfl) (by simp only[gx,zu,l5,zk,zq];omega) (by simp only[gx,zu,l5,zk,zq];omega) f_ ?_)
 intro f y K be
 have ao:=yi [1,2,3,4] K
 have g:=yi [3,4,1,2] K
 obtain⟨ap,bf⟩:∃ q,Bz xs j=q:=⟨_,rfl⟩
 refine fQ ao 8 ?_
 rcases ap with M|N|P
 . skip
   have hend:=T8 hat hout hC.2 M
   have hNl:gx ((je c i).take k)++[(j:Int)]=gx (je c i):=by rw[G4 hC.2,sL (by rw[hpl.1];omega)]
   refine cl mX (mW fb nb m ed xs y (g.at (i:=0) rfl) (g.at (i:=1) rfl) oa hb hI j o_ M) ?_
   rintro _ aq ⟨rfl,ar⟩
   have A:=jf g ar
   refine fQ A 24 ?_
   refine cl Yw (Wq f aq (mS A (i:=2) rfl)) ?_
   rintro _ au ⟨kb,hkn,rfl,hkb0,hqb⟩
   have Q:=St.YD A hqb hkn hkb0
   have av:=yi [4,1,2,3,0] Q
   have aw:St [(w,(Zh fb nb m ed xs).gT)] (Rp e fb nb m ed (lM xs (je c i) 0) f (gx (je c i)) kb) au:=by rw[LR];have h9:=av;rw[hNl]at h9;exact h9
   refine gL Q 3 ?_
   refine rf (α:=Nat) (ps:=[38,39]) (fi:=[]) (ca:=(Zj kb)) (fun z=>(Rp e fb nb m ed (lM xs (je c i) z) f (gx (je c i)) kb)) (fun z=>z=(je c i).length) aw rfl Ya ?_ ?_
   . intro fn dd l wl rc hrc hsl
     have ax:=yi [0,2,3,4,1,5,6] hsl
     have hpk:=yc (A6 (jq l rc) e fb nb m ed (lM xs (je c i) 0)) [kR dd (some []),iB .i64 f 3 (gx (je c i)),blk kb 115 [f]] ax
     have hr1:rc.state = .ready:=by rw[hrc]
     have hr2:rc.pending=none:=by rw[hrc]
     have hround:∀ (k:Nat) (x:Int) (bs:List (World×List Nat)) (L:List gh) (w:World),k<(gx (je c i)).length->(gx (je c i))[(gx (je c i)).length-1-k]? = some x->St bs ((fun(z:Nat)=>gF (A6 (jq l rc) e fb nb m ed (lM xs (je c i) z))) k :: L) w->YR ya l (Zi (((gx (je c i)).length:Int)-1-(k:Int)) x) w (fun v w' => v = .bool true/\St bs ((fun(z:Nat)=>gF (A6 (jq l rc) e fb nb m ed (lM xs (je c i) z))) (k+1) :: L) w'):=by
      intro k x bs LT wr hlt hx hsr
      have hsr:=hsr.unpack
      obtain⟨j,hj,rfl⟩:=SH hlt hx
      have hjm:j<m:=by have:=hPm j (by simpa using ze hj);omega
      have hwl:=(hIw k).2
      refine Kg (vl:=(Zi (((gx (je c i)).length:Int)-1-(k:Int)) j)) 0 hrc hsr rfl rfl rfl (jm hsr 3 ?_)
      refine tN (?_)
      refine J5 0 hsr rfl hr1 rfl ?_
      intro ay R
      have az:=oH R (List.Perm.cons _ (List.Perm.swap _ _ _))
      have aA:=oH az (List.Perm.swap _ _ _)
      have aB:=oH aA (List.Perm.cons _ (List.Perm.cons _ (List.Perm.swap _ _ _)))
      have aC:=oH aB (List.Perm.cons _ (List.Perm.swap _ _ _))
      have S:=yc [_,_] _ aC
      refine gf R 4 ?_
      refine cl XU (IG fb nb m ed (lM xs (je c i) k) ay (yd S (i:=0) rfl) oa hb (hIw k).1 j o_) ?_
      rintro _ bg ⟨rfl,ht⟩
      have U:=(yp S ht)
      have bh:ga (jY (lM xs (je c i) k) j):=(ga.push (hIw k).1 o_).1
      refine fW U 2 ?_
      refine J9 2 U rfl hr1 hr2 rfl ?_
      intro bi aD
      have aE:=oH aD (List.Perm.cons _ (List.Perm.swap _ _ _))
      have aF:=oH aE (List.Perm.swap _ _ _)
      have aG:=oH aF (List.Perm.cons _ (List.Perm.cons _ (List.Perm.swap _ _ _)))
      have aH:=oH aG (List.Perm.cons _ (List.Perm.swap _ _ _))
      have hs7:=aH
      rw[<-LI hj]at hs7
      exact⟨_,rfl,rfl,yc [_,_,_,_] _ hs7⟩
     refine CR.mono (VM (fun(z:Nat)=>gF (A6 (jq l rc) e fb nb m ed (lM xs (je c i) z))) l kb f (gx (je c i)) (fun b=>b∉((fun(z:Nat)=>gF (A6 (jq l rc) e fb nb m ed (lM xs (je c i) z))) 0).gT) wl hround (yd hpk (i:=0) rfl) (hpk.at (i:=3) rfl) (hpk.YJ (by simp[iT,blk,kR])) (St.VB hpk (i:=2) (j:=0) rfl hPin rfl d_) (fun _ h=>h) (by simp only[gx,zu];omega)) ?_
     rintro _ w9 ⟨-,hturn⟩
     have hs9:=(yp hpk hturn)
     have aI:=yi [0,4,1,2,3,5,6] hs9
     exact⟨_,by simp[gx],aI⟩
   . rintro z dd bj hC aJ
     have V:=yi [0,1,2,3] aJ
     obtain⟨O0,a0,b0,hM0,hf0⟩:=V8 hR hn hC
     refine kF tt none V 3 ?_
     refine lp (α:=List Nd×Cx×Tr×Tr) (fun(ys,O,a', b')=>[(1,(Za i)),(2,(Zb e))]) (fun(ys,O,a', b') w1=>St [(w,(Zh fb nb m ed xs).gT)] (A6 (kR dd (some [])) e fb nb m ed ys) w1/\jB xs ys (j7 c (.nd a i b)) O (.nd a' i b') q/\(fM ys i).flip=false/\ga ys/\ys.length=m) (fun(ys,O,a', b')=>O.length) ((lM xs (je c i) z),O0,a0,b0) ⟨rfl,rfl,trivial⟩ (⟨V,hM0,hf0,(hIw z).1,by have:=(hIw z).2;omega⟩) ?_
     rintro⟨ys,O,a', b'⟩ bl B ⟨hst3,hM,hfl,hIy,hyl⟩
     refine gf hst3 3 ?_
     rcases hM.sides hn hq with ⟨hO,hS⟩|⟨d,p,s2,hO,hS,hU,hS2⟩|⟨d,p,s2,d', g2,s3,c2,hO,hS,hU,hS2⟩
     . skip
       subst hO
       have C:=yi [2,3,0,1] hst3
       refine fQ hst3 2 ?_
       refine cl mX (mW fb nb m ed ys B (C.at (i:=0) rfl) (C.at (i:=1) rfl) oa hb hIy i o_ hS) ?_
       rintro _ bm ⟨rfl,aK⟩
       have W:=jf C aK
       refine fW W 21 ?_
       refine Eu 2 W rfl rfl ?_
       intro w8 hs8
       exact⟨_,results_none Tryz.results201 _ _ _,_,rfl,rfl,ys,a', b', hM,hfl,hIy,yq (yc [_,_] _ hs8)⟩
     . skip
       subst hO
       subst hU
       have D:=yi [2,3,0,1] hst3
       refine fQ hst3 2 ?_
       refine cl mX (mW fb nb m ed ys B (D.at (i:=0) rfl) (D.at (i:=1) rfl) oa hb hIy i o_ hS) ?_
       rintro _ aL ⟨rfl,aM⟩
       have n:=jf D aM
       refine fQ n 24 ?_
       refine jE (o' := i*9+0) (i:=(i:Int)) rfl rfl rfl yk iW (o9 (show i<(ys).length from om)) o_ (fa (o' := i*9+2) rfl rfl yj rfl gn rfl (ld rfl rfl ye rfl (yz n (i:=1) rfl f_ om rfl) (fQ n 8 ?_)))
       refine cl mX (mW fb nb m ed ys aL (n.at (i:=0) rfl) (n.at (i:=1) rfl) oa hb hIy ((fM ys i).up) (o9 (hIy.up i om)) hS2) ?_
       rintro _ aN ⟨rfl,aO⟩
       have X:=jf n aO
       have Y:=yc [_,_] _ X
       refine fQ X 18 ?_
       refine cl BY (w6 fb nb m ed ys aN (yd Y (i:=0) rfl) oa hb hIy i o_) ?_
       rintro _ bn ⟨rfl,ht⟩
       have Z:=(yp Y ht)
       have aP:ga (iH ys i):=(ga.rotate hIy o_).1
       have bo:(iH ys i).length=m:=(By hIy o_).trans o_
       refine fW Z 2 ?_
       refine tN (?_)
       have aQ:=yi [2,3,0,1] Z
       obtain⟨a2,b2,hM2,hf2⟩:=hM.zig hn o_ hcnt hq hfl
       exact again (iH ys i,[],a2,b2) ⟨rfl,rfl,trivial⟩ (⟨aQ,hM2,hf2,aP,by have:=hM2.kl.len;omega⟩) (by simp only[zk,zq];omega)
     . skip
       subst hO
       subst hU
       have E:=yi [2,3,0,1] hst3
       refine fQ hst3 2 ?_
       refine cl mX (mW fb nb m ed ys B (E.at (i:=0) rfl) (E.at (i:=1) rfl) oa hb hIy i o_ hS) ?_
       rintro _ aR ⟨rfl,aS⟩
       have o:=jf E aS
       refine fQ o 24 ?_
       refine jE (o' := i*9+0) (i:=(i:Int)) rfl rfl rfl yk iW (o9 (show i<(ys).length from om)) o_ (fa (o' := i*9+2) rfl rfl yj rfl gn rfl (ld rfl rfl ye rfl (yz o (i:=1) rfl f_ om rfl) (fQ o 8 ?_)))
       refine cl mX (mW fb nb m ed ys aR (o.at (i:=0) rfl) (o.at (i:=1) rfl) oa hb hIy ((fM ys i).up) (o9 (hIy.up i om)) hS2) ?_
       rintro _ aa ⟨rfl,aT⟩
       have s:=jf o aT
       refine fQ s 17 ?_
       by_cases aU:((sd d:Int):Int)=((sd d' : Int):Int)
       . have ab:=yc [_,_] _ s
         refine fQ s 7 ?_
         refine cl BY (w6 fb nb m ed ys aa (yd ab (i:=0) rfl) oa hb hIy ((fM ys i).up) (o9 (hIy.up i om))) ?_
         rintro _ aV ⟨rfl,ht⟩
         have ac:=(yp ab ht)
         have G:ga (iH ys ((fM ys i).up)):=(ga.rotate hIy (o9 (hIy.up i om))).1
         have bp:(iH ys ((fM ys i).up)).length=m:=(By hIy (o9 (hIy.up i om))).trans o_
         have ad:=yc [_,_] _ ac
         refine fQ ac 5 ?_
         refine cl BY (w6 fb nb m ed (iH ys ((fM ys i).up)) aV (yd ad (i:=0) rfl) oa hb G i o_) ?_
         rintro _ bq ⟨rfl,ht⟩
         have ae:=(yp ad ht)
         have aW:ga (iH (iH ys ((fM ys i).up)) i):=(ga.rotate G o_).1
         have br:(iH (iH ys ((fM ys i).up)) i).length=m:=(By G o_).trans o_
         refine fW ae 2 ?_
         refine tN (?_)
         have aX:=yi [2,3,0,1] ae
         have hdd:=XT (Int.ofNat.inj aU)
         subst hdd
         obtain⟨a2,b2,hM2,hf2⟩:=hM.Yu hn o_ hcnt hq hfl
         exact again (iH (iH ys ((fM ys i).up)) i,c2,a2,b2) ⟨rfl,rfl,trivial⟩ (⟨aX,hM2,hf2,aW,by have:=hM2.kl.len;omega⟩) (by simp only[zk,zq];omega)
       . have af:=yc [_,_] _ s
         refine fQ s 7 ?_
         refine cl BY (w6 fb nb m ed ys aa (yd af (i:=0) rfl) oa hb hIy i o_) ?_
         rintro _ aY ⟨rfl,ht⟩
         have ag:=(yp af ht)
         have H:ga (iH ys i):=(ga.rotate hIy o_).1
         have bt:(iH ys i).length=m:=(By hIy o_).trans o_
         have ah:=yc [_,_] _ ag
         refine fQ ag 5 ?_
         refine cl BY (w6 fb nb m ed (iH ys i) aY (yd ah (i:=0) rfl) oa hb H i o_) ?_
         rintro _ bu ⟨rfl,ht⟩
         have ai:=(yp ah ht)
         have aZ:ga (iH (iH ys i) i):=(ga.rotate H o_).1
         have bv:(iH (iH ys i) i).length=m:=(By H o_).trans o_
         refine fW ai 2 ?_
         refine tN (?_)
         have a1:=yi [2,3,0,1] ai
         obtain⟨a2,b2,hM2,hf2⟩:=hM.Yh hn o_ hcnt hq hfl
         exact again (iH (iH ys i) i,c2,a2,b2) ⟨rfl,rfl,trivial⟩ (⟨a1,hM2,hf2,aZ,by have:=hM2.kl.len;omega⟩) (by simp only[zk,zq];omega)
 . skip
   have hon:=Np hat hout hC.2 N
   refine cl mX (mW fb nb m ed xs y (g.at (i:=0) rfl) (g.at (i:=1) rfl) oa hb hI j o_ N) ?_
   rintro _ bw ⟨rfl,a3⟩
   have t:=jf g a3
   refine fQ t 22 ?_
   refine jE (o' := j*9+0) (i:=(j:Int)) rfl rfl rfl yk iW om o_ (fa (o' := j*9+2) rfl rfl yj rfl gn rfl (ld rfl rfl ye rfl (yz t (i:=1) rfl f_ om rfl) (fW t 3 ?_)))
   refine tN (?_)
   have a4:=yi [2,3,0,1] t
   exact again ((k+1),(fM xs j).up,f) ⟨rfl,rfl,rfl,gD (by first|rfl|omega),trivial⟩ (⟨by rw[<-G4 hC.2];exact a4,hon.2⟩) (by show (c.length+1-(k+1):Nat)<c.length+1-k;omega)
 . skip
   have hon:=Np hat hout hC.2 P
   refine cl mX (mW fb nb m ed xs y (g.at (i:=0) rfl) (g.at (i:=1) rfl) oa hb hI j o_ P) ?_
   rintro _ bz ⟨rfl,a5⟩
   have u:=jf g a5
   refine fQ u 22 ?_
   refine jE (o' := j*9+0) (i:=(j:Int)) rfl rfl rfl yk iW om o_ (fa (o' := j*9+2) rfl rfl yj rfl gn rfl (ld rfl rfl ye rfl (yz u (i:=1) rfl f_ om rfl) (fW u 3 ?_)))
   refine tN (?_)
   have a6:=yi [2,3,0,1] u
   exact again ((k+1),(fM xs j).up,f) ⟨rfl,rfl,rfl,gD (by first|rfl|omega),trivial⟩ (⟨by rw[<-G4 hC.2];exact a6,hon.2⟩) (by show (c.length+1-(k+1):Nat)<c.length+1-k;omega)
end
section
open Go Go.Sx
theorem zG(fb nb m:Nat)(ed:Int)(xs:List Nd)(w:World)(hO:Own (Zh fb nb m ed xs) w)(hm:xs.length=m)(hb:m<=1000001)(hI:ga xs)(F:FT)(hF:Fo xs F)(i:Nat)(hi:i≠0)(him:i<m) :
 CR ya 145 (Zn fb i) w (fun r w' => ∃ l:Nat,r = .int .i64 (l:Int)/\∃ ys a R,kZ xs F ys i a R/\ga ys/\gm (Zh fb nb m ed xs) w w' (Zh fb nb m ed ys)):=by
 obtain⟨k0,hE0⟩:=Ex.init hF (i:=i) o_
 refine en Tryz.func145 Tryz.ntmps145 ?_
 have hst0:=(y8 hO).unpack
 refine wm hst0 18 ?_
 refine lp (α:=List Nd×Nat×Nat×Nat×FT×Tr) (fun(zs,below,j,k,R,B)=>[(0,(Zb fb)),(1,(Za i)),(5,(Za below)),(6,(Za j))]) (fun(zs,below,j,k,R,B) w1=>St [(w,(Zh fb nb m ed xs).gT)] (K8 fb nb m ed zs) w1/\Ex xs F i zs below j k R B/\ga zs/\zs.length=m) (fun(zs,below,j,k,R,B)=>k) (xs,0,i,k0,F,.nil) ⟨rfl,rfl,gD (by first|rfl|omega),gD (by first|rfl|omega),trivial⟩ (⟨hst0,hE0,hI,hm⟩) ?_
 rintro⟨zs,below,j,k,R,B⟩ ac E ⟨hst6,hE,hIz,hlz⟩
 have hbm:below<m:=by have h7:=hE.rep.zR o_;rw[hE.root]at h7;omega
 have hjm:j<m:=by have h7:=hE.lt;omega
 refine gf hst6 4 ?_
 by_cases S:((j:Int):Int)=(0:Int)
 . have hj1:j=0:=by omega
   refine fQ hst6 1 ?_
   subst hj1
   obtain⟨hg1,hg2,hg3,hg4,hg5,hgo⟩:=hE.fin hi
   have G:=yc [_,_] _ hst6
   refine fQ hst6 12 ?_
   refine cl Ob (MU fb nb m ed zs E (yd G (i:=0) rfl) (by first|exact hm|omega) hb hIz i 0 B hg1 hg2 hg3 hg4 hg5) ?_
   rintro _ ad ⟨rfl,u,H,U,I,J,V,ht⟩
   have K:=(yp G ht)
   have ae:u.length=m:=by have:=I.kl.len;omega
   refine fW K 9 ?_
   refine gw (v:=(Za below)) Tryz.results145 rfl ?_
   obtain⟨hb0,h1,h2,h3,h4,h5⟩:=hgo u H U I J
   subst hb0
   exact⟨below,rfl,u,H,R,⟨h1,J,h2,h3,h4,h5⟩,V,yq (yc [_,_] [] K)⟩
 . have hj0:j≠0:=fun h7=>S o_
   obtain⟨T,q,hg1,hg2,hg3,hg4,hg5,hgo⟩:=hE.go hj0
   have L:=yc [_,_] _ hst6
   refine fQ hst6 12 ?_
   refine cl Ob (MU fb nb m ed zs E (yd L (i:=0) rfl) (by first|exact hm|omega) hb hIz j q T hg1 hg2 hg3 hg4 hg5) ?_
   rintro _ af ⟨rfl,f,M,W,N,X,y,ht⟩
   have z:=(yp L ht)
   have ag:f.length=m:=by have:=N.kl.len;omega
   refine fQ z 9 ?_
   refine jE (o' := j*9+0) (i:=(j:Int)) rfl rfl rfl yk iW (o9 (show j<(f).length from om)) o_ (gL z 4 ?_)
   refine jN z 28 ?_ (hA:=by refine' gI 11 ?k0;case k0=>refine' gq (fun wq hM=>rv (vM (o:=j*9+0) (o' := j*9+1) (i:=1) rfl rfl yt gn d_ rfl)) ?k1;case k1=>refine' gI 1 ?k2;case k2=>refine' gq (fun wq hM=>rv (pW (o' := ((fM f j).k1)*9+0) (i:=((fM f j).k1:Int)) rfl rfl yk iW (o9 (show ((fM f j).k1)<(f).length from(o9 (y.k1 j om)))) o_)) ?k3;case k3=>refine' gI 1 ?k4;case k4=>refine' gq (fun wq hM=>rv (gU rfl ye rfl (yz hM (i:=1) rfl f_ (o9 (y.k1 j om)) rfl))) ?k5;case k5=>refine' gI 5 ?k6;case k6=>refine' gq (fun wq hM=>rv (pW (o' := below*9+0) (i:=(below:Int)) rfl rfl yk iW (o9 (show below<(f).length from om)) o_)) ?k7;case k7=>refine' gI 2 ?k8;case k8=>refine' gq (fun wq hM=>rv (kV (e:=(IntKind.i64.wrap ((fM f ((fM f j).k1)).total-(fM f below).total))) rfl rfl rfl rfl)) ?k9;case k9=>refine' gq (fun wq hM=>rv (kV (e:=(IntKind.i64.wrap ((fM f j).iP+(IntKind.i64.wrap ((fM f ((fM f j).k1)).total-(fM f below).total))))) rfl rfl rfl rfl)) ?k10;case k10=>exact iA)
   intro wq hM
   refine nu (L' := [blk fb 265 (Zm fb nb m ed),blk nb 269 ((fR f j (fun x=>{ x with iP:=(IntKind.i64.wrap ((fM f j).iP+(IntKind.i64.wrap ((fM f ((fM f j).k1)).total-(fM f below).total)))) })).flatMap Nd.cells)]) 1 rfl rfl rfl rfl gn rfl rfl hM rfl (oS (jQ (cf:=Nd.cells) (sz:=9) (k:=j) (off:=7) (n:=1) f_ om (za rfl))) (jP (cf:=Nd.cells) (sz:=9) (k:=j) (off:=7) f_ om rfl (za rfl)) rfl (fun _ h=>(jM h (fun ah p=>?_)))
   have A:ga (fR f j (fun x=>{ x with iP:=(IntKind.i64.wrap ((fM f j).iP+(IntKind.i64.wrap ((fM f ((fM f j).k1)).total-(fM f below).total)))) })):=ga.iF y om (fun x a b c d e=>⟨a,b,c,d,e⟩)
   obtain⟨O,Y,ai,A,p⟩:=iG (m:=m) A p
   refine ng tt none p 6 ?_
   refine fa (o' := j*9+0) rfl rfl yj rfl lU rfl (mA (o:=j*9+0) (o' := j*9+1) (i:=1) rfl rfl rfl yt gn d_ rfl (me (L' := [blk fb 265 (Zm fb nb m ed),blk nb 269 ((fR O j (fun x=>{ x with k1:=below })).flatMap Nd.cells)]) 1 rfl rfl rfl rfl gn rfl rfl p rfl (jQ (cf:=Nd.cells) (sz:=9) (k:=j) (off:=1) (n:=1) f_ om (za rfl)) (jP (cf:=Nd.cells) (sz:=9) (k:=j) (off:=1) f_ om rfl (za rfl)) rfl ?_))
   intro Z s aj
   have t:ga (fR O j (fun x=>{ x with k1:=below })):=ga.iF A om (fun x a b c d e=>⟨a,om,c,d,e⟩)
   obtain⟨P,aa,ak,t,s⟩:=iG (m:=m) t s
   have Q:=yc [_,_] _ s
   refine fQ s 6 ?_
   refine cl l8 (l7 fb nb m ed P Z (yd Q (i:=0) rfl) oa hb t j o_) ?_
   rintro _ al ⟨rfl,ht⟩
   have g:=(yp Q ht)
   have C:ga (iK P j):=ga.lS t o_
   obtain⟨D,ab,am,C,g⟩:=iG (m:=m) C g
   refine fQ g 14 ?_
   refine jE (o' := j*9+0) (i:=(j:Int)) rfl rfl rfl yk iW om o_ (fa (o' := j*9+2) rfl rfl yj rfl gn rfl (ld rfl rfl ye rfl (yz g (i:=1) rfl f_ om rfl) (fW g 2 ?_)))
   refine tN (?_)
   have e9:lP f j below=D:=by rw[ab,aa,Y];rfl
   obtain⟨hup,hk9,k', R', hk,hE2⟩:=hgo f M W N X
   rw[e9]at hup hE2
   rw[<-hup]at hE2
   exact again (D,j,(fM D j).up,k', R', (.nd M j B)) ⟨rfl,rfl,gD (by first|rfl|omega),gD (by first|rfl|omega),trivial⟩ (⟨g,hE2,C,o_⟩) (by subst hk;exact Nat.lt_succ_self _)
end
section
open Go Go.Sx
theorem Nb(fb nb m:Nat)(ed:Int)(w:World)(hf:(Ba fb nb m ed).holds w)(hb:m<=1000001) :
 CR ya 199 (Zl fb) w (fun r w' => r = .bool true/\gB [] w w'):=by
 refine en Tryz.func199 Tryz.ntmps199 ?_
 have hst0:=jO w
 refine gf hst0 8 ?_
 refine qR (a:=some ⟨fb,0,none⟩) (c:=true) rfl rfl rfl Tryz.underlying167 rfl (fQ hst0 6 ?_)
 refine Fj (a:=⟨fb,0,none⟩) rfl rfl rfl Tryz.underlying167 JE (fW hst0 5 ?_)
 refine gw (v:=Zf) Tryz.results199 rfl ?_
 exact⟨rfl,hst0.gK s_⟩
theorem zU(fb nb m:Nat)(ed:Int)(w:World)(hf:(Ba fb nb m ed).holds w)(hb:m<=1000001)(v:Nat)(hv:v+1<m) :
 CR ya 200 (Zn fb v) w (fun r w' => r = .bool true/\gB [] w w'):=by
 refine en Tryz.func200 Tryz.ntmps200 ?_
 have hst0:=jO w
 refine gf hst0 8 ?_
 refine cl Ow (Nb fb nb m ed w (St.JA hst0 s_ hf) hb) ?_
 rintro _ d ⟨rfl,b⟩
 have a:=jf hst0 b
 refine fQ a 2 ?_
 refine cmp rfl rfl rfl (qF o_) (fQ a 7 ?_)
 refine E7 (m:=m) (c:=m) rfl rfl yk (fQ a 1 ?_)
 refine cmp rfl rfl rfl (p5 o_) (fW a 5 ?_)
 refine gw (v:=Zf) Tryz.results200 rfl ?_
 exact⟨rfl,a.gK s_⟩
theorem H8(fb nb m:Nat)(ed:Int)(w:World)(hf:(Ba fb nb m ed).holds w)(hb:m<=1000001)(v:Value)(vs:List Nat)(hv:Ints .i64 (fun _=>True) w v (gx vs))(hlt:∀ x∈vs,x+1<m) :
 CR ya 144 #[(Zb fb),v] w (fun r w' => r = .int .i64 0/\gB [] w w'):=by
 have hvl:(gx vs).length=vs.length:=by simp[gx]
 have hvl2:=hv.len
 refine en Tryz.func144 Tryz.ntmps144 ?_
 have hst0:=jO w
 refine gf hst0 9 ?_
 refine cl Ow (Nb fb nb m ed w (St.JA hst0 s_ hf) hb) ?_
 rintro _ h ⟨rfl,c⟩
 have a:=jf hst0 c
 refine fQ a 10 ?_
 refine tE (v:=v) rfl rfl yh hv (gL a 4 ?_)
 refine lp (α:=Nat) (fun k=>[(0,(Zb fb)),(10,v),(11,(Za ((gx vs).length:Int))),(12,(Za k))]) (fun k w1=>St [(w,[])] [] w1/\k<=vs.length) (fun k=>vs.length-k) 0 ⟨rfl,rfl,rfl,gD (by first|rfl|omega),trivial⟩ (⟨a,o_⟩) ?_
 rintro k j d ⟨hst7,hk7⟩
 refine gf hst7 2 ?_
 by_cases l:((k:Int):Int)<(((gx vs).length:Int):Int)
 . obtain⟨x,hx⟩:=ov (show k<vs.length by omega)
   refine fQ hst7 11 ?_
   refine Gb (i:=(k:Int)) (el:=(x:Int)) rfl rfl rfl yh gn (St.Ju hst7 s_ hv) o_ (by rw[show ((k:Nat):Int).toNat=k by omega];simp[gx,hx]) ?_
   intro n o e f p
   have q:=f.i64
   refine ld rfl rfl ye rfl e (fQ hst7 7 ?_)
   refine cl Jf (zU fb nb m ed d (St.JA hst7 s_ hf) hb x (by first|omega|exact hlt _ (ze hx))) ?_
   rintro _ s ⟨rfl,g⟩
   have b:=jf hst7 g
   refine fW b 11 ?_
   refine tN (?_)
   exact again (k+1) ⟨rfl,rfl,rfl,gD (by first|rfl|omega),trivial⟩ (⟨b,o_⟩) (by show (vs.length-(k+1):Nat)<vs.length-k;omega)
 . refine fW hst7 16 ?_
   refine gw (v:=Zc) Tryz.results144 rfl ?_
   exact⟨rfl,hst7.gK s_⟩
theorem NC(fb nb m:Nat)(ed:Int)(xs:List Nd)(w:World)(hO:Own (Zh fb nb m ed xs) w)(hm:xs.length=m)(hb:m<=1000001)(hI:ga xs)(F:FT)(hF:Fo xs F)(i:Nat)(hi:i≠0)(him:i<m) :
 CR ya 209 (Zn fb i) w (fun r w' => r = .tuple #[]/\∃ ys a R,kZ xs F ys i a R/\ga ys/\gm (Zh fb nb m ed xs) w w' (Zh fb nb m ed (kE ys i))):=by
 refine en Tryz.func209 Tryz.ntmps209 ?_
 have hst0:=(y8 hO).unpack
 have g:=yc [_,_] _ hst0
 refine gf hst0 4 ?_
 refine cl zX (zG fb nb m ed xs w (yd g (i:=0) rfl) (by first|exact hm|omega) hb hI F hF i o_ o_) ?_
 rintro _ s ⟨l₁,rfl,f,p,q,h,j,ht⟩
 have l:=(yp g ht)
 have t:f.length=m:=by have:=h.len;omega
 refine fQ l 8 ?_
 refine jE (o' := i*9+0) (i:=(i:Int)) rfl rfl rfl yk iW (o9 (show i<(f).length from om)) o_ (fa (o' := i*9+3) rfl rfl yj rfl nV rfl (me (L' := [blk fb 265 (Zm fb nb m ed),blk nb 269 ((fR f i (fun x=>{ x with flip:=true })).flatMap Nd.cells)]) 1 rfl rfl rfl rfl nV rfl rfl l rfl (jQ (cf:=Nd.cells) (sz:=9) (k:=i) (off:=3) (n:=1) f_ om (za rfl)) (jP (cf:=Nd.cells) (sz:=9) (k:=i) (off:=3) f_ om rfl (za rfl)) rfl ?_))
 intro u o v
 have y:ga (fR f i (fun x=>{ x with flip:=true })):=ga.iF j om (fun x a b c d e=>⟨a,b,c,d,e⟩)
 refine fW o 1 ?_
 refine jA Tryz.results209 ?_
 have e9:kE f i=fR f i (fun x=>{ x with flip:=true }):=rfl
 exact⟨rfl,f,p,q,h,j,yq (yc [_,_] [] o)⟩
theorem Iq(fb nb m:Nat)(ed:Int)(xs:List Nd)(w:World)(hO:Own (Zh fb nb m ed xs) w)(hm:xs.length=m)(hb:m<=1000001)(hI:ga xs)(F:FT)(hF:Fo xs F)(i j:Nat)(hi:i≠0)(him:i<m)(hj:j≠0)(hjm:j<m) :
 CR ya 164 (Z2 fb i j) w (fun r w' => r = .tuple #[]/\∃ ys a R zs b R2,kZ xs F ys i a R/\kZ (kE ys i) ((.nd a i .nil,0) :: R) zs j b R2/\ga zs/\gm (Zh fb nb m ed xs) w w' (Zh fb nb m ed zs)):=by
 refine en Tryz.func164 Tryz.ntmps164 ?_
 have hst0:=(y8 hO).unpack
 have e:=yc [_,_] _ hst0
 refine gf hst0 4 ?_
 refine cl OE (NC fb nb m ed xs w (yd e (i:=0) rfl) (by first|exact hm|omega) hb hI F hF i o_ o_) ?_
 rintro _ p ⟨rfl,c,f,g,d,q,ht⟩
 have h:=(yp e ht)
 have s:c.length=m:=by have:=d.len;omega
 have t:ga (kE c i):=q.lead o_
 have y:(kE c i).length=m:=(ug _ _).trans s
 have k:=yc [_,_] _ h
 refine fQ h 5 ?_
 refine cl zX (zG fb nb m ed (kE c i) p (yd k (i:=0) rfl) (by first|exact hm|omega) hb t ((.nd f i .nil,0) :: g) d.C8.fo j o_ o_) ?_
 rintro _ z ⟨l₁,rfl,l,u,v,n,x,ht⟩
 have o:=(yp k ht)
 have A:l.length=m:=by have:=n.len;omega
 refine fW o 1 ?_
 refine jA Tryz.results164 ?_
 exact⟨rfl,c,f,g,l,u,v,d,n,x,yq (yc [_,_] [] o)⟩
end
section
open Go Go.Sx
theorem GM(fb nb m:Nat)(ed:Int)(xs:List Nd)(w:World)(hO:Own (Zh fb nb m ed xs) w)(hm:xs.length=m)(hb:m<=1000001)(hI:ga xs)(F:FT)(hF:Fo xs F)(a b:Nat)(ha:a+1<m)(hb2:b+1<m) :
 CR ya 163 (Z2 fb a b) w (fun r w' => ∃ B zs F2,r = .bool B/\(B=true↔tc xs F (a+1) (b+1))/\Fo zs F2/\ga zs/\zs.length=m/\(∀ u v,tc zs F2 u v↔tc xs F u v)/\(∀ k,(fM zs k).key=(fM xs k).key)/\gm (Zh fb nb m ed xs) w w' (Zh fb nb m ed zs)):=by
 refine en Tryz.func163 Tryz.ntmps163 ?_
 have hst0:=(y8 hO).unpack
 refine gf hst0 10 ?_
 refine cl Jf (zU fb nb m ed w (hst0.at (i:=0) rfl) hb a o_) ?_
 rintro _ q ⟨rfl,s⟩
 have h:=jf hst0 s
 refine fQ h 4 ?_
 refine cl Jf (zU fb nb m ed q (h.at (i:=0) rfl) hb b o_) ?_
 rintro _ t ⟨rfl,x⟩
 have f:=jf h x
 refine fQ f 12 ?_
 by_cases D:((a:Int):Int)=((b:Int):Int)
 . refine fW f 11 ?_
   refine gw (v:=Zf) Tryz.results163 rfl ?_
   have hab:a=b:=by omega
   subst hab
   exact⟨true,xs,F,rfl,⟨fun _=>hF.SA o_ o_,fun _=>rfl⟩,hF,hI,hm,fun _ _=>Iff.rfl,fun _=>rfl,yq (yc [_,_] _ f)⟩
 . have j:=yc [_,_] _ f
   refine fQ f 11 ?_
   refine cl zX (zG fb nb m ed xs t (yd j (i:=0) rfl) (by first|exact hm|omega) hb hI F hF (a+1) o_ o_) ?_
   rintro _ y ⟨l₁,rfl,l,z,A,d,C,ht⟩
   have n:=(yp j ht)
   have E:l.length=m:=by have:=d.len;omega
   have o:=yc [_,_] _ n
   refine fQ n 7 ?_
   refine cl zX (zG fb nb m ed l y (yd o (i:=0) rfl) (by first|exact hm|omega) hb C ((.nd z (a+1) .nil,0) :: A) d.fo (b+1) o_ o_) ?_
   rintro _ G ⟨l₂,rfl,g,H,I,c,p,ht⟩
   have e:=(yp o ht)
   have J:g.length=m:=by have:=c.len;omega
   refine fQ e 10 ?_
   refine jE (o' := (a+1)*9+0) (i:=(a:Int)+1) rfl rfl rfl yk iW (o9 (show (a+1)<(g).length from om)) o_ (fa (o' := (a+1)*9+2) rfl rfl yj rfl gn rfl (ld rfl rfl ye rfl (yz e (i:=1) rfl f_ om rfl) ?_))
   by_cases K:(((fM g (a+1)).up:Int):Int)=(0:Int)
   . refine fW e 5 ?_
     refine gw (v:=Zq) Tryz.results163 rfl ?_
     have hju:=L9 d c (show a+1≠b+1 by omega)
     exact⟨false,g,_,rfl,⟨fun h9=>(by cases h9),fun h9=>absurd (hju.2 h9) o_⟩,c.fo,p,by have:=c.len;omega,fun u v=>(c.joined u v).trans (d.joined u v),fun k=>(c.key k).trans (d.key k),yq (yc [_,_] _ e)⟩
   . refine fW e 5 ?_
     refine gw (v:=Zf) Tryz.results163 rfl ?_
     have hju:=L9 d c (show a+1≠b+1 by omega)
     exact⟨true,g,_,rfl,⟨fun _=>hju.1 o_,fun _=>rfl⟩,c.fo,p,by have:=c.len;omega,fun u v=>(c.joined u v).trans (d.joined u v),fun k=>(c.key k).trans (d.key k),yq (yc [_,_] _ e)⟩
theorem Yv(fb nb m:Nat)(ed:Int)(xs:List Nd)(w:World)(hO:Own (Zh fb nb m ed xs) w)(hm:xs.length=m)(hb:m<=1000001)(hI:ga xs)(F:FT)(hF:Fo xs F)(v:Nat)(hv:v+1<m)(key:Int)(hk:ij .i64 key) :
 CR ya 84 (Z2 fb v key) w (fun r w' => r = .int .i64 0/\∃ zs F2,Fo zs F2/\ga zs/\zs.length=m/\gm (Zh fb nb m ed xs) w w' (Zh fb nb m ed zs)):=by
 refine en Tryz.func84 Tryz.ntmps84 ?_
 have hst0:=(y8 hO).unpack
 refine gf hst0 10 ?_
 refine lC (vs:=(Ze v)) (cs:=(Ze v)) rfl rfl yh gn rfl (by simp[Value.cells]) rfl rfl rfl hst0 (fun l z H I g=>cl IX (H8 fb nb m ed z (g.at (i:=1) rfl) hb (Zy l) [v] (yR g (i:=0) rfl (DN (m:=m) (P:=[v]) (by intro j hj;simp at hj;omega) hb)).any (by intro j hj;simp at hj;omega)) ?_)
 rintro _ A ⟨rfl,B⟩
 have o:=jf g B
 have C:=yi [1,2,0] o
 have p:=yc [_,_] _ C
 refine fQ o 17 ?_
 refine cl zX (zG fb nb m ed xs A (yd p (i:=0) rfl) (by first|exact hm|omega) hb hI F hF (v+1) o_ o_) ?_
 rintro _ J ⟨l₁,rfl,f,K,L,h,D,ht⟩
 have q:=(yp p ht)
 have M:f.length=m:=by have:=h.len;omega
 refine fQ q 11 ?_
 refine jE (o' := (v+1)*9+0) (i:=(v:Int)+1) rfl rfl rfl yk iW (o9 (show (v+1)<(f).length from om)) o_ (fa (o' := (v+1)*9+4) rfl rfl yj rfl ti2 rfl (me (L' := [blk fb 265 (Zm fb nb m ed),blk nb 269 ((fR f (v+1) (fun x=>{ x with key:=key })).flatMap Nd.cells),iB .i64 (Zy l) 3 ([(v:Int)])]) 1 rfl rfl rfl rfl ti2 rfl rfl q rfl (jQ (cf:=Nd.cells) (sz:=9) (k:=(v+1)) (off:=4) (n:=1) f_ om (za rfl)) (jP (cf:=Nd.cells) (sz:=9) (k:=(v+1)) (off:=4) f_ om rfl (za rfl)) rfl ?_))
 intro E s N
 have t:ga (fR f (v+1) (fun x=>{ x with key:=key })):=ga.iF D om (fun x a b c d e=>⟨a,b,c,d,hk⟩)
 have u:=yc [_,_] _ s
 refine fQ s 7 ?_
 refine cl l8 (l7 fb nb m ed (fR f (v+1) (fun x=>{ x with key:=key })) E (yd u (i:=0) rfl) oa hb t (v+1) om) ?_
 rintro _ O ⟨rfl,ht⟩
 have y:=(yp u ht)
 have G:ga (iK (fR f (v+1) (fun x=>{ x with key:=key })) (v+1)):=ga.lS t om
 refine fW y 8 ?_
 refine gw (v:=Zc) Tryz.results84 rfl ?_
 have e9:vU f (v+1) key=iK (fR f (v+1) (fun x=>{ x with key:=key })) (v+1):=rfl
 have h9:=Wa (c:=key) h.fo
 exact⟨rfl,iK (fR f (v+1) (fun x=>{ x with key:=key })) (v+1),_,h9.1,G,by rw[<-e9,h9.2.1];have:=h.len;omega,yq (yc [_,_] _ y)⟩
theorem WA(fb nb m:Nat)(ed:Int)(xs:List Nd)(w:World)(hO:Own (Zh fb nb m ed xs) w)(hm:xs.length=m)(hb:m<=1000001)(hI:ga xs)(F:FT)(hF:Fo xs F)(a b:Nat)(ha:a+1<m)(hb2:b+1<m) :
 CR ya 205 (Z2 fb a b) w (fun r w' => ∃ d zs F2,r = .int .i64 d/\Fo zs F2/\ga zs/\zs.length=m/\(d=1->∃ b' R,F2=(.nd b' (b+1) .nil,0) :: R/\gz zs false (.nd b' (b+1) .nil)=[a+1,b+1])/\gm (Zh fb nb m ed xs) w w' (Zh fb nb m ed zs)):=by
 refine en Tryz.func205 Tryz.ntmps205 ?_
 have hst0:=(y8 hO).unpack
 have k:=yc [_,_] _ hst0
 refine gf hst0 11 ?_
 refine cl I8 (GM fb nb m ed xs w (yd k (i:=0) rfl) (by first|exact hm|omega) hb hI F hF a b o_ o_) ?_
 rintro _ s ⟨t,l,F2₁,rfl,u,h,n,x,y,B,ht⟩
 have f:=(yp k ht)
 refine gL f 3 ?_
 cases o:(t:Bool)
 . skip
   subst o
   refine jm f 8 ?_
   refine gw (v:=Zw) Tryz.results205 rfl ?_
   exact⟨-1,l,_,rfl,h,n,x,fun h9=>absurd h9 d_,yq (yc [_,_] _ f)⟩
 . skip
   subst o
   have p:=yc [_,_] _ f
   refine gf f 10 ?_
   refine cl Jj (Iq fb nb m ed l s (yd p (i:=0) rfl) (by first|exact hm|omega) hb n F2₁ h (a+1) (b+1) o_ o_ o_ o_) ?_
   rintro _ C ⟨rfl,D,E,G,c,q,z,j,e,A,ht⟩
   have g:=(yp p ht)
   have H:c.length=m:=by have h7:=e.len;have h8:=j.len;rw[ug]at h7;omega
   have hb9:0<=(fM c (b+1)).size/\(fM c (b+1)).size<=1000000:=by have h7:=(e.fo.rep (.nd q (b+1) .nil,0) s_).2.2.1.size;have h8:=e.fo.count;simp only[Tr.mem]at h7 h8;rw[h7];omega
   refine fQ g 10 ?_
   refine jE (o' := (b+1)*9+0) (i:=(b:Int)+1) rfl rfl rfl yk iW (o9 (show (b+1)<(c).length from om)) o_ (fa (o' := (b+1)*9+5) rfl rfl yj rfl gn rfl (ld rfl rfl ye rfl (yz g (i:=1) rfl f_ om rfl) (fW g 5 ?_)))
   refine gw (v:=(Za (((fM c (b+1)).size)-1))) Tryz.results205 rfl ?_
   have hJ9:=(y (a+1) (b+1)).2 (u.1 rfl)
   have hd9:=fun hs=>Ve h hJ9 j e hs
   skip
   exact⟨(fM c (b+1)).size-1,c,_,rfl,e.fo,A,by have h7:=e.len;have h8:=j.len;rw[ug]at h7;omega,fun h9=>⟨q,z,rfl,hd9 o_⟩,yq (yc [_,_] _ g)⟩
theorem XO(fb nb m:Nat)(ed:Int)(xs:List Nd)(w:World)(hO:Own (Zh fb nb m ed xs) w)(hm:xs.length=m)(hb:m<=1000001)(hI:ga xs)(F:FT)(hF:Fo xs F)(a b:Nat)(ha:a+1<m)(hb2:b+1<m) :
 CR ya 112 (Z2 fb a b) w (fun r w' => ∃ (f:Nat) (B:Bool),∃ zs F2,r = .tuple (ve f B)/\f+1<m/\Fo zs F2/\ga zs/\zs.length=m/\gm (Zh fb nb m ed xs) w w' (Zh fb nb m ed zs)):=by
 refine en Tryz.func112 Tryz.ntmps112 ?_
 have hst0:=(y8 hO).unpack
 have h:=yc [_,_] _ hst0
 refine gf hst0 12 ?_
 refine cl I8 (GM fb nb m ed xs w (yd h (i:=0) rfl) (by first|exact hm|omega) hb hI F hF a b o_ o_) ?_
 rintro _ s ⟨t,j,F2₁,rfl,y,k,l,u,z,A,ht⟩
 have d:=(yp h ht)
 refine gL d 3 ?_
 cases n:(t:Bool)
 . skip
   subst n
   refine jm d 9 ?_
   refine jU (v:=Zc) (v' := Zq) Tryz.results112 rfl rfl ?_
   exact⟨0,false,j,_,rfl,o_,k,l,u,yq (yc [_,_] _ d)⟩
 . skip
   subst n
   have o:=yc [_,_] _ d
   refine gf d 10 ?_
   refine cl Jj (Iq fb nb m ed j s (yd o (i:=0) rfl) (by first|exact hm|omega) hb l F2₁ k (a+1) (b+1) o_ o_ o_ o_) ?_
   rintro _ C ⟨rfl,D,E,G,c,x,H,p,e,q,ht⟩
   have g:=(yp o ht)
   have I:c.length=m:=by have h7:=e.len;have h8:=p.len;rw[ug]at h7;omega
   have hb9:(fM c (b+1)).first≠0/\(fM c (b+1)).first<m:=by have h7:=e.fo.rep (.nd x (b+1) .nil,0) s_;have h8:=h7.pR _ h7.2.2.1.first.1;have h9:=q.first (b+1) o_;omega
   refine fQ g 10 ?_
   refine jE (o' := (b+1)*9+0) (i:=(b:Int)+1) rfl rfl rfl yk iW (o9 (show (b+1)<(c).length from om)) o_ (fa (o' := (b+1)*9+6) rfl rfl yj rfl gn rfl (ld rfl rfl ye rfl (yz g (i:=1) rfl f_ om rfl) (fW g 6 ?_)))
   refine jU (v:=(Za (((fM c (b+1)).first:Int)-1))) (v' := Zf) Tryz.results112 rfl rfl ?_
   exact⟨(fM c (b+1)).first-1,true,c,_,by rw[show (((fM c (b+1)).first-1:Nat):Int)=((fM c (b+1)).first:Int)-1 by omega],o_,e.fo,q,by have h7:=e.len;have h8:=p.len;rw[ug]at h7;omega,yq (yc [_,_] _ g)⟩
theorem Wk(fb nb m:Nat)(ed:Int)(xs:List Nd)(w:World)(hO:Own (Zh fb nb m ed xs) w)(hm:xs.length=m)(hb:m<=1000001)(hI:ga xs)(F:FT)(hF:Fo xs F)(a b:Nat)(ha:a+1<m)(hb2:b+1<m) :
 CR ya 165 (Z2 fb a b) w (fun r w' => ∃ e ed', ∃ zs F2,r = .int .i64 e/\Fo zs F2/\ga zs/\zs.length=m/\gm (Zh fb nb m ed xs) w w' (Zh fb nb m ed' zs)):=by
 refine en Tryz.func165 Tryz.ntmps165 ?_
 have hst0:=(y8 hO).unpack
 refine gf hst0 11 ?_
 refine lC (vs:=(Zi a b)) (cs:=(Zi a b)) rfl rfl yh gn rfl (by simp[Value.cells]) rfl rfl rfl hst0 (fun s M aj ak t=>cl IX (H8 fb nb m ed M (t.at (i:=1) rfl) hb (tQ s) [a,b] (yR t (i:=0) rfl (DN (m:=m) (P:=[a,b]) (by intro j hj;simp at hj;omega) hb)).any (by intro j hj;simp at hj;omega)) ?_)
 rintro _ N ⟨rfl,O⟩
 have g:=jf t O
 refine fQ g 17 ?_
 by_cases al:((a:Int):Int)=((b:Int):Int)
 . refine fW g 11 ?_
   refine gw (v:=(.int .i64 9)) Tryz.results165 rfl ?_
   have Q:=yi [1,2,0] g
   exact⟨_,ed,xs,F,rfl,hF,hI,hm,yq (yc [_,_] _ Q)⟩
 . skip
   have R:=yi [1,2,0] g
   have z:=yc [_,_] _ R
   refine fQ g 12 ?_
   refine cl I8 (GM fb nb m ed xs N (yd z (i:=0) rfl) (by first|exact hm|omega) hb hI F hF a b o_ o_) ?_
   rintro _ S ⟨U,u,F2₁,rfl,V,y,A,W,X,am,ht⟩
   have l:=(yp z ht)
   refine gL l 2 ?_
   cases B:(U:Bool)
   . skip
     subst B
     have C:=yc [_,_] _ l
     refine gf l 8 ?_
     refine cl OE (NC fb nb m ed u S (yd C (i:=0) rfl) (by first|exact hm|omega) hb A F2₁ y (a+1) o_ o_) ?_
     rintro _ Y ⟨rfl,o,Z,aa,p,ab,ht⟩
     have D:=(yp C ht)
     have ac:o.length=m:=by have:=p.len;omega
     have ad:ga (kE o (a+1)):=ab.lead o_
     have an:(kE o (a+1)).length=m:=(ug _ _).trans ac
     have E:=yc [_,_] _ D
     refine fQ D 7 ?_
     refine cl zX (zG fb nb m ed (kE o (a+1)) Y (yd E (i:=0) rfl) (by first|exact hm|omega) hb ad ((.nd Z (a+1) .nil,0) :: aa) p.C8.fo (b+1) o_ o_) ?_
     rintro _ ao ⟨l₁,rfl,f,ap,aq,q,ae,ht⟩
     have G:=(yp E ht)
     have au:f.length=m:=by have:=q.len;omega
     refine fQ G 12 ?_
     refine jE (o' := (a+1)*9+0) (i:=(a:Int)+1) rfl rfl rfl yk iW (o9 (show (a+1)<(f).length from om)) o_ (fa (o' := (a+1)*9+2) rfl rfl yj rfl gn rfl (me (L' := [blk fb 265 (Zm fb nb m ed),blk nb 269 ((fR f (a+1) (fun x=>{ x with up:=(b+1) })).flatMap Nd.cells),iB .i64 (tQ s) 3 ([(a:Int),(b:Int)])]) 1 rfl rfl rfl rfl gn rfl rfl G rfl (jQ (cf:=Nd.cells) (sz:=9) (k:=(a+1)) (off:=2) (n:=1) f_ om (za rfl)) (jP (cf:=Nd.cells) (sz:=9) (k:=(a+1)) (off:=2) f_ om rfl (za rfl)) rfl ?_))
     intro av H aw
     have af:ga (fR f (a+1) (fun x=>{ x with up:=(b+1) })):=ga.iF ae om (fun x a b c d e=>⟨a,b,om,d,e⟩)
     refine gL H 3 ?_
     refine jN H 21 ?_ (hA:=by refine' gI 6 ?k0;case k0=>refine' gq (fun wq hM=>rv (pW (o' := (b+1)*9+0) (i:=(b:Int)+1) rfl rfl yk iW (o9 (show (b+1)<(fR f (a+1) (fun x=>{ x with up:=(b+1) })).length from om)) o_)) ?k1;case k1=>refine' gI 8 ?k2;case k2=>refine' gq (fun wq hM=>rv (pW (o' := (a+1)*9+0) (i:=(a:Int)+1) rfl rfl yk iW (o9 (show (a+1)<(fR f (a+1) (fun x=>{ x with up:=(b+1) })).length from om)) o_)) ?k3;case k3=>refine' gI 2 ?k4;case k4=>refine' gq (fun wq hM=>rv (kV (e:=(IntKind.i64.wrap ((fM (fR f (a+1) (fun x=>{ x with up:=(b+1) })) (b+1)).iP+(fM (fR f (a+1) (fun x=>{ x with up:=(b+1) })) (a+1)).total))) rfl rfl rfl rfl)) ?k5;case k5=>refine' gq (fun wq hM=>rv (pW (o' := (b+1)*9+0) (i:=(b:Int)+1) rfl rfl yk iW (o9 (show (b+1)<(fR f (a+1) (fun x=>{ x with up:=(b+1) })).length from om)) o_)) ?k6;case k6=>exact iA)
     intro wq hM
     refine nu (L' := [blk fb 265 (Zm fb nb m ed),blk nb 269 ((fR (fR f (a+1) (fun x=>{ x with up:=(b+1) })) (b+1) (fun x=>{ x with iP:=(IntKind.i64.wrap ((fM (fR f (a+1) (fun x=>{ x with up:=(b+1) })) (b+1)).iP+(fM (fR f (a+1) (fun x=>{ x with up:=(b+1) })) (a+1)).total)) })).flatMap Nd.cells),iB .i64 (tQ s) 3 ([(a:Int),(b:Int)])]) 1 rfl rfl rfl rfl gn rfl rfl hM rfl (oS (jQ (cf:=Nd.cells) (sz:=9) (k:=(b+1)) (off:=7) (n:=1) f_ om (za rfl))) (jP (cf:=Nd.cells) (sz:=9) (k:=(b+1)) (off:=7) f_ om rfl (za rfl)) rfl (fun _ h=>(jM h (fun ag I=>?_)))
     have J:ga (fR (fR f (a+1) (fun x=>{ x with up:=(b+1) })) (b+1) (fun x=>{ x with iP:=(IntKind.i64.wrap ((fM (fR f (a+1) (fun x=>{ x with up:=(b+1) })) (b+1)).iP+(fM (fR f (a+1) (fun x=>{ x with up:=(b+1) })) (a+1)).total)) })):=ga.iF af om (fun x a b c d e=>⟨a,b,c,d,e⟩)
     have K:=yc [_,_] _ I
     refine ng tt none I 6 ?_
     refine cl l8 (l7 fb nb m ed (fR (fR f (a+1) (fun x=>{ x with up:=(b+1) })) (b+1) (fun x=>{ x with iP:=(IntKind.i64.wrap ((fM (fR f (a+1) (fun x=>{ x with up:=(b+1) })) (b+1)).iP+(fM (fR f (a+1) (fun x=>{ x with up:=(b+1) })) (a+1)).total)) })) ag (yd K (i:=0) rfl) oa hb J (b+1) om) ?_
     rintro _ ax ⟨rfl,ht⟩
     have L:=(yp K ht)
     have ah:ga (iK (fR (fR f (a+1) (fun x=>{ x with up:=(b+1) })) (b+1) (fun x=>{ x with iP:=(IntKind.i64.wrap ((fM (fR f (a+1) (fun x=>{ x with up:=(b+1) })) (b+1)).iP+(fM (fR f (a+1) (fun x=>{ x with up:=(b+1) })) (a+1)).total)) })) (b+1)):=ga.lS J om
     refine fQ L 8 ?_
     refine ar (e:=(IntKind.i64.wrap (ed+1))) rfl rfl rfl rfl rfl (mR L 11 fun ay ai=>?_)
     refine gw (v:=Zc) Tryz.results165 rfl ?_
     have hnJ:¬ tc u F2₁ (a+1) (b+1):=fun h9=>by have h8:=V.2 ((X _ _).1 h9);cases h8
     obtain⟨R3,hR3⟩:=Wc y p q hnJ o_ o_ o_ o_
     have hk9:=TY (q.fo.perm (hR3.cons _))
     have e9:qw f (a+1) (b+1)=iK (fR (fR f (a+1) (fun x=>{ x with up:=(b+1) })) (b+1) (fun x=>{ x with iP:=(IntKind.i64.wrap ((fM (fR f (a+1) (fun x=>{ x with up:=(b+1) })) (b+1)).iP+(fM (fR f (a+1) (fun x=>{ x with up:=(b+1) })) (a+1)).total)) })) (b+1):=rfl
     exact⟨_,_,iK (fR (fR f (a+1) (fun x=>{ x with up:=(b+1) })) (b+1) (fun x=>{ x with iP:=(IntKind.i64.wrap ((fM (fR f (a+1) (fun x=>{ x with up:=(b+1) })) (b+1)).iP+(fM (fR f (a+1) (fun x=>{ x with up:=(b+1) })) (a+1)).total)) })) (b+1),_,rfl,hk9.1,ah,by rw[<-e9,hk9.2.1];have h7:=q.len;have h8:=p.len;rw[ug]at h7;omega,yq (yc [_,_] _ ai)⟩
   . skip
     subst B
     refine jm l 8 ?_
     refine gw (v:=(.int .i64 6)) Tryz.results165 rfl ?_
     exact⟨_,ed,u,_,rfl,y,A,W,yq (yc [_,_] _ l)⟩
theorem Yg(fb nb m:Nat)(ed:Int)(xs:List Nd)(w:World)(hO:Own (Zh fb nb m ed xs) w)(hm:xs.length=m)(hb:m<=1000001)(hI:ga xs)(F:FT)(hF:Fo xs F)(a b:Nat)(ha:a+1<m)(hb2:b+1<m) :
 CR ya 155 (Z2 fb a b) w (fun r w' => ∃ e ed', ∃ zs F2,r = .int .i64 e/\Fo zs F2/\ga zs/\zs.length=m/\gm (Zh fb nb m ed xs) w w' (Zh fb nb m ed' zs)):=by
 refine en Tryz.func155 Tryz.ntmps155 ?_
 have hst0:=(y8 hO).unpack
 refine gf hst0 11 ?_
 refine lC (vs:=(Zi a b)) (cs:=(Zi a b)) rfl rfl yh gn rfl (by simp[Value.cells]) rfl rfl rfl hst0 (fun l I X Y p=>cl IX (H8 fb nb m ed I (p.at (i:=1) rfl) hb (tQ l) [a,b] (yR p (i:=0) rfl (DN (m:=m) (P:=[a,b]) (by intro j hj;simp at hj;omega) hb)).any (by intro j hj;simp at hj;omega)) ?_)
 rintro _ J ⟨rfl,K⟩
 have t:=jf p K
 have L:=yi [1,2,0] t
 have u:=yc [_,_] _ L
 refine fQ t 18 ?_
 refine cl Yc (WA fb nb m ed xs J (yd u (i:=0) rfl) (by first|exact hm|omega) hb hI F hF a b o_ o_) ?_
 rintro _ M ⟨N,y,F2₁,rfl,q,z,O,Q,ht⟩
 have g:=(yp u ht)
 by_cases Z:(N:Int)=(1:Int)
 . have A:=yc [_,_] _ g
   refine fQ g 13 ?_
   refine cl Jj (Iq fb nb m ed y M (yd A (i:=0) rfl) (by first|exact hm|omega) hb z F2₁ q (a+1) (b+1) o_ o_ o_ o_) ?_
   rintro _ aa ⟨rfl,ab,ac,ad,f,ae,af,s,h,R,ht⟩
   have B:=(yp A ht)
   have ag:f.length=m:=by have h7:=h.len;have h8:=s.len;rw[ug]at h7;omega
   refine fQ B 10 ?_
   refine jE (o' := (a+1)*9+0) (i:=(a:Int)+1) rfl rfl rfl yk iW (o9 (show (a+1)<(f).length from om)) o_ (fa (o' := (a+1)*9+2) rfl rfl yj rfl gn rfl (me (L' := [blk fb 265 (Zm fb nb m ed),blk nb 269 ((fR f (a+1) (fun x=>{ x with up:=0 })).flatMap Nd.cells),iB .i64 (tQ l) 3 ([(a:Int),(b:Int)])]) 1 rfl rfl rfl rfl gn rfl rfl B rfl (jQ (cf:=Nd.cells) (sz:=9) (k:=(a+1)) (off:=2) (n:=1) f_ om (za rfl)) (jP (cf:=Nd.cells) (sz:=9) (k:=(a+1)) (off:=2) f_ om rfl (za rfl)) rfl ?_))
   intro ah C ai
   have S:ga (fR f (a+1) (fun x=>{ x with up:=0 })):=ga.iF R om (fun x a b c d e=>⟨a,b,om,d,e⟩)
   refine fQ C 10 ?_
   refine jE (o' := (b+1)*9+0) (i:=(b:Int)+1) rfl rfl rfl yk iW (o9 (show (b+1)<(fR f (a+1) (fun x=>{ x with up:=0 })).length from om)) o_ (fa (o' := (b+1)*9+0) rfl rfl yj rfl lU rfl (mA (o:=(b+1)*9+0) (o' := (b+1)*9+0) (i:=0) rfl rfl rfl yt gn d_ rfl (me (L' := [blk fb 265 (Zm fb nb m ed),blk nb 269 ((fR (fR f (a+1) (fun x=>{ x with up:=0 })) (b+1) (fun x=>{ x with k0:=0 })).flatMap Nd.cells),iB .i64 (tQ l) 3 ([(a:Int),(b:Int)])]) 1 rfl rfl rfl rfl gn rfl rfl C rfl (jQ (cf:=Nd.cells) (sz:=9) (k:=(b+1)) (off:=0) (n:=1) f_ om (za rfl)) (jP (cf:=Nd.cells) (sz:=9) (k:=(b+1)) (off:=0) f_ om rfl (za rfl)) rfl ?_)))
   intro U D aj
   have E:ga (fR (fR f (a+1) (fun x=>{ x with up:=0 })) (b+1) (fun x=>{ x with k0:=0 })):=ga.iF S om (fun x a b c d e=>⟨om,b,c,d,e⟩)
   have G:=yc [_,_] _ D
   refine fQ D 7 ?_
   refine cl l8 (l7 fb nb m ed (fR (fR f (a+1) (fun x=>{ x with up:=0 })) (b+1) (fun x=>{ x with k0:=0 })) U (yd G (i:=0) rfl) oa hb E (b+1) om) ?_
   rintro _ ak ⟨rfl,ht⟩
   have H:=(yp G ht)
   have V:ga (iK (fR (fR f (a+1) (fun x=>{ x with up:=0 })) (b+1) (fun x=>{ x with k0:=0 })) (b+1)):=ga.lS E om
   refine fQ H 8 ?_
   refine ar (e:=(IntKind.i64.wrap (ed-1))) rfl rfl rfl rfl rfl (mR H 11 fun al W=>?_)
   refine gw (v:=Zc) Tryz.results155 rfl ?_
   obtain⟨b9,R9,hF9,hs9⟩:=Q o_
   subst hF9
   obtain⟨hb9,ha9⟩:=Vj q hs9 s h
   have hf9:=h.fo
   rw[hb9]at hf9
   have hu9:=Sk hf9
   have e9:ux f (a+1) (b+1)=iK (fR (fR f (a+1) (fun x=>{ x with up:=0 })) (b+1) (fun x=>{ x with k0:=0 })) (b+1):=rfl
   exact⟨_,_,iK (fR (fR f (a+1) (fun x=>{ x with up:=0 })) (b+1) (fun x=>{ x with k0:=0 })) (b+1),_,rfl,hu9.1,V,by rw[<-e9,hu9.2.1];have h7:=h.len;have h8:=s.len;rw[ug]at h7;omega,yq (yc [_,_] _ W)⟩
 . refine fW g 11 ?_
   refine gw (v:=wJ) Tryz.results155 rfl ?_
   exact⟨_,ed,y,_,rfl,q,z,O,yq (yc [_,_] _ g)⟩
end
section
open Go Go.Sx
theorem UG(n:Nat)(w:World)(hn:n<=65536) :
 CR ya 83 (sM n) w (fun r w' => ∃ fb nb,r = .tuple (qS fb)/\gm (gF []) w w' (gF (Rr fb nb (n+1) (mN n n)))):=by
 refine en Tryz.func83 Tryz.ntmps83 ?_
 have hst0:=jO w
 refine gf hst0 10 ?_
 refine cmp rfl rfl rfl (mL o_) (fQ hst0 2 ?_)
 refine cmp rfl rfl rfl (uA o_) (fQ hst0 10 ?_)
 refine E4 (cf:=Nd.cells) (z0:=vu) (m:=n+1) (c:=n+1) rfl (gD o_) (gD o_) yk iW rfl f_ d_ (zp _) o_ o_ hst0 ?_
 intro a f p q g
 have h:St [(w,[])] [blk a 269 ((mN n 0).flatMap Nd.cells)] f:=by rw[TP];exact g
 refine kf (pvs:=[(1,(Zv a (n+1)))]) (v:=.agg (QF a (n+1))) rfl rfl (jS [(1,(F9 a (n+1)))] JE aap rfl ⟨rfl,rfl,trivial⟩ rfl) (bx (v:=(.agg (QF a (n+1)))) (cs:=[Z6,(Zv a (n+1)),Zc]) rfl rfl rfl h (fun b s t u j=>yU j 20 fun x l=>?_))
 refine lp (α:=Nat) (fun k=>[(4,(Zb b)),(21,(Za n)),(22,(Za k))]) (fun k w1=>St [(w,[])] (Rr b a (n+1) (mN n k)) w1/\k<=n) (fun k=>n-k) 0 ⟨rfl,rfl,gD (by first|rfl|omega),trivial⟩ (⟨l,o_⟩) ?_
 rintro k y o ⟨hst9,hk9⟩
 refine gf hst9 2 ?_
 by_cases z:((k:Int):Int)<((n:Int):Int)
 . have d:=yc [_,_] [] hst9
   refine fQ hst9 19 ?_
   refine cl l8 (l7 b a (n+1) 0 (mN n k) o (yd d (i:=0) rfl) (pJ n k) o_ (NO o_) (k+1) o_) ?_
   rintro _ A ⟨rfl,ht⟩
   rw[TN (show k<n by omega)]at ht
   have e:=(yp d ht)
   refine fW e 7 ?_
   refine tN (?_)
   exact again (k+1) ⟨rfl,rfl,gD (by first|rfl|omega),trivial⟩ (⟨e,o_⟩) (by show (n-(k+1):Nat)<n-k;omega)
 . refine fW hst9 18 ?_
   refine jU (v:=(Zb b)) (v' := Zc) Tryz.results83 rfl rfl ?_
   obtain rfl:k=n:=by omega
   exact⟨b,a,rfl,St.eM (yc [_,_] [] hst9)⟩
end
section
open Go Go.Sx
def lG(fb nb m:Nat):gh where
 gT:=[fb,nb]
 holds w:=∃ (ed:Int) (xs:List Nd) (F:FT),(xs.length=m/\ga xs/\Fo xs F)/\(Zh fb nb m ed xs).holds w
 loc w w' h hh:=by
  obtain⟨ed,xs,F,h1,h2⟩:=hh
  exact⟨ed,xs,F,h1,(Zh fb nb m ed xs).loc w w' (fun b hb=>h b (by simpa[gF,iT,blk]using hb)) h2⟩
theorem vF(fb nb m:Nat)(ed:Int)(xs:List Nd):(Zh fb nb m ed xs).gT=(lG fb nb m).gT:=by simp[gF,iT,blk,lG]
theorem D3{fb nb m:Nat}{w:World}(h:Own (lG fb nb m) w):∃ (ed:Int) (xs:List Nd) (F:FT),xs.length=m/\ga xs/\Fo xs F/\Own (Zh fb nb m ed xs) w:=by
 obtain⟨ed,xs,F,⟨h1,h2,h3⟩,h4⟩:=h.holds
 exact⟨ed,xs,F,h1,h2,h3,h4,by rw[vF];exact h.nodup,fun b hb=>h.lt b (by rw[vF]at hb;exact hb)⟩
theorem DO{fb nb m:Nat}{w w' : World}{ed ed' : Int}{xs zs:List Nd}{F:FT}(h:gm (Zh fb nb m ed xs) w w' (Zh fb nb m ed' zs))(h1:zs.length=m)(h2:ga zs)(h3:Fo zs F):gm (lG fb nb m) w w' (lG fb nb m) :=
 ⟨⟨ed', zs,F,⟨h1,h2,h3⟩,h.holds⟩,by have:=h.gK;rw[vF]at this;exact this,fun b hb=>by have:=h.place b (by rw[vF];exact hb);rw[vF]at this;exact this,by have:=h.nodup;rw[vF]at this;exact this,fun b hb=>h.lt b (by rw[vF];exact hb)⟩
theorem RZ{fb nb m:Nat}{w w' : World}{ed:Int}{xs:List Nd}{F:FT}(h:gm (gF []) w w' (Zh fb nb m ed xs))(h1:xs.length=m)(h2:ga xs)(h3:Fo xs F):gm (gF []) w w' (lG fb nb m) :=
 h.E6 (vF fb nb m ed xs).symm fun hh=>⟨ed,xs,F,⟨h1,h2,h3⟩,hh⟩
theorem N5(fb nb m:Nat)(w:World)(hO:Own (lG fb nb m) w)(hb:m<=1000001)(a:Nat)(ha:a+1<m)(key:Int)(hk:ij .i64 key) :
 CR ya 84 (Z2 fb a key) w (fun r w' => r = .int .i64 0/\gm (lG fb nb m) w w' (lG fb nb m)):=by
 obtain⟨ed,xs,F,h1,h2,h3,hO2⟩:=D3 hO
 exact CR.mono (Yv fb nb m ed xs w hO2 h1 hb h2 F h3 a ha key hk) fun r w' ⟨e,zs,F2,h4,h5,h6,ht⟩=>⟨e,DO ht h6 h5 h4⟩
theorem WX(fb nb m:Nat)(w:World)(hO:Own (lG fb nb m) w)(hb:m<=1000001)(a b:Nat)(ha:a+1<m)(hb2:b+1<m) :
 CR ya 112 (Z2 fb a b) w (fun r w' => ∃ (f:Nat) (B:Bool),r = .tuple (ve f B)/\f+1<m/\gm (lG fb nb m) w w' (lG fb nb m)):=by
 obtain⟨ed,xs,F,h1,h2,h3,hO2⟩:=D3 hO
 exact CR.mono (XO fb nb m ed xs w hO2 h1 hb h2 F h3 a b ha hb2) fun r w' ⟨f,B,zs,F2,e,hf,h4,h5,h6,ht⟩=>⟨f,B,e,hf,DO ht h6 h5 h4⟩
theorem M5(fb nb m:Nat)(w:World)(hO:Own (lG fb nb m) w)(hb:m<=1000001)(a b:Nat)(ha:a+1<m)(hb2:b+1<m) :
 CR ya 165 (Z2 fb a b) w (fun r w' => ∃ e:Int,r = .int .i64 e/\gm (lG fb nb m) w w' (lG fb nb m)):=by
 obtain⟨ed,xs,F,h1,h2,h3,hO2⟩:=D3 hO
 exact CR.mono (Wk fb nb m ed xs w hO2 h1 hb h2 F h3 a b ha hb2) fun r w' ⟨e,ed', zs,F2,he,h4,h5,h6,ht⟩=>⟨e,he,DO ht h6 h5 h4⟩
theorem Nz(fb nb m:Nat)(w:World)(hO:Own (lG fb nb m) w)(hb:m<=1000001)(a b:Nat)(ha:a+1<m)(hb2:b+1<m) :
 CR ya 155 (Z2 fb a b) w (fun r w' => ∃ e:Int,r = .int .i64 e/\gm (lG fb nb m) w w' (lG fb nb m)):=by
 obtain⟨ed,xs,F,h1,h2,h3,hO2⟩:=D3 hO
 exact CR.mono (Yg fb nb m ed xs w hO2 h1 hb h2 F h3 a b ha hb2) fun r w' ⟨e,ed', zs,F2,he,h4,h5,h6,ht⟩=>⟨e,he,DO ht h6 h5 h4⟩
end
section
open Go Go.Sx
def QS.R(hb n:Nat)(s:QS):gh:=jZ (s.ok n) (gF [blk hb 262 [(Zb hb),(Za n),s.iv,s.pv],fV gj.cells s.iv 111 2 s.fP,fV gN s.pv 277 1 s.ps,gG gP 279 64 s.ps s.pl])
def QS.SR(sb hb n:Nat)(s:QS):gh:=gF [blk sb 166 (qL n hb),(QS.R hb n s)]
abbrev wR(a:WW)(b:Nat):=(QS.SR a.sb a.hb b a.q:gh)
abbrev FK a (b c d:Nat) (e:Int) (f g:Nat) h:=(gF [a,blk b 80 (Zj c),blk d 2 (Ze e),blk c 166 (qL f g),QS.R g f h]:gh)
abbrev AM(a b c:Nat)(d:Int)(e:Nat)(f:Int)(g h:Nat) i:=(gF [blk a 80 (Zj b),blk c 3 (Ze d),blk e 2 (Ze f),blk b 166 (qL g h),QS.R h g i]:gh)
theorem NZ(n:Nat)(w:World)(hn:n<=65536) :
 CR ya 82 (sM n) w (fun r w' => ∃ hb s,r = .tuple (qS hb)/\s.fP=[]/\gm (gF []) w w' (QS.R hb n s)) :=
 CR.mono (W3 n w hn) fun r w' ⟨hb,pv,h1,ht⟩=>⟨hb,⟨.slice none 0 0,pv,List.replicate ((n+63) / 64) none,[],List.replicate (64*((n+63) / 64)) 0⟩,h1,rfl,ht.oC ⟨Hp.new rfl,js.new hn rfl,Ord.nil⟩⟩
theorem VG(hb n:Nat)(s:QS)(w:World)(hO:Own (QS.R hb n s) w)(i:Nat)(hi:i<n)(hf:∀ e∈s.fP,e.ix≠i) :
 CR ya 157 (Zn hb i) w (fun r w' => r = .tuple K9/\gm (QS.R hb n s) w w' (QS.R hb n s)) :=
 CR.mono (VR hb n s.iv s.pv s.ps s.fP s.pl w hO.un hO.fact.hp hO.fact.kG i hi (hO.fact.free hi hf)) fun r w' ⟨h1,ht⟩=>⟨h1,ht.qd hO.fact⟩
theorem U8(hb n:Nat)(s:QS)(w:World)(hO:Own (QS.R hb n s) w)(i:Nat)(hi:i<n)(hf:∀ e∈s.fP,e.ix≠i)(key:Int)(hk:ij .i64 key) :
 CR ya 110 (Z2 hb i key) w (fun r w' => ∃ s2,r = .int .i64 0/\(∀ e,e∈s2.fP↔e∈s.fP\/e=⟨i,key⟩)/\gm (QS.R hb n s) w w' (QS.R hb n s2)) :=
 CR.mono (MT hb n s.iv s.pv s.ps s.fP s.pl w hO.un hO.fact.hp hO.fact.kG hO.fact.ord i hi (hO.fact.free hi hf) key hk) fun r w' ⟨h1,jv,qs,ys,zl,a,b,c,d,_,_,ht⟩=>⟨⟨jv,s.pv,qs,ys,zl⟩,h1,d,ht.qd ⟨a,b,c⟩⟩
theorem Ta(hb n:Nat)(s:QS)(w:World)(hO:Own (QS.R hb n s) w)(i:Nat)(hi:i<n)(key:Int)(hk:ij .i64 key) :
 CR ya 110 (Z2 hb i key) w (fun r w' => ∃ z s2,r = .int .i64 z/\gm (QS.R hb n s) w w' (QS.R hb n s2)):=by
 rcases wK (fM s.pl i)with h0|h0
 . exact CR.mono (MT hb n s.iv s.pv s.ps s.fP s.pl w hO.un hO.fact.hp hO.fact.kG hO.fact.ord i hi h0 key hk) fun r w' ⟨h1,jv,qs,ys,zl,a,b,c,d,_,_,ht⟩=>⟨0,⟨jv,s.pv,qs,ys,zl⟩,h1,ht.qd ⟨a,b,c⟩⟩
 . exact CR.mono (Tw hb n s.iv s.pv s.ps s.fP s.pl w hO.un hO.fact.hp hO.fact.kG i hi (fM s.pl i-1) o_ key) fun r w' ⟨h1,ht⟩=>⟨6,s,h1,ht.qd hO.fact⟩
theorem MR(hb n:Nat)(s:QS)(w:World)(hO:Own (QS.R hb n s) w)(h0:s.fP.length=0) :
 CR ya 90 (Zl hb) w (fun r w' => r = .tuple CS/\gm (QS.R hb n s) w w' (QS.R hb n s)) :=
 CR.mono (Nh hb n s.iv s.pv s.ps s.fP s.pl w hO.un hO.fact.hp hO.fact.kG h0) fun r w' ⟨h1,ht⟩=>⟨h1,ht.qd hO.fact⟩
theorem M7(hb n:Nat)(s:QS)(w:World)(hO:Own (QS.R hb n s) w)(h0:0<s.fP.length) :
 CR ya 90 (Zl hb) w (fun r w' => r = .tuple (C0 ((fM s.fP 0).ix:Int) ((fM s.fP 0).key))/\gm (QS.R hb n s) w w' (QS.R hb n s)) :=
 CR.mono (M3 hb n s.iv s.pv s.ps s.fP s.pl w hO.un hO.fact.hp hO.fact.kG h0) fun r w' ⟨h1,ht⟩=>⟨h1,ht.qd hO.fact⟩
theorem Wd(hb n:Nat)(s:QS)(w:World)(hO:Own (QS.R hb n s) w)(h0:s.fP.length=0) :
 CR ya 103 (Zl hb) w (fun r w' => r = .tuple CS/\gm (QS.R hb n s) w w' (QS.R hb n s)) :=
 CR.mono (VP hb n s.iv s.pv s.ps s.fP s.pl w hO.un hO.fact.hp hO.fact.kG h0) fun r w' ⟨h1,ht⟩=>⟨h1,ht.qd hO.fact⟩
theorem Nn(hb n:Nat)(s:QS)(w:World)(hO:Own (QS.R hb n s) w)(h0:0<s.fP.length) :
 CR ya 103 (Zl hb) w (fun r w' => ∃ s2,r = .tuple (C0 ((fM s.fP 0).ix:Int) ((fM s.fP 0).key))/\((∀ e,e∈s2.fP↔e∈s.fP/\e.ix≠(fM s.fP 0).ix)/\s2.fP.length+1=s.fP.length)/\gm (QS.R hb n s) w w' (QS.R hb n s2)) :=
 CR.mono (VU hb n s.iv s.pv s.ps s.fP s.pl w hO.un hO.fact.hp hO.fact.kG hO.fact.ord h0) fun r w' ⟨h1,jv,qs,ys,zl,a,b,c,d,_,f,ht⟩=>⟨⟨jv,s.pv,qs,ys,zl⟩,h1,⟨d,f⟩,ht.qd ⟨a,b,c⟩⟩
theorem VN(hb n:Nat)(s:QS)(w:World)(hO:Own (QS.R hb n s) w) :
 CR ya 96 (Zl hb) w (fun r w' => ∃ hb2 s2,r = .pointer (some ⟨hb2,0,none⟩)/\s2.fP=s.fP/\gm (QS.R hb n s) w w' (gF [QS.R hb n s,QS.R hb2 n s2])) :=
 CR.mono (Vv hb n s.iv s.pv s.ps s.fP s.pl w hO.un hO.fact.hp hO.fact.kG) fun r w' ⟨hb2,iv2,pv2,qs,h1,h2,_,ht⟩=>⟨hb2,⟨iv2,pv2,qs,s.fP,s.pl⟩,h1,rfl,(gm.EH (A:=[blk hb 262 [(.pointer (some ⟨hb,0,none⟩)),(.int .i64 n),s.iv,s.pv],fV gj.cells s.iv 111 2 s.fP,fV gN s.pv 277 1 s.ps,gG gP 279 64 s.ps s.pl]) (B:=[blk hb2 262 [(.pointer (some ⟨hb2,0,none⟩)),(.int .i64 n),iv2,pv2],fV gj.cells iv2 111 2 s.fP,fV gN pv2 277 1 qs,gG gP 279 64 qs s.pl]) ht).F4.E6 rfl (fun h=>by
  intro Q hQ
  simp only[zg,sw,or_false]at hQ
  rcases hQ with rfl|rfl
  . exact⟨hO.fact,h _ s_⟩
  . exact⟨⟨hO.fact.hp,h2,hO.fact.ord⟩,h _ s_⟩)⟩
end
section
open Go Go.Sx
theorem BH(sb hb n:Nat)(s:QS)(w:World)(hO:Own (QS.SR sb hb n s) w) :
 CR ya 89 (Zl sb) w (fun r w' => r = .bool true/\gm (QS.SR sb hb n s) w w' (QS.SR sb hb n s)):=by
 refine en Tryz.func89 Tryz.ntmps89 ?_
 have hst0:=Own.of hO
 have hok:=(kj hst0 (i:=1) rfl:s.ok n)
 refine gf hst0 8 ?_
 refine qR (a:=some ⟨sb,0,none⟩) (c:=true) rfl rfl rfl Tryz.underlying80 rfl (fQ hst0 5 ?_)
 refine qR (a:=some ⟨hb,0,none⟩) (c:=true) rfl rfl rfl CM rfl (fW hst0 5 ?_)
 refine gw (v:=Zf) Tryz.results89 rfl ?_
 exact⟨rfl,yq (yc [_,_] _ hst0)⟩
theorem Xz(n:Nat)(w:World)(hn:n<=65536) :
 CR ya 40 (sM n) w (fun r w' => ∃ sb hb s,r = .tuple (qS sb)/\s.fP=[]/\gm (gF []) w w' (QS.SR sb hb n s)):=by
 refine en Tryz.func40 Tryz.ntmps40 ?_
 have hst0:=jO w
 refine gf hst0 9 ?_
 refine cl OZ (NZ n w hn) ?_
 rintro _ g ⟨a,e,rfl,f,ht⟩
 have b:=(pn hst0 ht)
 refine fQ b 21 ?_
 refine kf (pvs:=[(0,(Za n)),(1,(Zb a))]) (v:=.agg #[(Za n),(Zb a)]) rfl rfl (jS [(0,(Ze n)),(1,(Zj a))] JK PT rfl ⟨rfl,rfl,rfl,rfl,trivial⟩ rfl) (bx (v:=(Fz n a)) (cs:=(qL n a)) rfl rfl rfl b (fun c h i j d=>fW d 5 ?_))
 refine jU (v:=(Zb c)) (v' := Zc) Tryz.results40 rfl rfl ?_
 exact⟨c,a,e,rfl,f,St.eM (yc [_,_] _ d)⟩
theorem UD(sb hb n:Nat)(s:QS)(w:World)(hO:Own (QS.SR sb hb n s) w)(h0:s.fP.length=0) :
 CR ya 45 (Zl sb) w (fun r w' => r = .tuple CS/\gm (QS.SR sb hb n s) w w' (QS.SR sb hb n s)):=by
 refine en Tryz.func45 Tryz.ntmps45 ?_
 have hst0:=Own.of hO
 have hok:=(kj hst0 (i:=1) rfl:s.ok n)
 refine gf hst0 2 ?_
 refine al (cs:=Z5) rfl iw rfl hst0 ?_
 intro k e l m b
 have f:=yi [1,2,0] b
 have c:=yc [_,_] _ f
 refine fQ b 7 ?_
 refine cl Ce (BH sb hb n s e (yd c (i:=0) rfl)) ?_
 rintro _ g ⟨rfl,ht⟩
 have h:=yu 0 c ht
 have a:=mG h
 refine fQ a 12 ?_
 refine cl Ah (MR hb n s g (yd a (i:=1) rfl) h0) ?_
 rintro _ p ⟨rfl,ht⟩
 have j:=yu 1 a ht
 refine mR j 7 fun q d=>?_
 refine rz (v:=Kt) (v' := Zq) Tryz.results45 (qj (cs:=Z5) rfl yr rfl iw rfl (kT d (i:=2) (o:=0) (vs:=Z5) rfl rfl)) (nU rfl) ?_
 exact⟨rfl,yq (yc [_,_] _ d)⟩
theorem Uj(sb hb n:Nat)(s:QS)(w:World)(hO:Own (QS.SR sb hb n s) w)(h0:0<s.fP.length) :
 CR ya 45 (Zl sb) w (fun r w' => r = .tuple (C0 ((fM s.fP 0).ix:Int) ((fM s.fP 0).key))/\gm (QS.SR sb hb n s) w w' (QS.SR sb hb n s)):=by
 refine en Tryz.func45 Tryz.ntmps45 ?_
 have hst0:=Own.of hO
 have hok:=(kj hst0 (i:=1) rfl:s.ok n)
 refine gf hst0 2 ?_
 refine al (cs:=Z5) rfl iw rfl hst0 ?_
 intro k e l m b
 have f:=yi [1,2,0] b
 have c:=yc [_,_] _ f
 refine fQ b 7 ?_
 refine cl Ce (BH sb hb n s e (yd c (i:=0) rfl)) ?_
 rintro _ g ⟨rfl,ht⟩
 have h:=yu 0 c ht
 have a:=mG h
 refine fQ a 12 ?_
 refine cl Ah (M7 hb n s g (yd a (i:=1) rfl) h0) ?_
 rintro _ p ⟨rfl,ht⟩
 have j:=yu 1 a ht
 refine mR j 7 fun q d=>?_
 refine rz (v:=(rG ((fM s.fP 0).ix:Int) ((fM s.fP 0).key))) (v' := Zf) Tryz.results45 (qj (cs:=(Zi ((fM s.fP 0).ix:Int) ((fM s.fP 0).key))) rfl yr rfl iw rfl (kT d (i:=2) (o:=0) (vs:=(Zi ((fM s.fP 0).ix:Int) ((fM s.fP 0).key))) rfl rfl)) (nU rfl) ?_
 exact⟨rfl,yq (yc [_,_] _ d)⟩
theorem Xq(b1 b2 b3 sb hb n:Nat)(s:QS)(w:World)(i:Nat)(hi:i<n)(hf:∀ e∈s.fP,e.ix≠i)(key:Int)(hk:ij .i64 key)(hO:Own (AM b1 sb b2 i b3 key n hb s) w) :
 CR ya 108 #[Zq,(Zb b1),(Zb b2),(Zb b3)] w (fun r w' => ∃ s2,r = .int .i64 0/\(∀ e,e∈s2.fP↔e∈s.fP\/e=⟨i,key⟩)/\gm (AM b1 sb b2 i b3 key n hb s) w w' (AM b1 sb b2 i b3 key n hb s2)):=by
 refine en Tryz.func108 Tryz.ntmps108 ?_
 have hst0:=Own.of hO
 refine wm hst0 15 ?_
 refine jN hst0 6 ?_
 intro wq hM
 refine kD rfl rfl (i6 rfl OW) (U8 hb n s wq (yd hM (i:=4) rfl) i hi hf key hk) ?_
 rintro _ _ ⟨c,rfl,hF1,ht1⟩
 refine jM (yu 4 hM (ht1.oC hF1)) (fun h d=>?_)
 have a:=yi [4,0,1,2,3] d
 have f:=nT a
 have b:=kB a
 refine iN tt none b 2 ?_
 refine gw (v:=Zc) Tryz.results108 rfl ?_
 have g:=yi [1,2,3,4,0] b
 exact⟨c,rfl,f,yq (yc [_,_,_,_,_] _ g)⟩
theorem U7(b1 b2 b3 sb hb n:Nat)(s:QS)(w:World)(i:Nat)(hi:i<n)(hf:∀ e∈s.fP,e.ix≠i)(key:Int)(hk:ij .i64 key)(hO:Own (AM b1 sb b2 i b3 key n hb s) w) :
 CR ya 107 #[(Zb sb),(Za i),(.func (.func 108) #[] #[(Zb b1),(Zb b2),(Zb b3)])] w (fun r w' => ∃ s2,r = .int .i64 0/\(∀ e,e∈s2.fP↔e∈s.fP\/e=⟨i,key⟩)/\gm (AM b1 sb b2 i b3 key n hb s) w w' (AM b1 sb b2 i b3 key n hb s2)):=by
 refine en Tryz.func107 Tryz.ntmps107 ?_
 have hst0:=Own.of hO
 have g:=yi [3,4,0,1,2] hst0
 have b:=yc [_,_] _ g
 refine gf hst0 9 ?_
 refine cl Ce (BH sb hb n s w (yd b (i:=0) rfl)) ?_
 rintro _ h ⟨rfl,ht⟩
 have j:=yu 0 b ht
 have a:=mG j
 refine fQ a 10 ?_
 refine cmp rfl rfl rfl (mL o_) (fQ a 6 ?_)
 refine cmp rfl rfl rfl (xK o_) (fQ a 13 ?_)
 refine cl Yb (VG hb n s h (yd a (i:=1) rfl) i hi hf) ?_
 rintro _ k ⟨rfl,ht⟩
 have c:=yu 1 a ht
 have l:=yi [2,3,4,0,1] c
 have d:=yc [_,_,_,_,_] _ l
 refine fQ c 11 ?_
 refine p9 (fi:=[]) (ca:=(Q2 b1 b2 b3)) rfl rfl rfl Yo (Xq b1 b2 b3 sb hb n s k i hi hf key hk (yd d (i:=0) rfl)) ?_
 rintro _ q ⟨m,rfl,o,ht⟩
 have p:=yu 0 d ht
 have f:=mG p
 refine fW f 4 ?_
 refine gw (v:=Zc) Tryz.results107 rfl ?_
 exact⟨m,rfl,o,yq (yc [_,_,_,_,_] _ f)⟩
theorem Xs(sb hb n:Nat)(s:QS)(w:World)(hO:Own (QS.SR sb hb n s) w)(i:Nat)(hi:i<n)(hf:∀ e∈s.fP,e.ix≠i)(key:Int)(hk:ij .i64 key) :
 CR ya 55 (Z2 sb i key) w (fun r w' => ∃ s2,r = .int .i64 0/\(∀ e,e∈s2.fP↔e∈s.fP\/e=⟨i,key⟩)/\gm (QS.SR sb hb n s) w w' (QS.SR sb hb n s2)):=by
 refine en Tryz.func55 Tryz.ntmps55 ?_
 have hst0:=Own.of hO
 have hok:=(kj hst0 (i:=1) rfl:s.ok n)
 refine gf hst0 2 ?_
 refine bx (v:=(Zb sb)) (cs:=(Zj sb)) rfl rfl rfl hst0 (fun a t u x h=>bx (v:=(Za i)) (cs:=(Ze i)) rfl rfl rfl h (fun b y z A j=>bx (v:=(Za key)) (cs:=(Ze key)) rfl rfl rfl j (fun c k B C d=>fQ d 7 ?_)))
 refine yY (vf:=[]) (vc:=(Q2 a b c)) rfl rfl rfl ?_
 have l:=yi [2,1,0,3,4] d
 have f:=yc [_,_,_,_,_] _ l
 refine cl Yf (U7 a b c sb hb n s k i hi hf key hk (yd f (i:=0) rfl)) ?_
 rintro _ D ⟨m,rfl,o,ht⟩
 have p:=yu 0 f ht
 have g:=mG p
 refine fW g 4 ?_
 refine gw (v:=Zc) Tryz.results55 rfl ?_
 have q:=yi [3,4,0,1,2] g
 exact⟨m,rfl,o,yq (yc [_,_] _ q)⟩
end
section
open Go Go.Sx
theorem Ys(sb:Nat)(now:Int)(w:World) :
 CR ya 97 (Zn sb now) w (fun r w' => ∃ xb tb,r = .func (.func 151) #[] (FP xb tb)/\gm (gF []) w w' (gF [blk xb 80 (Zj sb),blk tb 2 (Ze now)])):=by
 refine en Tryz.func97 Tryz.ntmps97 ?_
 have hst0:=jO w
 refine gf hst0 2 ?_
 refine bx (v:=(Zb sb)) (cs:=(Zj sb)) rfl rfl rfl hst0 (fun a f g h d=>bx (v:=(Za now)) (cs:=(Ze now)) rfl rfl rfl d (fun b i j k c=>fQ c 5 ?_))
 refine yY (vf:=[]) (vc:=(yH a b)) rfl rfl rfl (fW c 4 ?_)
 refine gw (v:=(.func (.func 151) #[] (FP a b))) Tryz.results97 rfl ?_
 have e:=yi [1,0] c
 exact⟨a,b,rfl,St.eM (yc [_,_] _ e)⟩
theorem WJ{γ:Type}(Cl:γ->gh)(pr:γ->List Nat)(z0:γ)(l xb tb sb hb n:Nat)(s:QS)(now:Int)(w:World)(hy:∀ (z:γ) (i:Nat) (bs:List (World×List Nat)) (L:List gh) (w:World),i<n->(pr z).length<=65536->St bs (Cl z :: L) w->YR ya l (Ze i) w (fun v w' => v = .bool true/\∃ z2,pr z2=pr z++[i]/\St bs (Cl z2 :: L) w'))(hz0:(pr z0).length=0)(hn:n<=65536)(hO:Own (FK (Cl z0) xb sb tb now n hb s) w) :
 CR ya 151 (Rg (.func (.yield l) #[] #[]) xb tb) w (fun r w' => ∃ z s2 ds,r = .tuple #[]/\pr z=pr z0++ds/\qG n s s2 ds now/\gm (FK (Cl z0) xb sb tb now n hb s) w w' (FK (Cl z) xb sb tb now n hb s2)):=by
 refine en Tryz.func151 Tryz.ntmps151 ?_
 have hst0:=Own.of hO
 have hok:=(kj hst0 (i:=4) rfl:s.ok n)
 refine wm hst0 1 ?_
 refine lp (α:=γ×QS) (fun(z,t)=>[(0,(.func (.yield l) #[] #[])),(1,(Zb xb)),(2,(Zb tb))]) (fun(z,t) w1=>St [(w,(FK (Cl z0) xb sb tb now n hb s).gT)] [(Cl z),blk xb 80 (Zj sb),blk tb 2 (Ze now),blk sb 166 (qL n hb),(QS.R hb n t)] w1/\∃ ds,uN s.fP t.fP ds now/\pr z=pr z0++ds) (fun(z,t)=>t.fP.length) (z0,s) ⟨rfl,rfl,rfl,trivial⟩ (⟨hst0,[],uN.start _ _,by rw[mD]⟩) ?_
 rintro⟨z,t⟩ D c ⟨hst3,ds,hI,hpz⟩
 have hkt:=(kj hst3 (i:=4) rfl:t.ok n)
 obtain⟨k,E⟩:∃ q,wK t.fP.length=q:=⟨_,rfl⟩
 refine gf hst3 7 ?_
 rcases k with h0|h0
 . skip
   refine cl Ah (MR hb n t c (yd hst3 (i:=4) rfl) h0) ?_
   rintro _ G ⟨rfl,ht⟩
   have d:=yu 4 hst3 ht
   refine fQ d 3 ?_
   refine al (cs:=Z5) rfl iw rfl d (fun H I J K m=>mR m 23 fun M o=>?_)
   refine Fh Tryz.results151 ?_
   have p:=yi [1,2,3,4,5,0] o
   have hdn:=hI.fin hok hkt (Or.inl h0)
   exact⟨z,t,ds,rfl,hpz,hdn,yq (yc [_,_,_,_,_] _ p)⟩
 . skip
   refine cl Ah (M7 hb n t c (yd hst3 (i:=4) rfl) h0) ?_
   rintro _ N ⟨rfl,ht⟩
   have e:=yu 4 hst3 ht
   refine fQ e 3 ?_
   refine al (cs:=Z5) rfl iw rfl e (fun O P Q S u=>kL u 13 fun x a=>?_)
   by_cases f:((fM t.fP 0).key:Int)>(now:Int)
   . have hkey:now<(fM t.fP 0).key:=by have h7:=@f;omega
     refine fW a 10 ?_
     refine Fh Tryz.results151 ?_
     have y:=yi [1,2,3,4,5,0] a
     have hdn:=hI.fin hok hkt (Or.inr hkey)
     exact⟨z,t,ds,rfl,hpz,hdn,yq (yc [_,_,_,_,_] _ y)⟩
   . have hkey:(fM t.fP 0).key<=now:=by have h7:=@f;omega
     refine fQ a 13 ?_
     refine cl OK (Nn hb n t x (yd a (i:=5) rfl) h0) ?_
     rintro _ U ⟨g,rfl,b,ht⟩
     have h:=yu 5 a ht
     have A:=yi [1,2,3,4,5,0] h
     have hxi:=hkt.lt (q6.2 ⟨0,h0,rfl⟩)
     have hpl9:(pr z).length<=65536:=by have h7:=hI.len;have h8:=hok.hp.len;rw[hpz,zn,hz0];omega
     refine fQ h 7 ?_
     refine yl (vl:=(Ze ((fM t.fP 0).ix:Int))) rfl rfl rfl (hy z (fM t.fP 0).ix _ _ _ hxi hpl9 A) ?_
     rintro _ V ⟨rfl,B,hz9,j⟩
     refine fW j 6 ?_
     refine tN (?_)
     have C:=yi [0,1,2,3,4] j
     exact again (B,g) ⟨rfl,rfl,rfl,trivial⟩ (⟨C,(ds++[(fM t.fP 0).ix]),hI.step h0 hkey b.1 b.2,by rw[hz9,hpz,lH]⟩) (by have h7:=b.2;show g.fP.length<t.fP.length;omega)
theorem Sg(ds:List Nat)(i:Nat):gx (ds++[i])=gx ds++[(i:Int)]:=by simp[gx]
theorem WU(sb hb n:Nat)(s:QS)(w:World)(hO:Own (QS.SR sb hb n s) w)(now:Int)(hn:n<=65536) :
 CR ya 48 (Zn sb now) w (fun r w' => ∃ v ds t,r=v/\qG n s t ds now/\gm (QS.SR sb hb n s) w w' (gF [(QS.SR sb hb n t),iB .i64 v 3 (gx ds)])):=by
 refine Ey (vs:=(FI sb now)) Tryz.func48 rfl Tryz.ntmps48 rfl ?_
 have hst0:=Own.of hO
 have hok:=(kj hst0 (i:=1) rfl:s.ok n)
 have f:=yc [_,_] _ hst0
 refine gf hst0 9 ?_
 refine cl Ce (BH sb hb n s w (yd f (i:=0) rfl)) ?_
 rintro _ M ⟨rfl,ht⟩
 have u:=yu 0 f ht
 have g:=mG u
 refine fQ g 8 ?_
 refine al (cs:=[Zk]) rfl ox rfl g (fun a x N O h=>fQ h 7 ?_)
 refine cl ZB (Ys sb now x) ?_
 rintro _ y ⟨c,d,rfl,ht⟩
 have j:=mG (pn h ht)
 have A:St _ [iB .i64 Zk 3 ([]),blk c 80 (Zj sb),blk d 2 (Ze now),blk a 115 [Zk],blk sb 166 (qL n hb),(QS.R hb n s)] y:=sI j 3 1
 have B:=yi [3,0,1,2,4,5] A
 have C:=B
 have D:=C
 refine gL j 3 ?_
 refine rf (α:=Value×List Nat×QS) (ps:=[13]) (fi:=[]) (ca:=(yH c d)) (fun(v,ds,t)=>[blk a 115 [v],iB .i64 v 3 (gx ds),blk c 80 (Zj sb),blk d 2 (Ze now),blk sb 166 (qL n hb),(QS.R hb n t)]) (fun(v,ds,t)=>qG n s t ds now) D rfl Yz ?_ ?_
 . intro fn dd l wl rc hrc hsl
   have E:=yi [0,2,3,4,5,6,7,1] hsl
   have hpk:=yc [jq l rc,blk a 115 [Zk],iB .i64 Zk 3 (gx ([]))] [blk c 80 (Zj sb),blk d 2 (Ze now),blk sb 166 (qL n hb),(QS.R hb n s),kR dd (some [])] E
   have hr1:rc.state = .ready:=by rw[hrc]
   have hr2:rc.pending=none:=by rw[hrc]
   have hround:∀ (z:Value×List Nat) (i:Nat) (bs:List (World×List Nat)) (L:List gh) (w:World),i<n->((Prod.snd:Value×List Nat->List Nat) z).length<=65536->St bs ((fun((v,ds):Value×List Nat)=>gF [jq l rc,blk a 115 [v],iB .i64 v 3 (gx ds)]) z :: L) w->YR ya l (Ze i) w (fun v w' => v = .bool true/\∃ z2,(Prod.snd:Value×List Nat->List Nat) z2=(Prod.snd:Value×List Nat->List Nat) z++[i]/\St bs ((fun((v,ds):Value×List Nat)=>gF [jq l rc,blk a 115 [v],iB .i64 v 3 (gx ds)]) z2 :: L) w'):=by
    intro z i bs LT wr hi hlz hsr
    have hsr:=hsr.unpack
    refine Kg (vl:=(Ze i)) 0 hrc hsr rfl rfl rfl (jm hsr 3 ?_)
    refine tN (?_)
    refine J5 0 hsr rfl hr1 rfl (fun P m=>gf m 4 ?_)
    refine lC (vs:=(Ze i)) (cs:=(Ze i)) rfl rfl yh gn rfl (by simp[Value.cells]) rfl rfl rfl m (fun G Q S U o=>JU (k:=.i64) (ys:=gx z.2) (zs:=[(i:Int)]) (LL:=fun b=>(iB .i64 (Zy G) 3 ([(i:Int)]) :: jq l { rc with state:=.busy } :: blk a 115 [z.1] :: iB .i64 b 3 ((gx z.2)++([(i:Int)])) :: LT)) 3 rfl rfl rfl yh gn rfl o rfl (mh o (i:=0) rfl) (by simp only[gx,zu,zk,zq,maxLen];first|omega|skip) (by simp only[gx,zu,zk,zq,maxLen];first|omega|skip) f_ ?_)
    intro b V H W
    have e:=St.sub (L' := (jq l { rc with state:=.busy } :: blk a 115 [z.1] :: iB .i64 b 3 ((gx z.2)++([(i:Int)])) :: LT)) H (List.Sublist.cons _ (List.Sublist.refl _))
    refine nq (L' := (jq l { rc with state:=.busy } :: blk a 115 [b] :: iB .i64 b 3 ((gx z.2)++([(i:Int)])) :: LT)) 1 rfl rfl rfl (cells_one (mS e (i:=2) rfl)) ox rfl (oW (mS e (i:=2) rfl) uJ) e rfl rfl rfl rfl (fun X p=>fW p 2 ?_)
    refine J9 0 p rfl hr1 hr2 rfl ?_
    intro Y I
    have hs7:=I
    rw[<-Sg]at hs7
    exact⟨_,rfl,rfl,(b,z.2++[i]),rfl,yc [_,_,_] _ hs7⟩
   have hpk2:=yc [_,_,_,_,_] _ hpk
   refine CR.mono (WJ (fun((v,ds):Value×List Nat)=>gF [jq l rc,blk a 115 [v],iB .i64 v 3 (gx ds)]) Prod.snd (.slice none 0 0,[]) l c d sb hb n s now wl hround rfl hn (yd hpk2 (i:=0) rfl)) ?_
   rintro _ w9 ⟨z,t,ds,-,hpz,hdn,hturn⟩
   have hs9:=(yp hpk2 hturn).unpack
   have J:=yi [0,7,1,2,3,4,5,6] hs9
   exact⟨(z.1,z.2,t),by rw[show z.2=ds by simpa using hpz];exact hdn,J⟩
 . rintro⟨v,ds,t⟩ dd Z hC q
   refine iN tt none q 9 ?_
   refine Eu 0 q rfl rfl ?_
   intro w8 hs8
   have K:=yi [5,6,2,0,1,3,4] hs8
   have hp9:=yc [_,_] _ K
   have hp10:St _ (gF [(QS.SR sb hb n t),iB .i64 v 3 (gx ds)] :: _) _:=yc [_,_] _ hp9
   have hT:gm (QS.SR sb hb n s) w _ (gF [(QS.SR sb hb n t),iB .i64 v 3 (gx ds)]):=yq hp10
   exact⟨_,results_tmp Tryz.results48 _ _ _,_,rfl,by rw[uu];exact⟨v,ds,t,rfl,hC,hT⟩⟩
theorem VA(sb hb n:Nat)(s:QS)(w:World)(hO:Own (QS.SR sb hb n s) w) :
 CR ya 47 (Zl sb) w (fun r w' => ∃ sb2 hb2 s2,r = .pointer (some ⟨sb2,0,none⟩)/\s2.fP=s.fP/\gm (QS.SR sb hb n s) w w' (gF [(QS.SR sb hb n s),(QS.SR sb2 hb2 n s2)])):=by
 refine en Tryz.func47 Tryz.ntmps47 ?_
 have hst0:=Own.of hO
 have hok:=(kj hst0 (i:=1) rfl:s.ok n)
 have b:=yc [_,_] _ hst0
 refine gf hst0 9 ?_
 refine cl Ce (BH sb hb n s w (yd b (i:=0) rfl)) ?_
 rintro _ o ⟨rfl,ht⟩
 have f:=yu 0 b ht
 have c:=mG f
 refine gL c 7 ?_
 refine oh (Γ:=Nat×QS×Nat) mixed [[],[0],[0,1],[0,1,2],[],[4],[4,5],[4,5,6],[4,5,6,7],[0,1,2,3,4,5,6,7,8],[0,1,2,3,4,5,6,7,8,9],[0,1,2,3,4,5,6,7,8,9,10]] [8,10] d_ [fun _=>(Zb sb),fun _=>(Zb sb),fun _=>(Zb sb),fun _=>(Za n),fun _=>(Zb sb),fun _=>(Zb sb),fun _=>(Bo sb),fun _=>(Zb hb),fun(hb2₁,s2₁,a)=>(Zb hb2₁),fun(hb2₁,s2₁,a)=>(Fz n hb2₁),fun(hb2₁,s2₁,a)=>(Zb a),fun(hb2₁,s2₁,a)=>(Zb a)] [(fun(hb2₁,s2₁,a)=>[blk sb 166 (qL n hb),(QS.R hb n s)],fun _ _=>True),(fun(hb2₁,s2₁,a)=>[blk sb 166 (qL n hb),jZ (s2₁.fP=s.fP) (gF [(QS.R hb n s),(QS.R hb2₁ n s2₁)])],fun _ _=>True),(fun(hb2₁,s2₁,a)=>[blk a 166 (qL n hb2₁),blk sb 166 (qL n hb),jZ (s2₁.fP=s.fP) (gF [(QS.R hb n s),(QS.R hb2₁ n s2₁)])],fun _ _=>True)] (hb,s,0) (fun(hb2₁,s2₁,a)=>(2,(Zb a)) :: (16,(Zb a)) :: (15,(Fz n hb2₁)) :: (14,(Zb hb2₁)) :: (13,(Zb hb)) :: (12,(Bo sb)) :: (11,(Zb sb)) :: (10,(Zb sb)) :: (9,(Za n)) :: (8,(Zb sb)) :: (7,(Zb sb)) :: (6,(Zb sb)) :: _) rfl c (fun _ _=>trivial) ?_ (fun(hb2₁,s2₁,a)=>rfl) rfl ?_
 . skip
   refine gp (fun(hb2₁,s2₁,a) _=>iy (v:=(Zb sb)) rfl) ?_
   refine gp (fun(hb2₁,s2₁,a) _=>j6 rfl) ?_
   refine gp (fun(hb2₁,s2₁,a) _=>jy (o' := 0) rfl Fs rfl gn rfl) ?_
   refine nL rfl rfl rfl rfl rfl (fun(hb2₁,s2₁,a) wq hM hF=>qv rfl rfl (gU rfl ye rfl (yo hM (i:=0) rfl rfl))) (fun(hb2₁,s2₁,a) wq hM hF=>qv rfl rfl (gU rfl ye rfl (yo hM (i:=0) rfl rfl))) (gp (fun(hb2₁,s2₁,a) _=>iy (v:=(Zb sb)) rfl) ?_)
   refine gp (fun(hb2₁,s2₁,a) _=>j6 rfl) ?_
   refine gp (fun(hb2₁,s2₁,a) _=>jy (o' := 1) rfl Fs rfl B8 rfl) ?_
   refine l9 rfl rfl rfl rfl (fun(hb2₁,s2₁,a) wq hM hF=>qv rfl rfl (gU rfl CM rfl (yo hM (i:=0) rfl rfl))) (jK rfl rfl rfl rfl (fun(hb2₁,s2₁,a) wq hM hF=>kD rfl rfl (i6 rfl YG) (VN hb n s wq (yd hM (i:=1) rfl)) (fun _ _ hz=>by obtain⟨hb2₁', s2₁', rfl,hF1,ht1⟩:=hz;exact⟨(hb2₁', s2₁', a),⟨(yu 1 hM (ht1.oC hF1)),trivial⟩,rfl,fS rfl (fS rfl (fS rfl (fS rfl (fS rfl (fS rfl (fS rfl (fS rfl (fS trivial (fS trivial (fS trivial (fS trivial (kO))))))))))))⟩)) (gp (fun(hb2₁,s2₁,a) _=>xH (pvs:=[(0,(Za n)),(1,(Zb hb2₁))]) (v:=.agg #[(Za n),(Zb hb2₁)]) rfl (jS [(0,(Ze n)),(1,(Zj hb2₁))] JK PT rfl ⟨rfl,rfl,rfl,rfl,trivial⟩ rfl)) ?_))
   refine jK rfl rfl rfl rfl (fun(hb2₁,s2₁,a) wq hM hF=>Fi (v:=(Fz n hb2₁)) (cs:=(qL n hb2₁)) rfl rfl rfl hM (fun g _ h=>⟨(hb2₁,s2₁,g),⟨h,trivial⟩,rfl,fS rfl (fS rfl (fS rfl (fS rfl (fS rfl (fS rfl (fS rfl (fS rfl (fS rfl (fS rfl (fS trivial (fS trivial (kO))))))))))))⟩)) (gp (fun(hb2₁,s2₁,a) _=>pV (v:=(Zb a)) rfl) ?_)
   exact og
 rintro⟨hb2₁,s2₁,a⟩ p j -
 have d:=yi [2,0,1] j
 have k:=nT d
 have l:=kB d
 have e:=mG l
 refine iN tt none e 2 ?_
 refine gw (v:=(Zb a)) Tryz.results47 rfl ?_
 have m:=yi [3,0,2,1] e
 exact⟨a,hb2₁,s2₁,rfl,k,(gm.EH (A:=[_,_]) (B:=[_,_]) (yq (yc [_,_,_,_] _ m)))⟩
end
section
open Go Go.Sx
def GW.R(fO fN ob:Nat)(s:GW):gh:=jZ (s.ok fO fN) (gF [blk ob 174 (AP fO fN s (some s.mb)),(lG s.fb s.nb (fN+fO+1)),(QS.R s.hb fN s.q),gQ s.mb .i64 Ed.enc s.m])
abbrev wP(a b:Nat)(c:WW):=(GW.R a b c.ob c.g:gh)
abbrev Ro(a:Nat)(b c:Int)(d:Lv)(e:Int)(f:WW)(g:Int)(h i j k:Nat)(l:Int) m n:=([blk a 34 [.int .i64 b,.int .u64 c,.int .u64 d.u,.int .u64 d.v,.int .i64 d.wt,.int .i64 d.t,.int .i64 e],blk f.cb 107 (Zi g f.now),blk h 32 (Zp d),blk i 83 (tT g j k l f),jZ m (fZ.R k j f.ub n),QS.SR f.sb f.hb j f.q,GW.R k j f.ob f.g]:List gh)
theorem Hj(fO fN ob:Nat)(s:GW)(w:World)(hO:Own (GW.R fO fN ob s) w) :
 CR ya 102 (Zl ob) w (fun r w' => r = .bool true/\gm (GW.R fO fN ob s) w w' (GW.R fO fN ob s)):=by
 refine en Tryz.func102 Tryz.ntmps102 ?_
 have hst0:=Own.of hO.un
 have hG:s.ok fO fN:=hO.fact
 refine gf hst0 8 ?_
 refine qR (a:=some ⟨ob,0,none⟩) (c:=true) rfl rfl rfl Tryz.underlying81 rfl (fQ hst0 5 ?_)
 refine QZ (a:=some s.mb) (c:=true) rfl rfl rfl rI rfl (fW hst0 5 ?_)
 refine gw (v:=Zf) Tryz.results102 rfl ?_
 exact⟨rfl,yv (yw (p:=s.ok fO fN) (yc [_,_,_,_] _ hst0) hG) zh⟩
theorem NL(fO fN ob:Nat)(s:GW)(w:World)(hO:Own (GW.R fO fN ob s) w)(v:Nat)(hv:v<fO) :
 CR ya 111 (Zn ob v) w (fun r w' => r = .bool true/\gm (GW.R fO fN ob s) w w' (GW.R fO fN ob s)):=by
 have hvn:=hO.fact.vn
 have hv2:=hO.fact.v2
 have hen:=hO.fact.en
 refine en Tryz.func111 Tryz.ntmps111 ?_
 have hst0:=Own.of hO.un
 have hG:s.ok fO fN:=hO.fact
 have b:=yw (p:=GW.ok fO fN s) (yc [_,_,_,_] _ hst0) hG
 refine gf hst0 8 ?_
 refine cl Ji (Hj fO fN ob s w (yd b (i:=0) rfl)) ?_
 rintro _ d ⟨rfl,ht⟩
 have c:=yu 0 b ht
 have a:=(kB c).unpack
 refine fQ a 2 ?_
 refine cmp rfl rfl rfl (qF o_) (fQ a 7 ?_)
 refine cmp rfl rfl rfl (p5 o_) (fW a 5 ?_)
 refine gw (v:=Zf) Tryz.results111 rfl ?_
 exact⟨rfl,yv (yw (p:=s.ok fO fN) (yc [_,_,_,_] _ a) hG) zh⟩
theorem G7(fO fN ob:Nat)(s:GW)(w:World)(hO:Own (GW.R fO fN ob s) w)(k:Nat)(hk:k+1<(fN+fO+1)) :
 CR ya 113 (Zn ob k) w (fun r w' => ∃ (s2:GW),r = .tuple #[]/\gm (GW.R fO fN ob s) w w' (GW.R fO fN ob s2)):=by
 have hvn:=hO.fact.vn
 have hv2:=hO.fact.v2
 have hen:=hO.fact.en
 have hke:=hO.fact.get (k:Int)
 have hka:=hke.a
 have hkb:=hke.b
 refine en Tryz.func113 Tryz.ntmps113 ?_
 have hst0:=Own.of hO.un
 have hG:s.ok fO fN:=hO.fact
 refine gf hst0 7 ?_
 refine AR (a:=(k:Int)) (mm:=s.m) (enc:=Ed.enc) (k:=.i64) 3 rfl rfl rfl rI ye r9 rfl hst0 rfl (al (cs:=FC) rfl r9 rfl hst0 (fun j y z A l=>yU l 4 fun B n=>?_))
 refine jN n 8 ?_
 intro wq hM
 refine kD rfl rfl (i6 rfl Pz) (N5 s.fb s.nb (fN+fO+1) wq (yd hM (i:=2) rfl) o_ k hk ((fU s.m (k:Int)).exp) hke.exp) ?_
 rintro _ _ ⟨rfl,ht1⟩
 refine jM (yu 2 hM ht1) (fun C o=>?_)
 have d:=yi [2,0,1,3,4] o
 refine kF tt none d 2 ?_
 refine jN d 13 ?_ (hA:=by refine' gI 12 ?k0;case k0=>refine' gq (fun wq hM=>rv (kV (e:=(((fN+(fU s.m (k:Int)).a):Nat):Int)) rfl rfl rfl (by rw[iZ o_];omega))) ?k1;case k1=>exact iA)
 intro wq hM
 refine kD rfl rfl (i6 rfl Om) (M5 s.fb s.nb (fN+fO+1) wq (yd hM (i:=0) rfl) o_ k (fN+(fU s.m (k:Int)).a) hk o_) ?_
 rintro _ _ ⟨D,rfl,ht1⟩
 refine jM (yu 0 hM ht1) (fun E f=>?_)
 refine kF tt none f 2 ?_
 refine jN f 13 ?_ (hA:=by refine' gI 12 ?k0;case k0=>refine' gq (fun wq hM=>rv (kV (e:=(((fN+(fU s.m (k:Int)).b):Nat):Int)) rfl rfl rfl (by rw[iZ o_];omega))) ?k1;case k1=>exact iA)
 intro wq hM
 refine kD rfl rfl (i6 rfl Om) (M5 s.fb s.nb (fN+fO+1) wq (yd hM (i:=0) rfl) o_ k (fN+(fU s.m (k:Int)).b) hk o_) ?_
 rintro _ _ ⟨G,rfl,ht1⟩
 refine jM (yu 0 hM ht1) (fun H t=>?_)
 refine Qu tt none t 8 fun I u=>?_
 refine jN u 6 ?_
 intro wq hM
 refine xG (a:=(k:Int)) (c:=(⟨((fU s.m (k:Int)).a),((fU s.m (k:Int)).b),(fU s.m (k:Int)).exp,true⟩:Ed)) (mm:=s.m) (enc:=Ed.enc) (k:=.i64) (L' := [(lG s.fb s.nb (fN+fO+1)),blk j 192 [(Za ((fU s.m (k:Int)).a:Int)),(Za ((fU s.m (k:Int)).b:Int)),(Za ((fU s.m (k:Int)).exp)),Zf],blk ob 174 (AP fO fN s (some s.mb)),(QS.R s.hb fN s.q),gQ s.mb .i64 Ed.enc (gi s.m (k:Int) (⟨((fU s.m (k:Int)).a),((fU s.m (k:Int)).b),(fU s.m (k:Int)).exp,true⟩:Ed))]) 4 rfl rfl rfl rfl rI ye hM rfl rfl (fun _ h=>(jM h (fun J g=>?_)))
 refine ng tt none g 6 ?_
 refine ar (e:=(IntKind.i64.wrap (s.trees+1))) rfl rfl rfl rfl rfl (mR g 4 fun K v=>?_)
 refine jA Tryz.results113 ?_
 have x:=yi [2,0,3,4,1] v
 exact⟨(⟨s.fb,s.nb,s.hb,s.mb,(IntKind.i64.wrap (s.trees+1)),s.q,(gi s.m (k:Int) (⟨((fU s.m (k:Int)).a),((fU s.m (k:Int)).b),(fU s.m (k:Int)).exp,true⟩:Ed))⟩:GW),rfl,yv (yw (p:=GW.ok fO fN (⟨s.fb,s.nb,s.hb,s.mb,(IntKind.i64.wrap (s.trees+1)),s.q,(gi s.m (k:Int) (⟨((fU s.m (k:Int)).a),((fU s.m (k:Int)).b),(fU s.m (k:Int)).exp,true⟩:Ed))⟩:GW)) (yc [_,_,_,_] _ x) (hG.put (by exact⟨hke.a,hke.b,hke.exp⟩))) zh⟩
theorem G5(fO fN ob:Nat)(s:GW)(w:World)(hO:Own (GW.R fO fN ob s) w)(k:Nat)(hk:k+1<(fN+fO+1)) :
 CR ya 104 (Zn ob k) w (fun r w' => ∃ (s2:GW),r = .tuple #[]/\gm (GW.R fO fN ob s) w w' (GW.R fO fN ob s2)):=by
 have hvn:=hO.fact.vn
 have hv2:=hO.fact.v2
 have hen:=hO.fact.en
 have hke:=hO.fact.get (k:Int)
 have hka:=hke.a
 have hkb:=hke.b
 refine en Tryz.func104 Tryz.ntmps104 ?_
 have hst0:=Own.of hO.un
 have hG:s.ok fO fN:=hO.fact
 refine gf hst0 7 ?_
 refine AR (a:=(k:Int)) (mm:=s.m) (enc:=Ed.enc) (k:=.i64) 3 rfl rfl rfl rI ye r9 rfl hst0 rfl (al (cs:=FC) rfl r9 rfl hst0 (fun g x y z j=>yU j 4 fun A l=>?_))
 refine jN l 13 ?_ (hA:=by refine' gI 12 ?k0;case k0=>refine' gq (fun wq hM=>rv (kV (e:=(((fN+(fU s.m (k:Int)).a):Nat):Int)) rfl rfl rfl (by rw[iZ o_];omega))) ?k1;case k1=>exact iA)
 intro wq hM
 refine kD rfl rfl (i6 rfl Ox) (Nz s.fb s.nb (fN+fO+1) wq (yd hM (i:=2) rfl) o_ k (fN+(fU s.m (k:Int)).a) hk o_) ?_
 rintro _ _ ⟨B,rfl,ht1⟩
 refine jM (yu 2 hM ht1) (fun C n=>?_)
 have d:=yi [2,0,1,3,4] n
 refine kF tt none d 2 ?_
 refine jN d 13 ?_ (hA:=by refine' gI 12 ?k0;case k0=>refine' gq (fun wq hM=>rv (kV (e:=(((fN+(fU s.m (k:Int)).b):Nat):Int)) rfl rfl rfl (by rw[iZ o_];omega))) ?k1;case k1=>exact iA)
 intro wq hM
 refine kD rfl rfl (i6 rfl Ox) (Nz s.fb s.nb (fN+fO+1) wq (yd hM (i:=0) rfl) o_ k (fN+(fU s.m (k:Int)).b) hk o_) ?_
 rintro _ _ ⟨D,rfl,ht1⟩
 refine jM (yu 0 hM ht1) (fun E o=>?_)
 refine Qu tt none o 8 fun G t=>?_
 refine jN t 6 ?_
 intro wq hM
 refine xG (a:=(k:Int)) (c:=(⟨((fU s.m (k:Int)).a),((fU s.m (k:Int)).b),(fU s.m (k:Int)).exp,false⟩:Ed)) (mm:=s.m) (enc:=Ed.enc) (k:=.i64) (L' := [(lG s.fb s.nb (fN+fO+1)),blk g 192 [(Za ((fU s.m (k:Int)).a:Int)),(Za ((fU s.m (k:Int)).b:Int)),(Za ((fU s.m (k:Int)).exp)),Zq],blk ob 174 (AP fO fN s (some s.mb)),(QS.R s.hb fN s.q),gQ s.mb .i64 Ed.enc (gi s.m (k:Int) (⟨((fU s.m (k:Int)).a),((fU s.m (k:Int)).b),(fU s.m (k:Int)).exp,false⟩:Ed))]) 4 rfl rfl rfl rfl rI ye hM rfl rfl (fun _ h=>(jM h (fun H f=>?_)))
 refine ng tt none f 6 ?_
 refine ar (e:=(IntKind.i64.wrap (s.trees-1))) rfl rfl rfl rfl rfl (mR f 4 fun I u=>?_)
 refine jA Tryz.results104 ?_
 have v:=yi [2,0,3,4,1] u
 exact⟨(⟨s.fb,s.nb,s.hb,s.mb,(IntKind.i64.wrap (s.trees-1)),s.q,(gi s.m (k:Int) (⟨((fU s.m (k:Int)).a),((fU s.m (k:Int)).b),(fU s.m (k:Int)).exp,false⟩:Ed))⟩:GW),rfl,yv (yw (p:=GW.ok fO fN (⟨s.fb,s.nb,s.hb,s.mb,(IntKind.i64.wrap (s.trees-1)),s.q,(gi s.m (k:Int) (⟨((fU s.m (k:Int)).a),((fU s.m (k:Int)).b),(fU s.m (k:Int)).exp,false⟩:Ed))⟩:GW)) (yc [_,_,_,_] _ v) (hG.put (by exact⟨hke.a,hke.b,hke.exp⟩))) zh⟩
end
end Go.Proofs.YtdopagghhibopaaGreat
