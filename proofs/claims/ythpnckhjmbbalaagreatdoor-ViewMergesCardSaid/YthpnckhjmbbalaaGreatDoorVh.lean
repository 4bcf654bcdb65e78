/- What the functions that the statements reach do: walks through the code of the program and of the references, one theorem a function; under what is said of its arguments. -/
import Derived.Test.YthpnckhjmbbalaaGreatDoorFb
import Derived.Test.YthpnckhjmbbalaaGreatDoorVa
import Derived.Test.YthpnckhjmbbalaaGreatDoorFd
import Derived.Test.YthpnckhjmbbalaaGreatDoorVe
import Derived.Test.YthpnckhjmbbalaaGreatDoorVg
import Derived.Test.YthpnckhjmbbalaaGreatDoorFc
set_option linter.unusedVariables false
set_option linter.unusedSimpArgs false
set_option maxRecDepth 100000
set_option maxHeartbeats 4000000
namespace Go.Proofs.YthpnckhjmbbalaaGreatDoor
section
open Go Go.Sx
theorem abN(lv:Value)(xs:List Mw)(w:World)(S:iz 5 Mw.cells (fun _=>True) w lv xs)(ae:∀ x∈xs,x.mv.ok) :
 CR ya 5 #[lv] w (fun r w' => ∃ (Y X:Nat) (s:WW),r = .tuple (UB Y X)/\(∃ k,rJ cG s k)/\fZ (gq []) w w' (Mk cG Y s X)):=by
 refine en Tryz.func5 Tryz.ntmps5 ?_
 have W:=yt w
 have ai:=S.len
 refine fR W 9 ?_
 refine ji (pvs:=[(0,(.int .i64 20)),(1,(.int .i64 40)),(2,xN),(3,(.int .i64 60))]) (v:=.agg #[(.int .i64 20),(.int .i64 40),xN,(.int .i64 60)]) rfl rfl (jA [(0,[(.int .i64 20)]),(1,[(.int .i64 40)]),(2,[xN]),(3,[(.int .i64 60)])] Dr RT rfl ⟨rfl,rfl,rfl,rfl,rfl,rfl,rfl,rfl,trivial⟩ rfl) (cl Om (Uf cG w d_ d_ d_ d_ d_ d_ d_) ?_)
 rintro _ q ⟨c,m,rfl,i,O⟩
 have j:=(ki W O)
 refine fK j 20 ?_
 refine cl Oo (T1 cG c m q (ye j 0 rfl)) ?_
 rintro _ D ⟨d,rfl,O⟩
 have n:=yz (yk 0 j O)
 refine gH n 24 ?_
 refine lp (α:=Nat×WW) (fun(k,s)=>[(0,lv),(5,(Zb c)),(7,(Zb d)),(8,(Za k))]) (fun(k,s) w1=>St [(w,[])] [(WW.R cG c s),blk d 102 [(Zb c),Zn,sP,Zg,Zc,Zg,Zg,Zg,Zg,Zg,Zs,Zs,Zc]] w1/\rJ cG s k/\k<=xs.length/\k<=60) (fun(k,s)=>60-k) (0,m) ⟨rfl,rfl,rfl,gr rO,trivial⟩ (⟨n,rJ.start i.1 i.2.1 i.2.2,o_,o_⟩) ?_
 rintro⟨k,s⟩ E G ⟨N,P,ag,ah⟩
 have ac:=(r8 (ye N 0 rfl)).1
 have ab:=ac.n0
 have am:=P.now
 have an:=P.added
 refine fR N 5 ?_
 refine k6 (v:=lv) rfl rfl Tryz.underlying22 S ?_
 by_cases H:((k:Int):Int)<((xs.length:Int):Int)
 . refine fK N 3 ?_
   by_cases I:((k:Int):Int)<(60:Int)
   . refine gH N 10 ?_
     obtain⟨F,Z⟩:=pS (show k<xs.length by omega)
     have Q:=ae _ (zd Z)
     have U:=Q.u
     have V:=Q.v
     have aa:=Q.wt
     have T:=Q.af
     have ao : -128<=F.wt/\F.wt<=127:=aa
     have ad:=Q.tI ab o_
     have ak:0<=F.u/\F.u<=255:=U
     have al:0<=F.v/\F.v<=255:=V
     have aj:0<=F.af/\F.af<=255:=T
     refine kO mixed [([0,2,3,4,5,6,7,8,1],[6])] [9,10] N (fun t g=>jR ?_)
     refine fK g 6 ?_
     refine rem (a:=F.af) (b:=4) (e:=F.af%4) rfl rfl rfl d_ (G4 T.1) (fK g 1 ?_)
     refine cl W2 (agn cG c s t (ye g 0 rfl)) ?_
     rintro _ y ⟨rfl,O⟩
     have f:=yk 0 g O
     refine fQ f 1 ?_
     refine kJ (kU ?_)
     refine gH f 14 ?_
     cases J:(F.wa:Bool)
     . skip
       refine q7 f 10 fun z h=>?_
       refine rem (a:=F.u) (b:=12) (e:=F.u%12) rfl rfl rfl d_ (G4 U.1) (fK h 6 ?_)
       refine rem (a:=F.v) (b:=12) (e:=F.v%12) rfl rfl rfl d_ (G4 V.1) (fK h 8 ?_)
       refine ji (pvs:=[(0,(Zo (F.u%12))),(1,(Zo (F.v%12))),(2,(Za F.wt)),(3,(Za (s.now+(F.af%4))))]) (v:=.agg #[(Zo (F.u%12)),(Zo (F.v%12)),(Za F.wt),(Za (s.now+(F.af%4)))]) rfl rfl (jA [(0,(Zt (F.u%12))),(1,(Zt (F.v%12))),(2,(Ze F.wt)),(3,(Ze (s.now+(F.af%4))))] vg FN rfl ⟨rfl,rfl,rfl,rfl,rfl,rfl,rfl,rfl,trivial⟩ rfl) (cl EN (af4 cG c s z (ye h 0 rfl) (F.mv.tI s.now) ad (by show s.now<=s.now+F.af%4;omega) (by show s.now+F.af%4<=1000000;omega) o_) ?_)
       rintro _ K ⟨L,A,rfl,B,O⟩
       have o:=yk 0 h O
       refine fQ o 8 ?_
       refine tN (?_)
       exact again ((k+1),A) ⟨rfl,rfl,rfl,gr rO,trivial⟩ (⟨o,P.next B (by show s.now+F.af%4<=s.now+3;omega) (by show 0<=F.u%12/\F.u%12<12;omega) (by show 0<=F.v%12/\F.v%12<12;omega) (by show -128<=F.wt/\F.wt<=127;omega),o_,o_⟩) (by show (60-(k+1):Nat)<60-k;omega)
     . skip
       refine fR f 6 ?_
       refine cl Oz (Uk cG c s y (ye f 0 rfl) (s.now+F.af%4) o_ o_) ?_
       rintro _ M ⟨C,rfl,l,O⟩
       have p:=yk 0 f O
       refine fQ p 15 ?_
       refine tN (?_)
       exact again ((k+1),C) ⟨rfl,rfl,rfl,gr rO,trivial⟩ (⟨p,P.tick l.1 o_ l.2.1 l.2.2.1,o_,o_⟩) (by show (60-(k+1):Nat)<60-k;omega)
   . refine fQ N 20 ?_
     refine tf (v:=(Zb c)) (v' := (Zb d)) (v'' := Zf) Tryz.results5 rfl rfl rfl ?_
     exact⟨c,d,s,rfl,⟨_,P⟩,St.eM (yc [_,_] _ N)⟩
 . refine fQ N 23 ?_
   refine tf (v:=(Zb c)) (v' := (Zb d)) (v'' := Zf) Tryz.results5 rfl rfl rfl ?_
   exact⟨c,d,s,rfl,⟨_,P⟩,St.eM (yc [_,_] _ N)⟩
end
section
open Go Go.Sx
theorem Vk.YJ{k:Vk}{w:World}(a:Own (Vk.R k) w):k.ok/\gP k.es k.K.length k.c.f/\k.q.f=k.c.f:=by
 have b:gP k.es k.K.length k.c.f:=yy (jP (yr a)).unpack (i:=6) rfl
 have d:gP k.es k.K.length k.q.f:=yy (jP (yr a)).unpack (i:=7) rfl
 exact⟨a.fact,b,nv.uniq d.2 b.2⟩
end
section
open Go Go.Sx
theorem Y8(fN fL ob:Nat)(s:GW)(A:Nat->Nat->Prop)(key:Nat->Int)(w:World)(h:Own (GI.R fN fL ob s A key) w) :
 CR ya 33 (Zh ob) w (fun r w' => r = .int .i64 (Hy fN s)/\fZ (GI.R fN fL ob s A key) w w' (GI.R fN fL ob s A key)):=by
 have n:=h.fact.vn
 have m:=h.fact.v2
 have l:=h.fact.en
 refine en Tryz.func33 Tryz.ntmps33 ?_
 have j:=Own.of h.un
 have i:s.ok fN fL:=h.fact
 have a:=yp (p:=GW.ok fN fL s) (yc [_,_,_,_] _ j) i
 refine fR j 9 ?_
 refine cl EU (E7 fN fL ob s A key w (ye a 0 rfl)) ?_
 rintro _ f ⟨rfl,k⟩
 have c:=yk 0 a k
 have d:=(jP c).unpack
 refine gO d 16 fun g b=>?_
 refine ar (e:=(Hy fN s)) rfl rfl rfl rfl rfl (fQ b 4 ?_)
 refine gp (v:=(Za (IntKind.i64.wrap ((fN:Int)-s.trees)))) Tryz.results33 rfl ?_
 exact⟨rfl,yj (yp (p:=GW.ok fN fL s) (yc [_,_,_,_] _ b) i) ze⟩
theorem Y3(fN fL ob:Nat)(s:GW)(w:World)(b:Own (GW.R fN fL ob s) w) :
 CR ya 33 (Zh ob) w (fun r w' => r = .int .i64 (Hy fN s)/\fZ (GW.R fN fL ob s) w w' (GW.R fN fL ob s)):=by
 obtain⟨A,key,⟨a,f,d⟩,c⟩:=C2 b
 exact CR.mono (Y8 fN fL ob s A key w c) fun r w' ⟨e,g⟩=>⟨e,Gv g ⟨a,f,d⟩⟩
theorem afL(fN fL ub:Nat)(s:fU)(w:World)(h:Own (fU.R fN fL ub s) w) :
 CR ya 32 (Zh ub) w (fun r w' => r = .int .i64 (s.A.used:Int)/\fZ (fU.R fN fL ub s) w w' (fU.R fN fL ub s)):=by
 refine en Tryz.func32 Tryz.ntmps32 ?_
 have j:=Own.of h.un
 have i:s.ok fN fL:=h.fact
 have b:=yp (p:=s.ok fN fL) (yc [_,_,_,_,_,_] _ j) i
 refine fR j 9 ?_
 refine cl wg (xd fN fL ub s w (ye b 0 rfl)) ?_
 rintro _ d ⟨rfl,g⟩
 have e:=yk 0 b g
 have a:=(jP e).unpack
 refine fK a 12 ?_
 refine cl ET (GC s.jb s.aw d (ye a 4 rfl)) ?_
 rintro _ f ⟨rfl,g⟩
 have c:=yk 4 a g
 refine fQ c 4 ?_
 refine gp (v:=(Za s.A.used)) Tryz.results32 rfl ?_
 exact⟨rfl,yj (yp (p:=fU.ok fN fL s) (yc [_,_,_,_,_,_] _ c) i) ze⟩
theorem afW(fN fL ub:Nat)(s:fU)(w:World)(h:Own (fU.R fN fL ub s) w) :
 CR ya 31 (Zh ub) w (fun r w' => r = .int .i64 (s.t.A.used:Int)/\fZ (fU.R fN fL ub s) w w' (fU.R fN fL ub s)):=by
 refine en Tryz.func31 Tryz.ntmps31 ?_
 have j:=Own.of h.un
 have i:s.ok fN fL:=h.fact
 have b:=yp (p:=s.ok fN fL) (yc [_,_,_,_,_,_] _ j) i
 refine fR j 9 ?_
 refine cl wg (xd fN fL ub s w (ye b 0 rfl)) ?_
 rintro _ d ⟨rfl,g⟩
 have e:=yk 0 b g
 have a:=(jP e).unpack
 refine fK a 12 ?_
 refine cl O4 (TL s.tb s.ab s.t d (ye a 5 rfl)) ?_
 rintro _ f ⟨rfl,g⟩
 have c:=yk 5 a g
 refine fQ c 4 ?_
 refine gp (v:=(Za s.t.A.used)) Tryz.results31 rfl ?_
 exact⟨rfl,yj (yp (p:=fU.ok fN fL s) (yc [_,_,_,_,_,_] _ c) i) ze⟩
theorem agb(c:WC)(z:Nat)(s:WW)(w:World)(C:Own (WW.R c z s) w) :
 CR ya 11 (Zh z) w (fun r w' => r = .tuple (HB s.u.A.used s.u.t.A.used (IntKind.i64.wrap ((IntKind.i64.wrap ((c.fN:Int)-s.g.trees))-((c.fN:Int)-(s.u.t.A.used:Int)))))/\fZ (WW.R c z s) w w' (WW.R c z s)):=by
 refine en Tryz.func11 Tryz.ntmps11 ?_
 have B:=Own.of C.un
 have x:s.ok c:=C.fact
 have H:=x.w1
 have I:=x.wi
 have J:=x.n0
 have K:=x.n1
 have D:fU.ok c.fN c.fL s.u:=(yy B (i:=2) rfl)
 have G:=D.tok.ul
 have F:=D.tn
 have E:=x.vn
 have h:=yp (p:=s.ok c) (yc [_,_,_,_,_] _ B) x
 refine fR B 11 ?_
 refine cl uK (vj c z s w (ye h 0 rfl)) ?_
 rintro _ k ⟨rfl,y⟩
 have l:=yk 0 h y
 have a:=(jP l).unpack
 refine fK a 12 ?_
 refine cl XL (afW c.fN c.fL s.ub s.u k (ye a 2 rfl)) ?_
 rintro _ o ⟨rfl,y⟩
 have b:=yk 2 a y
 refine fK b 11 ?_
 refine ar (e:=((c.fN:Int)-(s.u.t.A.used:Int))) rfl rfl rfl rfl (ox o_) (gH b 4 ?_)
 refine kO mixed [([0,1,2,3,5,6,7,8,9,11,4],[9])] [10,12,13,14,15] b (fun m d=>jR ?_)
 refine fK d 10 ?_
 refine cl XM (afL c.fN c.fL s.ub s.u m (ye d 2 rfl)) ?_
 rintro _ n ⟨rfl,y⟩
 have f:=yk 2 d y
 refine fQ f 1 ?_
 refine kJ (kU ?_)
 refine cl XN (Y3 c.fN c.fL s.ob s.g n (ye f 4 rfl)) ?_
 rintro _ q ⟨rfl,y⟩
 have j:=yk 4 f y
 refine ar (e:=(IntKind.i64.wrap ((IntKind.i64.wrap ((c.fN:Int)-s.g.trees))-((c.fN:Int)-(s.u.t.A.used:Int))))) rfl rfl rfl rfl rfl (fQ j 6 ?_)
 refine tf (v:=(Za s.u.A.used)) (v' := (Za s.u.t.A.used)) (v'' := (Za (IntKind.i64.wrap ((IntKind.i64.wrap ((c.fN:Int)-s.g.trees))-((c.fN:Int)-(s.u.t.A.used:Int)))))) Tryz.results11 rfl rfl rfl ?_
 exact⟨rfl,yj (yp (p:=s.ok c) (yc [_,_,_,_,_] _ j) x) ze⟩
theorem af3(c:WC)(F Q:Nat)(s:WW)(w:World)(S:Own (Al F Q c s) w)(X:c.fN<=12) :
 CR ya 10 (Zh F) w (fun r w' => ∃ (k:Vk) (T hv:Value),r = .tuple #[T,hv]/\Vk.of s k/\fZ (Al F Q c s) w w' (gq [blk F 102 (Eg Q (IntKind.u64.wrap (s.added+s.jB)) k k.K.length),Vk.R k,(WW.R c Q s),fM jT.cells T 46 2 (k.mI k.mg.length),fM gh hv 2 1 (k.mH k.mg.length)])):=by
 refine en Tryz.func10 Tryz.ntmps10 ?_
 have U:=(yr S).unpack
 refine fR U 2 ?_
 refine iR U (fun a G H I o=>?_)
 refine iR o (fun b p J L h=>?_)
 refine fK h 6 ?_
 refine cl AF (Bm F Q _ p (ye h 2 rfl)) ?_
 rintro _ q ⟨rfl,W⟩
 have j:=yk 2 h W
 refine fK j 9 ?_
 refine oc (vf:=[]) (vc:=(qI a b)) rfl rfl rfl ?_
 have t:=yg [1,0,2,3] j
 have u:=yc [_,_] _ t
 have y:=yg [1,2,0] u
 have l:=yc [_,_,_] _ y
 refine cl ER (Ua c F Q s q (DZ a b) (fun x:Value×Value×List jT×List Int=>gq [blk a 39 [x.1],blk b 40 [x.2.1],fM jT.cells x.1 46 2 x.2.2.1,fM gh x.2.1 2 1 x.2.2.2]) (fun k x=>x.2.2.1=k.mI k.mg.length/\x.2.2.2=k.mH k.mg.length) 28 (qI a b) OX (fun k w1 aa S=>QI a b k w1 S) (ye l 0 rfl) X) ?_
 rintro _ M ⟨z,d,rfl,A,B⟩
 have C:=(ym l B)
 have D:=yg [3,0,1,2] C
 have m:=yz D
 refine gH m 3 ?_
 refine kO mixed [([0,1,2],[1])] [3] m (fun N e=>jR ?_)
 refine fK e 2 ?_
 refine j8 0 e (fun O f=>?_) (hvs:=(cells_one (yu e (i:=2) rfl))) (h1:=(ic (yu e (i:=2) rfl) lB))
 refine fQ f 1 ?_
 refine kJ (kU ?_)
 refine j8 1 f (fun P g=>?_) (hvs:=(cells_one (yu f (i:=3) rfl))) (h1:=(ic (yu f (i:=3) rfl) lB))
 refine fQ g 3 ?_
 refine og (v:=d.1) (v' := d.2.1) Tryz.results10 (wW rfl uf rfl (k8 g 0 rfl rfl)) (wW rfl y0 rfl (k8 g 1 rfl rfl)) ?_
 have E:=yg [4,5,6,2,3] g
 obtain⟨V,Y,Z⟩:=A
 have n:=E
 rw[Y,Z]at n
 exact⟨z,d.1,d.2.1,rfl,V,yo (yc [_,_,_,_,_] _ n)⟩
end
section
open Go Go.Sx
theorem WW.trees{c:WC}{q:Nat}{s:WW}{w:World}(h:Own (WW.R c q s) w){k:Vk}(d:Vk.of s k)(a:k.ok):s.g.trees=(k.f.length:Int):=by
 obtain⟨p,o,_⟩:=r8 h
 obtain⟨A,key,⟨j,_,b⟩,_⟩:=C2 (kV (Own.of h.un) (i:=4) rfl)
 obtain⟨L,l,m⟩:=d.RJ
 have e:=j.trees b.1 b.2.2 p.fr o d.ids l m a.fg
 have r:=a.fg.f.room a.fg.g
 have t:=a.n
 rw[b.2.1,e,IntKind.wrap_i64]
 omega
theorem V1{V U F:Int}(h1:0<=V/\V<=4096)(a:0<=U/\U<=V)(b:0<=F/\F<=4096):IntKind.i64.wrap (U-IntKind.i64.wrap (IntKind.i64.wrap (V-F)-(V-U)))=F:=by
 rw[IntKind.wrap_i64,IntKind.wrap_i64,IntKind.wrap_i64]
 omega
theorem Vk.aa9{k:Vk}:(k.mI k.mg.length).length=k.f.length:=by
 unfold Vk.mI
 rw[qB,zq]
 exact Fz
theorem Vk.aa6{k:Vk}:(k.mH k.mg.length).length=k.f.length:=by
 unfold Vk.mH
 rw[qB,zq]
 exact Fz
theorem Vk.QX{k:Vk}{i:Nat}(hi:i<k.f.length):k.mg[i]? = some (Fy k.es k.K.length k.f i):=by
 show ((List.range k.f.length).map _)[i]? = _
 simp[hi]
theorem Vk.abb{k:Vk}{i:Nat}(hi:i<k.f.length):fJ (k.mI k.mg.length) i=⟨fJ k.K (nA k.es k.K.length k.f i),fJ k.K (Aa k i)⟩:=by
 refine ij ?_
 unfold Vk.mI
 rw[qB,z7,Vk.QX hi]
 rfl
theorem Vk.JQ{k:Vk}{i:Nat}(hi:i<k.f.length):fJ (k.mH k.mg.length) i=(fJ k.es (fJ k.f i)).w:=by
 refine ij ?_
 unfold Vk.mH
 rw[qB,z7,Vk.QX hi]
 rfl
structure ux (k:Vk) (gl:List Bool) (i:Nat):Prop where
 len:gl.length=12
 mem:∀ x,x<12->(fJ gl x=true↔∃ j,j<i/\fJ k.K (Aa k j)=(x:Int))
theorem ux.start{k:Vk}:ux k (List.replicate 12 false) 0 :=
 ⟨s_,fun x a=>by rw[yJ a];exact⟨fun h=>(by cases h),fun⟨j,h,_⟩=>absurd h (Nat.not_lt_zero _)⟩⟩
theorem ux.next{k:Vk}{c:List Bool}{i:Nat}(h:ux k c i){b:Int}(hb:0<=b/\b<12)(e:b=fJ k.K (Aa k i)):ux k (fO c b.toNat fun _=>true) (i+1):=by
 refine⟨by rw[gC];exact h.len,fun x f=>?_⟩
 rw[jh (by rw[h.len];omega)]
 by_cases q:b.toNat=x
 . rw[if_pos q]
   exact⟨fun _=>⟨i,Nat.lt_succ_self i,by rw[<-e];omega⟩,fun _=>rfl⟩
 . rw[if_neg q,h.mem x f]
   constructor
   . rintro⟨j,d,a⟩;exact⟨j,o_,a⟩
   . rintro⟨j,d,a⟩
     by_cases e2:j=i
     . subst e2;exact absurd a (by rw[<-e];omega)
     . exact⟨j,o_,a⟩
theorem ux.no{k:Vk}{a:List Bool}{i y:Nat}(h:ux k a i)(b:k.ok)(hi:i<k.f.length)(c:y<k.K.length)(n:fJ (gU k.es k.K.length (k.f.take i)) y=y){x:Int}(o:0<=x/\x<12)(e:x=fJ k.K y):fJ a x.toNat=false:=by
 cases hg:fJ a x.toNat with
 | false=>rfl
 | true =>
  obtain⟨j,d,g⟩:=(h.mem x.toNat o_).1 hg
  have l:=b.fg.gone d o_ c n
  have m:=(b.fg.st (i:=j) o_).2.1
  exact absurd (Ic b.j5 c m (by rw[g,<-e];omega)) l
structure Uu (k:Vk) (i:Nat) (a b:Int):Prop where
 lt:a<b
 ia:a∈k.K
 ib:b∈k.K
 ea:a=fJ k.K (nA k.es k.K.length k.f i)
 eb:b=fJ k.K (Aa k i)
 mono:∀ j,j<=i->fJ (k.mH k.mg.length) j<=fJ (k.mH k.mg.length) i
 mm:∀ x,k.mm (gK k.K a) (gK k.K b) x->x=(fJ (k.mH k.mg.length) i,true)
theorem Vk.U7{K:List Int}(hs:K.Pairwise fun a b=>a<b){i j:Nat}(d:i<j)(c:j<K.length):fJ K i<fJ K j:=by
 rw[ij (zm (show i<K.length by omega)),ij (zm c)]
 exact uq.1 hs i j o_ c d
theorem Vk.abP{k:Vk}(c:k.ok)(m:k.q.f=k.f){i:Nat}(hi:i<k.f.length):Uu k i (fJ (k.mI k.mg.length) i).a (fJ (k.mI k.mg.length) i).b:=by
 have st:=c.fg.st hi
 have la:nA k.es k.K.length k.f i<k.K.length:=by omega
 rw[Vk.abb hi]
 refine⟨Vk.U7 c.j5 st.1 st.2.1,zd (gz la),zd (gz st.2.1),rfl,rfl,fun j l=>?_,fun x n=>?_⟩
 . rw[Vk.JQ hi,Vk.JQ (show j<k.f.length by omega)]
   exact c.fg.mono l hi
 . have o:k.mm (nA k.es k.K.length k.f i) (Aa k i) x:=by
    have h:=n
    rwa [show gK k.K (fJ k.K (nA k.es k.K.length k.f i))=_ from FO c.j5 la,show gK k.K (fJ k.K (Aa k i))=_ from FO c.j5 st.2.1]at h
   obtain⟨z,d,e,_⟩:=o.2 (Nat.ne_of_lt st.1)
   rw[m]at d e
   obtain⟨e1,g⟩:=c.fg.abI hi d
   rw[Vk.JQ hi]
   exact Prod.ext ((e e1).trans g) e1
theorem TZ{o:Obj}(c:WC)(d e:Nat)(s:WW)(k:Vk)(i:Vk.of s k)(b:Int)(w:World)(h:Own (rK d e (IntKind.u64.wrap (s.added+s.jB)) k k.K.length b c s (jw o)) w)(a a2:Int)(l:s.u.t.cnt a=0)(m:s.u.t.cnt a2=0){z:Int}(hm:∀ x,k.mm (gK k.K a) (gK k.K a2) x->x=(z,true)) :
 CR ya 6 (Hr d a a2) w (fun r w' => r = .tuple #[.int .i64 z,.bool true,.int .i64 0]/\fZ (rK d e (IntKind.u64.wrap (s.added+s.jB)) k k.K.length b c s (jw o)) w w' (rK d e (IntKind.u64.wrap (s.added+s.jB)) k k.K.length b c s (jw o))) :=
 CR.mono (TY c d e s k i b w h a a2 l m) fun r w' ⟨x,f,g,j⟩=>⟨by rw[f,hm x g],j⟩
theorem Vk.of.cnt{s:WW}{k:Vk}(h:Vk.of s k){u:Int}(a:u∈k.K):s.u.t.cnt u=0:=TW.v7 ((h.ids.mem u).1 a)
theorem Vk.of.Su{s:WW}{k:Vk}{c:WC}{n v e:Nat}(h:Vk.of s k)(g:s.u.ok v e)(d:rJ c s n){u:Int}(f:u∈k.K):0<=u/\u<12:=by
 obtain⟨i,hi,a⟩:=(g.mem u).1 ((h.ids.mem u).1 f)
 have b:=d.ids _ ⟨i,hi,rfl⟩
 rcases a with a|a
 . rw[<-a];exact b.1
 . rw[<-a];exact b.2
theorem abu(lv:Value)(xs:List Mw){o:Obj}(w:World)(hl:iz 5 Mw.cells (fun _=>True) w lv xs)(aX:∀ x∈xs,x.mv.ok)(hO:Own (jw o) w) :
 CR ya 4 #[lv] w (fun r w' => r = .bool true/\fZ (jw o) w w' (jw o)):=by
 refine en Tryz.func4 Tryz.ntmps4 ?_
 have aN:=yr hO
 refine fR aN 8 ?_
 refine cl XZ (abN lv xs w hl aX) ?_
 rintro _ W ⟨p,s,j,rfl,X,ht⟩
 have I:=yz (ki aN ht)
 have Y:=yg [1,0,2] I
 have J:=yc [_,_] _ Y
 refine fK I 22 ?_
 refine cl Oe (af3 cG s p j W (ye J 0 rfl) d_) ?_
 rintro _ Z ⟨d,C,D,rfl,aa,ab⟩
 have y:=(ym J ab)
 have aE:=aa
 obtain⟨aD,aR,aT⟩:=Vk.YJ (ye y 1 rfl)
 have aU:d.q.f=d.f:=aT.trans (nv.uniq aR.2 aD.fg.2)
 have aH:=r8 (ye y 2 rfl)
 have aW:=WW.trees (ye y 2 rfl) aE aD
 have aQ:=Vk.aa9 (k:=d)
 have aY:=Vk.aa6 (k:=d)
 have a1:=aD.fg.f.room aD.fg.g
 have a2:=aD.n
 have a4:=aH.2.1.tok.ul
 have a3:j.u.t.A.n=10:=aH.2.1.tn
 obtain⟨n9,aM⟩:=X
 have aS:IntKind.i64.wrap ((j.u.t.A.used:Int)-IntKind.i64.wrap (IntKind.i64.wrap ((cG.fN:Int)-j.g.trees)-((cG.fN:Int)-(j.u.t.A.used:Int))))=((d.mI d.mg.length).length:Int):=by rw[aQ,aW];exact V1 d_ (by show _/\_<=((10:Nat):Int);omega) o_
 refine fK y 10 ?_
 refine cl WK (agb cG p j Z (ye y 2 rfl)) ?_
 rintro _ ap ⟨rfl,ht⟩
 have l:=yk 2 y ht
 refine fK l 13 ?_
 refine jm (m:=(d.mI d.mg.length).length) 3 rfl rfl uf l rfl (fK l 2 ?_)
 refine ar (e:=((d.mI d.mg.length).length:Int)) rfl rfl rfl rfl aS (cmp rfl rfl rfl (oW (Eq.refl _)) (fK l 2 ?_))
 refine jm (m:=(d.mH d.mg.length).length) 4 rfl rfl y0 l rfl (fK l 1 ?_)
 refine jm (m:=(d.mI d.mg.length).length) 3 rfl rfl uf l rfl (cmp rfl rfl rfl (oW o_) (fK l 8 ?_))
 refine rZ (cf:=vZ) (z0:=false) (m:=12) (c:=12) rfl rfl rfl DA ve rfl f_ d_ (zo _) o_ o_ l ?_
 intro L ac aq au ad
 have E:St _ [fM vZ (.slice (some ⟨L,0,none⟩) 12 12) 4 1 (List.replicate 12 false),blk s 102 [(.pointer (some ⟨p,0,none⟩)),(.bool true),(.int .u64 (IntKind.u64.wrap (j.added+j.jB))),d.iv,(.int .i64 (d.K.length:Int)),d.lv,d.rv,d.pv,d.hv,d.sv,(.pointer (some ⟨d.cb,0,none⟩)),(.pointer (some ⟨d.mb,0,none⟩)),(.int .i64 1)],(Vk.R d),(WW.R cG p j),fM jT.cells C 46 2 (d.mI d.mg.length),fM gh D 2 1 (d.mH d.mg.length),(jw o)] ac:=mu (cf:=vZ) ad (i:=0) rfl f_ (zo _) (by simp only[maxLen];omega)
 generalize (Value.slice (some ⟨L,0,none⟩) 12 12)=M at E ⊢
 have ae:=yg [1,2,3,4,5,0,6] E
 refine gH E 10 ?_
 refine lp (α:=Nat×List Bool) (fun(i,T)=>[(4,(Zb s)),(6,C),(7,D),(11,M),(12,(Za i))]) (fun(i,T) w1=>St [(w,(jw o).gJ)] [blk s 102 (Eg p (IntKind.u64.wrap (j.added+j.jB)) d d.K.length),(Vk.R d),(WW.R cG p j),fM jT.cells C 46 2 (d.mI d.mg.length),fM gh D 2 1 (d.mH d.mg.length),fM vZ M 4 1 T,(jw o)] w1/\ux d T i/\i<=(d.mI d.mg.length).length) (fun(i,T)=>(d.mI d.mg.length).length-i) (0,(List.replicate 12 false)) ⟨rfl,rfl,rfl,rfl,gr rO,trivial⟩ (⟨ae,ux.start,o_⟩) ?_
 rintro⟨i,T⟩ av af ⟨aF,hG,hi⟩
 have a0:=hG.len
 refine fR aF 5 ?_
 refine jm (m:=(d.mI d.mg.length).length) 3 rfl rfl uf aF rfl ?_
 by_cases aw:((i:Int):Int)<(((d.mI d.mg.length).length:Int):Int)
 . have aG:i<d.f.length:=by omega
   have F:=Vk.abP aD aU aG
   have aZ:=F.lt
   have aV:0<=(fJ (d.mI d.mg.length) i).a/\(fJ (d.mI d.mg.length) i).a<12:=aE.Su aH.2.1 aM F.ia
   have aI:0<=(fJ (d.mI d.mg.length) i).b/\(fJ (d.mI d.mg.length) i).b<12:=aE.Su aH.2.1 aM F.ib
   have aJ:=aD.fg.st aG
   have aK:fJ T (fJ (d.mI d.mg.length) i).a.toNat=false:=hG.no aD aG o_ aJ.2.2.1 aV F.ea
   have aL:fJ T (fJ (d.mI d.mg.length) i).b.toNat=false:=hG.no aD aG aJ.2.1 aJ.2.2.2.1 aI F.eb
   have aO:=aE.cnt F.ia
   have aP:=aE.cnt F.ib
   refine gO aF 13 fun ax B=>?_
   refine sU (cf:=jT.cells) (k:=i) (off:=0) (off' := 0) (i:=0) rfl rfl rfl y8 jx d_ rfl (iO B 3 rfl) (gz om) (fK B 4 ?_)
   refine sU (cf:=jT.cells) (k:=i) (off:=0) (off' := 1) (i:=1) rfl rfl rfl y8 jx d_ rfl (iO B 3 rfl) (gz om) (gO B 10 fun ay h=>?_)
   refine cmp rfl rfl rfl (oG o_) (fK h 2 ?_)
   refine cmp rfl rfl rfl (oG o_) (fK h 4 ?_)
   refine iP (cf:=vZ) (k:=((fJ (d.mI d.mg.length) i).a).toNat) (i:=(fJ (d.mI d.mg.length) i).a) rfl rfl rfl DA ve (iO h 5 rfl) o_ o_ (gz om) (fK h 3 ?_)
   cases N:(fJ T (((fJ (d.mI d.mg.length) i).a).toNat):Bool)
   . skip
     refine fK h 2 ?_
     refine iP (cf:=vZ) (k:=((fJ (d.mI d.mg.length) i).b).toNat) (i:=(fJ (d.mI d.mg.length) i).b) rfl rfl rfl DA ve (iO h 5 rfl) o_ o_ (gz om) (fK h 3 ?_)
     cases O:(fJ T (((fJ (d.mI d.mg.length) i).b).toNat):Bool)
     . skip
       refine fK h 1 ?_
       by_cases az:((i:Int):Int)>(0:Int)
       . refine fK h 5 ?_
         refine iP (cf:=gh) (k:=(i-1)) (i:=(i:Int)-1) rfl rfl rfl y0 ti2 (iO h 4 rfl) o_ o_ (gz om) (fK h 5 ?_)
         refine cmp rfl rfl rfl (pR (by have:=F.mono (i-1) o_;omega)) (fK h 11 ?_)
         refine iP (cf:=vZ) (k:=((fJ (d.mI d.mg.length) i).b).toNat) (i:=(fJ (d.mI d.mg.length) i).b) rfl rfl rfl DA ve (iO h 5 rfl) o_ o_ (gz om) (iQ (f:=(fun _=>true)) 5 h (fun ag P=>?_))
         have ah:=yg [0,1,2,6,3,4,5] P
         have Q:=yc [_,_,_,_] _ ah
         refine fK P 7 ?_
         refine cl IS (TZ cG s p j d aE 1 ag (ye Q 0 rfl) ((fJ (d.mI d.mg.length) i).a) ((fJ (d.mI d.mg.length) i).b) aO aP (z:=(fJ (d.mH d.mg.length) i)) F.mm) ?_
         rintro _ aA ⟨rfl,ai⟩
         have G:=(ym Q ai)
         refine fK G 23 ?_
         refine cmp rfl rfl rfl (oW (Eq.refl _)) (fQ G 12 ?_)
         refine tN (?_)
         have aj:=yg [0,1,2,4,5,6,3] G
         exact again ((i+1),fO T (((fJ (d.mI d.mg.length) i).b).toNat) (fun _=>true)) ⟨rfl,rfl,rfl,rfl,gr rO,trivial⟩ (⟨aj,hG.next aI F.eb,o_⟩) (by show ((d.mI d.mg.length).length-(i+1):Nat)<(d.mI d.mg.length).length-i;omega)
       . refine fK h 23 ?_
         refine iP (cf:=vZ) (k:=((fJ (d.mI d.mg.length) i).b).toNat) (i:=(fJ (d.mI d.mg.length) i).b) rfl rfl rfl DA ve (iO h 5 rfl) o_ o_ (gz om) (iQ (f:=(fun _=>true)) 5 h (fun ak S=>?_))
         have al:=yg [0,1,2,6,3,4,5] S
         have U:=yc [_,_,_,_] _ al
         refine fK S 7 ?_
         refine cl IS (TZ cG s p j d aE 1 ak (ye U 0 rfl) ((fJ (d.mI d.mg.length) i).a) ((fJ (d.mI d.mg.length) i).b) aO aP (z:=(fJ (d.mH d.mg.length) i)) F.mm) ?_
         rintro _ aB ⟨rfl,am⟩
         have H:=(ym U am)
         refine fK H 23 ?_
         refine cmp rfl rfl rfl (oW (Eq.refl _)) (fQ H 12 ?_)
         refine tN (?_)
         have an:=yg [0,1,2,4,5,6,3] H
         exact again ((i+1),fO T (((fJ (d.mI d.mg.length) i).b).toNat) (fun _=>true)) ⟨rfl,rfl,rfl,rfl,gr rO,trivial⟩ (⟨an,hG.next aI F.eb,o_⟩) (by show ((d.mI d.mg.length).length-(i+1):Nat)<(d.mI d.mg.length).length-i;omega)
     . skip
       refine fQ h 30 ?_
       refine gp (v:=Zn) Tryz.results4 rfl ?_
       first|exact absurd (aK.symm.trans O) d_|exact absurd (aL.symm.trans O) d_
   . skip
     refine fQ h 36 ?_
     refine gp (v:=Zn) Tryz.results4 rfl ?_
     first|exact absurd (aK.symm.trans N) d_|exact absurd (aL.symm.trans N) d_
 . refine fK aF 11 ?_
   refine cl Yd (ago af (ye aF 6 rfl)) ?_
   rintro _ aC ⟨rfl,ht⟩
   have V:=yk 6 aF ht
   refine fQ V 4 ?_
   refine gp (v:=Zf) Tryz.results4 rfl ?_
   have ao:=yg [6] V
   exact⟨rfl,yo ao⟩
theorem QN(lv:Value)(xs:List Mw){o:Obj}(w:World)(d:iz 5 Mw.cells (fun _=>True) w lv xs)(e:∀ x∈xs,x.mv.ok)(a:(jw o).holds w):CR ya 4 #[lv] w (fun r w' => r = .bool true/\gA [] w w') :=
 CR.mono (abu lv xs w d e (afc a)) fun r w' ⟨b,c⟩=>⟨b,afa a c⟩
end
end Go.Proofs.YthpnckhjmbbalaaGreatDoor
