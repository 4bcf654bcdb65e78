/- Walks through code, under what is said of arguments. -/
import Derived.Test.YtedjjkcihkmjgaaGreatDoorVf
set_option linter.unusedVariables false
set_option linter.unusedSimpArgs false
set_option maxRecDepth 100000
set_option maxHeartbeats 4000000
namespace Go.Proofs.YtedjjkcihkmjgaaGreatDoor
open Go Go.Sx Go.Proofs.Tryz
variable{j k:Nat}{H:List (Value×List Lk)}{T:Int}(b n:Nat)(v:Value)(xs:List Int)(a:Int)(q:Gr)(es:List Ge)(w:World)
theorem Yh(n:Nat)(f:List Nat)(u:iN es n f)(x:n<=4096)(i k j th m:Value)(w:World)(q:Own (Dj i (fO es n f) k j th m) w) :
 CR ya 259 (C8 n i k j th m) w (fun r w' => ∃ o,r = .func (.func 319) #[] (Zg o)/\fP (Dj i (fO es n f) k j th m) w w' (fN [cL fQ i 3 1 ((fO es n f).l),cL fQ k 3 1 ((fO es n f).r),cL fQ j 3 1 ((fO es n f).p),cL fQ th 2 1 ((fO es n f).h),cL fL m 3 1 ((fO es n f).s),blk o 102 (Zs n i k j th m)])):=by
 refine ja func259 q 2 fun t=>?_
 refine gN t (fun a d e g b=>?_)
 refine cH b 5 ?_
 refine kW (vf:=[]) (vc:=(Ze a)) rfl rfl rfl (fK b 4 ?_)
 refine gT (v:=(.func (.func 319) #[] (Zg a))) results259 rfl ?_
 have c:=ye [1,2,3,4,5,0] b
 exact⟨a,rfl,yk c⟩
theorem Yg(n:Nat)(f:List Nat)(u y s th z:Value)(o:Nat->fJ)(l q:Nat)(w:World)(D:∀ (x:Nat) (bs:List (World×List Nat)) (L:List fJ) (w1:World),x<n+f.length->St bs (o (x+1) :: L) w1->YR ya l (Zm x (cE (fO es n f).p x)) w1 (fun v w' => v = .bool true/\St bs (o x :: L) w'))(B:Own (Fm (o (n+f.length)) q n u y s th z ((fO es n f).p)) w)(M:n+f.length<=1000000) :
 CR ya 319 (Da (.func (.yield l) #[] #[]) q) w (fun r w' => r = .tuple #[]/\fP (Fm (o (n+f.length)) q n u y s th z ((fO es n f).p)) w w' (Fm (o 0) q n u y s th z ((fO es n f).p))):=by
 refine gj func319 ?_
 have A:=Own.of B
 obtain⟨G,H,I,J,K⟩:=mK (es:=es) (n:=n) (f:=f)
 refine fM A 4 ?_
 refine iA (m:=((fO es n f).p).length) 2 rfl rfl yc A rfl (gL (e:=((n+f.length:Nat):Int)-1) rfl iX (fZ A 4 ?_))
 refine lp (α:=Nat) (fun j=>[(0,(.func (.yield l) #[] #[])),(1,(Zb q)),(3,(Za ((j:Int)-1)))]) (fun j w1=>St [(w,(Fm (o (n+f.length)) q n u y s th z ((fO es n f).p)).gq)] [o j,blk q 102 (Zs n u y s th z),cL fQ s 3 1 ((fO es n f).p)] w1/\j<=n+f.length) (fun j=>j) (n+f.length) oh (⟨A,o_⟩) ?_
 rintro j c d ⟨t,E⟩
 have F:(j:Int)-1<(fO es n f).p.length:=by omega
 refine fM t 4 ?_
 by_cases g:(((j:Int)-1):Int)≥0
 . obtain⟨x,C⟩:∃ x,j=x+1:=⟨j-1,o_⟩
   refine cH t 1 ?_
   subst C
   rw[show ((x+1:Nat):Int)-1=(x:Int) by omega]
   have a:=t
   refine cH a 14 ?_
   refine iH (cf:=fQ) (k:=x) (i:=((x:Int))) rfl rfl rfl yc fU (yv a 2 rfl) o_ o_ (fW om) (cH a 1 ?_)
   refine yl (vl:=(Zm x (cE ((fO es n f).p) x))) rfl rfl rfl (D x _ _ _ o_ a) ?_
   rintro _ h ⟨rfl,b⟩
   refine cH b 9 ?_
   refine gL (e:=((x:Nat):Int)-1) rfl (kX o_) (fK b 2 ?_)
   exact gM x oh (⟨b,o_⟩) o_
 . refine jU t 8 ?_
   obtain rfl:j=0:=by omega
   exact⟨rfl,yk t⟩
theorem aev(n:Nat)(f:List Nat)(hF:iN es n f)(hn:n<=4096)(F tr tp th ts:Value)(T:Int)(w:World)(hO:Own (Dj F (fO es n f) tr tp th ts) w) :
 CR ya 190 (Bk n F tr tp th ts T) w (fun r w' => ∃ (v:Value),r = .tuple (vD v)/\fP (Dj F (fO es n f) tr tp th ts) w w' (fN [cL fQ F 3 1 ((fO es n f).l),cL fQ tr 3 1 ((fO es n f).r),cL fQ tp 3 1 ((fO es n f).p),cL fQ th 2 1 ((fO es n f).h),cL fL ts 3 1 ((fO es n f).s),cL fL v 3 1 (iI es n f T)])):=by
 refine uc (vs:=[(Bo n F tr tp th ts),(Za T)]) func190 rfl ntmps190 rfl ?_
 have aM:=Own.of hO
 obtain⟨aT,aU,aV,aW,aX⟩:=mK (es:=es) (n:=n) (f:=f)
 have aS:=hF.f.room hF.g
 refine fM aM 2 ?_
 refine gN aM (fun b ak al am J=>?_)
 refine gN J (fun c K an ao e=>?_)
 refine cH e 7 ?_
 refine cl (KP es n f hF hn F tr tp th ts K ⟨(yv e 2 rfl).any,(yv e 3 rfl).any,(yv e 4 rfl).any,(yv e 5 rfl).any,(yv e 6 rfl).any⟩) ?_
 rintro _ M ⟨m,rfl,ht⟩
 have q:=(y9 e ht)
 refine cH q 20 ?_
 refine cl (DA m ((EZ n f).map (gJ es n f)) M (yv q 0 rfl).any (by first|omega|(simp;omega))) ?_
 rintro a N hz
 have O:=tB q hz.2 hz.1
 refine ir O (fun j ap aq ar t=>?_)
 refine iS 0 t (fun P B=>?_) (hvs:=(cells_one (yh t (i:=1) rfl))) (h1:=(gD (yh t (i:=1) rfl) je))
 have Q:=ye [5,6,7,8,9,0,1,2,3,4] B
 have C:=yd [_,_,_,_,_] _ Q
 refine cH B 6 ?_
 refine cl (Yh es n f hF hn F tr tp th ts P (yg C 0 rfl)) ?_
 rintro _ au ⟨o,rfl,R⟩
 have D:=(yw C R)
 have S:=y0 7 D rfl (show _=(lM es n f T (n+f.length)) from aaX.symm)
 have U:=ye [10,9,6,7,3,0,1,2,4,5,8] S
 refine fZ D 3 ?_
 refine rf (α:=Nat) (ps:=[22,23]) (fi:=[]) (ca:=(Ze o)) (fun z=>[blk b 102 (Zs n F tr tp th ts),blk c 2 (Zd T),blk j 37 [a],cL fL a 3 1 (lM es n f T z),cL fQ th 2 1 ((fO es n f).h),cL fQ F 3 1 ((fO es n f).l),cL fQ tr 3 1 ((fO es n f).r),cL fQ tp 3 1 ((fO es n f).p),cL fL ts 3 1 ((fO es n f).s),blk o 102 (Zs n F tr tp th ts),cL fL m 3 1 ((EZ n f).map (gJ es n f))]) (fun z=>z=0) U rfl eN ?_ ?_
 . intro fn dd l wl rc aI aQ
   have V:=ye [0,2,3,4,5,6,1,7,8,9,10,11,12] aQ
   have aO:=yd (Fc (gK l rc) b n F tr tp th ts c T j a (lM es n f T (n+f.length)) ((fO es n f).h)) [jy dd (some []),cL fQ F 3 1 ((fO es n f).l),cL fQ tr 3 1 ((fO es n f).r),cL fQ tp 3 1 ((fO es n f).p),cL fL ts 3 1 ((fO es n f).s),blk o 102 (Zs n F tr tp th ts),cL fL m 3 1 ((EZ n f).map (gJ es n f))] V
   have aF:rc.state = .ready:=by rw[aI]
   have aH:rc.pending=none:=by rw[aI]
   have aP:∀ (x:Nat) (bs:List (World×List Nat)) (L:List fJ) (w1:World),x<n+f.length->St bs ((fun(z:Nat)=>fN (Fc (gK l rc) b n F tr tp th ts c T j a (lM es n f T z) ((fO es n f).h))) (x+1) :: L) w1->YR ya l (Zm x (cE (fO es n f).p x)) w1 (fun v w' => v = .bool true/\St bs ((fN (Fc (gK l rc) b n F tr tp th ts c T j a (lM es n f T x) ((fO es n f).h))) :: L) w'):=by
    intro x bs LT wr aG aE
    have aE:=aE.unpack
    have aY:=hF.rY.up x o_
    have aN:=zM (es:=es) (n:=n) (f:=f) (T:=T) (x:=x+1)
    refine tq (vl:=(Zm x (cE (fO es n f).p x))) 0 aI aE rfl rfl rfl (jh aE 8 ?_)
    refine tN (tW 0 aE rfl aF rfl (fun av W=>ny W 4 fun aw d=>?_))
    by_cases ax:((cE (fO es n f).p x):Int)≥0
    . refine cH d 5 ?_
      refine iH (cf:=fQ) (k:=(cE (fO es n f).p x).toNat) (i:=(cE (fO es n f).p x)) rfl rfl rfl yr ti2 (yv d 5 rfl) o_ o_ (fW om) (cH d 2 ?_)
      by_cases ay:((cE ((fO es n f).h) ((cE (fO es n f).p x).toNat)):Int)<=(T:Int)
      . refine gh d 10 fun az u=>?_
        refine iH (cf:=fL) (k:=(cE (fO es n f).p x).toNat) (i:=(cE (fO es n f).p x)) rfl rfl rfl yc fU (yv u 4 rfl) o_ o_ (fW om) (cH u 2 ?_)
        refine iz (f:=(fun _=>(cE (lM es n f T (x+1)) ((cE (fO es n f).p x).toNat)))) 4 u (fun aA E=>?_)
        refine fK E 2 ?_
        refine qa 0 E rfl aF aH rfl ?_
        intro aB X
        have Y:=y0 4 X rfl ((aaZ hF aG o_ o_).2)
        exact⟨_,rfl,rfl,yd [_,_,_,_,_,_] _ Y⟩
      . refine fK d 7 ?_
        refine qa 0 d rfl aF aH rfl ?_
        intro aC Z
        have aa:=y0 4 Z rfl (Ri hF aG o_)
        exact⟨_,rfl,rfl,yd [_,_,_,_,_,_] _ aa⟩
    . refine fK d 15 ?_
      refine qa 0 d rfl aF aH rfl ?_
      intro aD ab
      have ac:=y0 4 ab rfl (Ri hF aG o_)
      exact⟨_,rfl,rfl,yd [_,_,_,_,_,_] _ ac⟩
   have ad:=lJ aO (List.Perm.cons _ (List.Perm.cons _ (List.Perm.cons _ (List.Perm.cons _ (List.Perm.cons _ (List.Perm.swap _ _ _))))))
   have ae:=ye [0,5,4,1,2,3,6,7] ad
   have aL:=yd [_,_,_] _ ae
   refine CR.mono (Yg es n f F tr tp th ts (fun(z:Nat)=>fN (Fc (gK l rc) b n F tr tp th ts c T j a (lM es n f T z) ((fO es n f).h))) l o wl aP (yg aL 0 rfl) o_) ?_
   rintro _ w9 ⟨-,aR⟩
   have aK:=(yw aL aR)
   have aJ:=yp aK
   have aK:=aJ
   have af:=ye [0,8,1,2,3,4,5,9,10,7,11,6,12] aK
   exact⟨_,rfl,af⟩
 . rintro z dd G hC ag
   have y:=y0 4 ag rfl (show _=(lM es n f T 0) by rw[hC])
   have aN:=zM (es:=es) (n:=n) (f:=f) (T:=T) (x:=0)
   refine zX tt none y 7 ?_
   refine D3 (l:=0) (h:=n) rfl rfl yc fU (yv (cf:=fL) y 4 rfl) rfl ⟨_,js o_⟩ o_ o_ ?_
   have H:St _ [jy dd (some []),blk b 102 (Zs n F tr tp th ts),blk c 2 (Zd T),blk j 37 [a],cL fL (jL 1 a 0 n) 3 1 ((lM es n f T 0).take n),cL fQ th 2 1 ((fO es n f).h),cL fQ F 3 1 ((fO es n f).l),cL fQ tr 3 1 ((fO es n f).r),cL fQ tp 3 1 ((fO es n f).p),cL fL ts 3 1 ((fO es n f).s),blk o 102 (Zs n F tr tp th ts),cL fL m 3 1 ((EZ n f).map (gJ es n f))] G:=St.G6 y (i:=4) rfl f_ o_
   refine cl (DA (jL 1 a 0 n) ((lM es n f T 0).take n) G (yv H 4 rfl).any (by first|omega|(simp;omega))) ?_
   rintro A ah hz
   have I:=tB H hz.2 hz.1
   refine fK I 5 ?_
   refine uU 1 I rfl rfl ?_
   intro w8 aJ
   have ai:=y0 0 aJ rfl (aaY (zh _))
   have aj:=ye [7,8,9,6,10,0] ai
   exact⟨_,results_tmp2 results190 _ _ _,_,rfl,by rw[ox,ox];exact⟨A,rfl,yk aj⟩⟩
theorem aaL :
 CR ya 118 #[(.map (some b))] w (fun r w' => ∃ g,r = .func (.func 192) #[] (Zg g)/\fP (fN []) w w' (blk g 217 [(.map (some b))])):=by
 refine iE func118 2 fun h=>?_
 refine gN h (fun a d e f c=>?_)
 refine cH c 5 ?_
 refine kW (vf:=[]) (vc:=(Ze a)) rfl rfl rfl (fK c 4 ?_)
 refine gT (v:=(Jb a)) results118 rfl ?_
 exact⟨a,rfl,me c⟩
theorem aaK{γ:Type}(F:γ->fJ)(G:γ->List Int)(z0:γ)(b I:Nat)(mm:List (Int×Nat))(l:Nat)(w:World)(T:∀ (z:γ) (x:Int) (bs:List (World×List Nat)) (L:List fJ) (w1:World),(G z).length<mm.length->x∈mm.map Prod.fst->St bs (F z :: L) w1->YR ya l (Zd x) w1 (fun v w' => v = .bool true/\∃ N,G N=G z++[x]/\St bs (F N :: L) w'))(U:G z0=[])(O:Own (fN [F z0,blk I 217 [(.map (some b))],gP b .i64 (fun x:Nat=>Value.int .i64 (x:Int)) mm]) w) :
 CR ya 192 (Da (.func (.yield l) #[] #[]) I) w (fun r w' => ∃ z:γ,r = .tuple #[]/\(G z).Perm (mm.map Prod.fst)/\fP (fN [F z0,blk I 217 [(.map (some b))],gP b .i64 (fun x:Nat=>Value.int .i64 (x:Int)) mm]) w w' (fN [F z,blk I 217 [(.map (some b))],gP b .i64 (fun x:Nat=>Value.int .i64 (x:Int)) mm])):=by
 refine ja func192 O 3 fun R=>?_
 refine Tq (k:=.i64) (enc:=(fun x:Nat=>Value.int .i64 (x:Int))) (mm:=mm) 2 rfl rfl Cw R rfl (fun e t f=>fZ f 3 ?_)
 refine lp (α:=γ×List (Int×Nat)×List (Int×Nat)×(Option (Int×Nat))) (fun(z,E,H,cur)=>[(0,(.func (.yield l) #[] #[])),(5,(Zb e))]) (fun(z,E,H,cur) w1=>St [(w,(fN [F z0,blk I 217 [(.map (some b))],gP b .i64 (fun x:Nat=>Value.int .i64 (x:Int)) mm]).gq)] [(F z),blk I 217 [(.map (some b))],mP b e .i64 (fun x:Nat=>Value.int .i64 (x:Int)) mm H cur] w1/\(E++H).Perm mm/\G z=E.map Prod.fst) (fun(z,E,H,cur)=>H.length) (z0,[],mm,none) oh (⟨f,List.Perm.refl _,U⟩) ?_
 rintro⟨z,E,H,cur⟩ u y ⟨K,J,M⟩
 obtain⟨m,A⟩:∃ q,RX ya K (i:=2) rfl=q:=⟨_,rfl⟩
 refine fM K 2 ?_
 rcases m with ⟨g,n⟩|⟨a,h,B,c⟩
 . skip
   refine GY rfl rfl (n _) ?_
   have C:=g
   refine jU K 9 ?_
   have o:=St.RW K (i:=2) rfl
   exact⟨z,rfl,by rw[g,sC]at J;rw[M];exact J.map _,yk o⟩
 . skip
   refine GY rfl rfl (c.run _) ?_
   have d:=c.st
   refine cH d 10 ?_
   refine Qi (p:=a) 2 rfl rfl d rfl ?_
   have Q:=c.perm.length_eq
   have P:=J.length_eq
   refine cH d 8 ?_
   rw[zb]at Q
   rw[zk]at P
   have W:(G z).length=E.length:=by rw[M,zm]
   have S:a.1∈mm.map Prod.fst:=zq.2 ⟨a,J.mem_iff.1 (zj.2 (.inr (c.perm.mem_iff.2 za))),rfl⟩
   refine yl (vl:=(Zd a.1)) rfl rfl rfl (T z _ _ _ _ o_ S d) ?_
   rintro _ D ⟨rfl,s,V,j⟩
   refine fK j 6 ?_
   exact gM (s,(E++[a]),h,(some a)) oh (⟨j,by rw[z6];exact(List.Perm.append_left E c.perm.symm).trans J,by rw[V,M,ni];rfl⟩) (by show h.length<H.length;omega)
theorem Wc(N:Nat)(mm:List (Int×Nat))(w:World)(X:Own (fN [blk N 217 [(.map (some b))],gP b .i64 (fun x:Nat=>Value.int .i64 (x:Int)) mm]) w)(ag:mm.length<=1000000) :
 CR ya 260 #[Zh,(Jb N)] w (fun r w' => ∃ (v:Value) (F:List Int),v=r/\F.Perm (mm.map Prod.fst)/\fP (fN [blk N 217 [(.map (some b))],gP b .i64 (fun x:Nat=>Value.int .i64 (x:Int)) mm]) w w' (fN [blk N 217 [(.map (some b))],gP b .i64 (fun x:Nat=>Value.int .i64 (x:Int)) mm,cL fQ v 3 1 F])):=by
 refine uc (vs:=[Zh,(Jb N)]) func260 rfl ntmps260 rfl ?_
 have U:=Own.of X
 refine fM U 2 ?_
 refine gN U (fun a k A B e=>?_)
 have m:=nU e 3 1
 have n:=ye [1,0,2,3] m
 have o:=n
 refine fZ e 10 ?_
 refine rf (α:=Value×List Int) (ps:=[7]) (fi:=[]) (ca:=(Ze N)) (fun(v,F)=>[blk a 37 [v],cL fQ v 3 1 F,blk N 217 [(.map (some b))],gP b .i64 (fun x:Nat=>Value.int .i64 (x:Int)) mm]) (fun(v,F)=>F.Perm (mm.map Prod.fst)) o rfl eN ?_ ?_
 . intro fn dd l wl rc P ae
   have p:=ye [0,2,3,4,5,1] ae
   have Z:=yd [gK l rc,blk a 37 Z4,cL fQ Zh 3 1 ([])] [blk N 217 [(.map (some b))],gP b .i64 (fun x:Nat=>Value.int .i64 (x:Int)) mm,jy dd (some [])] p
   have T:rc.state = .ready:=by rw[P]
   have ab:rc.pending=none:=by rw[P]
   have ac:∀ (z:Value×List Int) (x:Int) (bs:List (World×List Nat)) (L:List fJ) (w1:World),((Prod.snd:Value×List Int->List Int) z).length<mm.length->x∈mm.map Prod.fst->St bs ((fun((v,F):Value×List Int)=>fN [gK l rc,blk a 37 [v],cL fQ v 3 1 F]) z :: L) w1->YR ya l (Zd x) w1 (fun v w' => v = .bool true/\∃ V,(Prod.snd:Value×List Int->List Int) V=(Prod.snd:Value×List Int->List Int) z++[x]/\St bs ((fun((v,F):Value×List Int)=>fN [gK l rc,blk a 37 [v],cL fQ v 3 1 F]) V :: L) w'):=by
    intro z x bs R wr Y ah O
    have O:=O.unpack
    have ai:z.2.length<mm.length:=Y
    refine tq (vl:=(Zd x)) 0 P O rfl rfl rfl (jh O 3 ?_)
    refine tN (tW 0 O rfl T rfl (fun C f=>fM f 4 ?_))
    refine jB (vs:=(Zd x)) (cs:=(Zd x)) rfl rfl yc fU rfl (by simp[Value.cells]) rfl rfl rfl f (fun q D E G g=>kR (cf:=fQ) (ys:=z.2) (zs:=[x]) (LL:=fun c=>(iD .i64 (Zu q) 3 ([x]) :: gK l { rc with state:=.busy } :: blk a 37 [z.1] :: cL fQ c 3 1 (z.2++[x]) :: R)) 3 rfl rfl rfl yc fU rfl d_ g rfl (kG g (i:=0) rfl) (fun x hx=>zr.1 (show List.all _ _=true from rfl) x hx) (by simp only[zb,zd,maxLen];omega) (by simp only[zb,zd,maxLen];omega) f_ ?_)
    intro c H s I
    have d:=St.sub (L' := (gK l { rc with state:=.busy } :: blk a 37 [z.1] :: cL fQ c 3 1 (z.2++[x]) :: R)) s (List.Sublist.cons _ (List.Sublist.refl _))
    refine iS 1 d (fun J h=>?_) (hvs:=(cells_one (yh d (i:=2) rfl))) (h1:=(gD (yh d (i:=2) rfl) je))
    refine fK h 2 ?_
    refine qa 0 h rfl T ab rfl ?_
    intro K t
    exact⟨_,rfl,rfl,(c,z.2++[x]),rfl,yd [_,_,_] _ t⟩
   have S:=yd [_,_,_] _ Z
   refine CR.mono (aaK (fun((v,F):Value×List Int)=>fN [gK l rc,blk a 37 [v],cL fQ v 3 1 F]) Prod.snd (.slice none 0 0,[]) b N mm l wl ac rfl (yg S 0 rfl)) ?_
   rintro _ w9 ⟨z,-,aa,af⟩
   have Q:=yp (yw S af)
   have ad:=Q
   have u:=ye [0,5,1,2,3,4] ad
   exact⟨(z.1,z.2),aa,u⟩
 . rintro⟨v,F⟩ dd M W j
   refine rX tt none j 9 ?_
   refine uU 0 j rfl rfl ?_
   intro w8 Q
   have y:=ye [3,4,2,0,1] Q
   exact⟨_,results_tmp results260 _ _ _,_,rfl,by rw[ox];exact⟨v,F,rfl,W,yk y⟩⟩
theorem XQ(i:Nat)(mm:List (Int×Nat))(w:World)(l:Own (fN [blk i 217 [(.map (some b))],gP b .i64 (fun x:Nat=>Value.int .i64 (x:Int)) mm]) w)(m:mm.length<=1000000) :
 CR ya 191 (N4 i) w (fun r w' => ∃ (v:Value) (k:List Int),v=r/\k.Perm (mm.map Prod.fst)/\fP (fN [blk i 217 [(.map (some b))],gP b .i64 (fun x:Nat=>Value.int .i64 (x:Int)) mm]) w w' (fN [blk i 217 [(.map (some b))],gP b .i64 (fun x:Nat=>Value.int .i64 (x:Int)) mm,cL fQ v 3 1 k])):=by
 refine gj func191 ?_
 have j:=Own.of l
 have a:=yd [_,_] _ j
 refine fM j 8 ?_
 refine cl (Wc b i mm w (yg a 0 rfl) m) ?_
 rintro _ h ⟨c,e,rfl,f,g⟩
 have d:=(yw a g)
 refine gm d 4 c ?_
 exact⟨c,e,rfl,f,yk d⟩
theorem abf(x y:Int)(w:World) :
 CK ya 159 (Zx x y) w (.bool (decide (x<y))):=by
 refine iE func159 8 fun b=>?_
 refine ig b (Lf x w) fun c a=>cH a 8 ?_
 by_cases d:(x:Int)<(y:Int)
 . refine gm a 6 Zi ?_
   exact⟨congrArg Value.bool (decide_eq_true o_).symm,a.gf s_⟩
 . refine gm a 6 Zp ?_
   exact⟨congrArg Value.bool (decide_eq_false o_).symm,a.gf s_⟩
theorem aav(I:Own (sL v xs) w)(L:xs.length<=1000000) :
 CR ya 153 #[v,Zc,(Za xs.length)] w (fun r w' => ∃ ys:List Int,r = .tuple #[]/\(ys.Perm xs/\nr ys ys.length)/\fP (sL v xs) w w' (sL v ys)):=by
 refine gj func153 ?_
 have G:=yy I
 refine oW G 8 ?_
 refine lp (α:=Nat×List Int) (fun(i,ys)=>[(0,v),(1,Zc),(2,(Za xs.length)),(6,(Za i))]) (fun(i,ys) w1=>St [(w,(sL v xs).gq)] [cL fQ v 3 1 ys] w1/\ys.Perm xs/\nr ys i/\1<=i) (fun(i,ys)=>xs.length+1-i) (1,xs) oh (⟨G,List.Perm.refl _,nr.zero,o_⟩) ?_
 rintro⟨i,ys⟩ m n ⟨l,D,E,hi⟩
 have M:=D.length_eq
 refine fM l 5 ?_
 by_cases o:(i:Int)<(xs.length:Int)
 . refine fZ l 15 ?_
   refine lp (α:=Nat×List Int) (fun(j,zs)=>[(0,v),(1,Zc),(2,(Za xs.length)),(6,(Za i)),(7,(Za j))]) (fun(j,zs) w1=>St [(w,(sL v xs).gq)] [cL fQ v 3 1 zs] w1/\zs.Perm xs/\uF zs i j/\j<=i) (fun(j,zs)=>j) (i,ys) oh (⟨l,D,E.at,o_⟩) ?_
   rintro⟨j,zs⟩ s t ⟨J,C,B,F⟩
   have N:=C.length_eq
   refine ny J 5 fun h a=>?_
   by_cases u:(j:Int)>0
   . refine cH a 9 ?_
     refine iH (cf:=fQ) (k:=(j-1)) (i:=(j:Int)-1) rfl rfl rfl yc fU (yv a 0 rfl) o_ o_ (fW om) (cH a 1 ?_)
     refine ig a (abf (cE zs j) (cE zs (j-1)) h) fun x b=>fZ b 3 ?_
     cases d:(decide ((cE zs j)<(cE zs (j-1))):Bool)
     . skip
       refine jh b 12 ?_
       exact gM ((i+1),zs) oh (⟨b,C,B.done o_ F (of_decide_eq_false d),o_⟩) o1
     . skip
       refine ny b 14 fun y c=>?_
       refine iH (cf:=fQ) (k:=(j-1)) (i:=(j:Int)-1) rfl rfl rfl yc fU (yv c 0 rfl) o_ o_ (fW om) (cH c 6 ?_)
       refine iz (f:=(fun _=>(cE zs (j-1)))) 0 c (fun z e=>?_)
       refine iH (cf:=fQ) (k:=(j-1)) (i:=(j:Int)-1) rfl rfl rfl yc fU (yv e 0 rfl) o_ o_ (fW om) (iz (f:=(fun _=>(cE zs j))) 0 e (fun A g=>?_))
       refine fK g 8 ?_
       exact gM ((j-1),cO (cO zs j (fun _=>(cE zs (j-1)))) (j-1) (fun _=>(cE zs j))) oh (⟨g,(T2 o_ o_).trans C,B.swap o_ F o_ (of_decide_eq_true d),o_⟩) o1
   . refine fK a 27 ?_
     exact gM ((i+1),zs) oh (⟨a,C,(by rw[show j=0 by omega]at B;exact B.Qe),o_⟩) o1
 . refine jU l 8 ?_
   exact⟨ys,rfl,⟨D,fun p q H K=>E p q H o_⟩,iM l⟩
theorem ade(i:Own (sL v xs) w)(z:Int)(j:xs.length<=12) :
 CR ya 91 (N7 v xs.length z) w (fun r w' => ∃ ys:List Int,r = .tuple #[]/\(ys.Perm xs/\nr ys ys.length)/\fP (sL v xs) w w' (sL v ys)):=by
 refine gj func91 ?_
 have h:=yy i
 refine oW h 11 ?_
 refine lp (α:=Nat) (fun k=>[(0,v),(1,Zc),(2,(Za xs.length)),(3,(Za z)),(8,Zi),(9,Zi)]) (fun k w1=>St [(w,(sL v xs).gq)] [cL fQ v 3 1 xs] w1) (fun k=>0) 0 oh h ?_
 rintro k e b g
 refine fM g 13 ?_
 refine gz rfl (vH o_) (cH g 8 ?_)
 refine cl (aav v xs b (yg g 0 rfl) o_) ?_
 rintro _ f ⟨c,rfl,d,ht⟩
 have a:=yt 0 g ht
 refine fK a 7 ?_
 refine xH results91 ?_
 exact⟨c,rfl,d,iM a⟩
theorem TP(j:Own (sL v xs) w)(k:xs.length<=12) :
 CR ya 45 #[v] w (fun r w' => ∃ ys:List Int,r = .tuple #[]/\(ys.Perm xs/\nr ys ys.length)/\fP (sL v xs) w w' (sL v ys)):=by
 refine gj func45 ?_
 have i:=yy j
 refine fM i 3 ?_
 refine iA (m:=xs.length) 0 rfl rfl yc i rfl (cH i 8 ?_)
 refine cl (Jp xs.length w o_) ?_
 rintro _ c ⟨d,rfl,e⟩
 have a:=lI i e
 refine cl (ade v xs c (yg a 0 rfl) d k) ?_
 rintro _ h ⟨f,rfl,g,ht⟩
 have b:=yt 0 a ht
 refine jU b 1 ?_
 exact⟨f,rfl,g,iM b⟩
theorem afJ(m:Nat)(mm:List (Int×Nat))(w:World)(q:Own (fN [blk m 217 [(.map (some b))],gP b .i64 (fun x:Nat=>Value.int .i64 (x:Int)) mm]) w)(s:mm.length<=1000000)(t:mm.length<=12) :
 CR ya 117 (N4 m) w (fun r w' => ∃ (v:Value) (ys:List Int),v=r/\(∃ o,o.Perm (mm.map Prod.fst)/\ys.Perm o/\nr ys ys.length)/\fP (fN [blk m 217 [(.map (some b))],gP b .i64 (fun x:Nat=>Value.int .i64 (x:Int)) mm]) w w' (fN [blk m 217 [(.map (some b))],gP b .i64 (fun x:Nat=>Value.int .i64 (x:Int)) mm,cL fQ v 3 1 ys])):=by
 refine gj func117 ?_
 have n:=Own.of q
 have d:=yd [_,_] _ n
 refine fM n 8 ?_
 refine cl (XQ b m mm w (yg d 0 rfl) s) ?_
 rintro _ h ⟨a,i,rfl,e,j⟩
 have c:=(yw d j)
 refine cH c 6 ?_
 refine cl (TP a i h (yg c 2 rfl) (by have p:=e.length_eq;rw[zm]at p;omega)) ?_
 rintro _ l ⟨k,rfl,f,ht⟩
 have g:=yt 2 c ht
 refine gm g 9 a ?_
 exact⟨a,k,rfl,⟨_,e,f.1,f.2⟩,yk g⟩
theorem Xk(cb n:Nat)(es:List Ge)(c:Cv)(w:World)(q:Own (Cv.R cb n es c) w)(s:n<=4096)(T:Int) :
 CR ya 116 (Zk cb T) w (fun r w' => ∃ v:Value,v=r/\fP (Cv.R cb n es c) w w' (fN [(Cv.R cb n es c),cL fL v 3 1 (iI es n c.f T)])):=by
 refine gj func116 ?_
 have i:iN es n c.f:=q.fact
 have t:=Own.of q.un
 obtain⟨y,z,A,B,C⟩:=mK (es:=es) (n:=n) (f:=c.f)
 have x:=i.f.room i.g
 have u:=uD.of q
 refine fM t 9 ?_
 refine ig t (P6 cb n es c w u s) fun h a=>?_
 have j:=ye [2,3,4,5,6,0,1,7] a
 have b:=yd [_,_,_,_,_] _ j
 refine cH a 13 ?_
 refine cl (aev es n c.f i s c.lv c.rv c.pv c.hv c.sv T h (yg b 0 rfl)) ?_
 rintro _ o ⟨d,rfl,k⟩
 have e:=(yw b k)
 refine gm e 14 d ?_
 have l:=ye [6,7,0,1,2,3,4,8,5] e
 have m:=yn (p:=iN es n c.f) (yd [_,_,_,_,_,_,_,_] _ l) i
 exact⟨d,rfl,yk m⟩
theorem af9{l:List Nat}(hk:k<l.length):l.take (k+1)=l.take k++[cE l k]:=by
 rw[nY,fW hk]
 rfl
theorem V1{n:Nat}{lab:List Nat}(h:k<(kf n lab).length):(oN n lab).take (k+1)=(oN n lab).take k++[⟨cE (kf n lab) k,lab.count (cE (kf n lab) k)⟩]:=by
 have e:(oN n lab)[k]? = some ⟨cE (kf n lab) k,lab.count (cE (kf n lab) k)⟩:=by
  unfold oN
  rw[lU,fW h]
  rfl
 rw[nY,e]
 rfl
theorem aeJ(e:TypeId)(l:List Nat):cL fQ v e 1 (gi l)=cL fL v e 1 l:=by
 have h:(gi l).flatMap fQ=l.flatMap fL:=by
  unfold gi
  rw[List.flatMap_map]
  rfl
 unfold cL
 rw[h]
 simp[gi]
theorem PD(cb n:Nat)(es:List Ge)(c:Cv)(w:World)(hO:Own (Cv.R cb n es c) w)(hn:n<=4096)(aI:n<=12)(T:Int) :
 CR ya 66 (Zk cb T) w (fun r w' => ∃ v:Value,v=r/\fP (Cv.R cb n es c) w w' (fN [(Cv.R cb n es c),cL Gp.cells v 138 2 (oN n (iI es n c.f T))])):=by
 refine gj func66 ?_
 have ap:iN es n c.f:=hO.fact
 have aq:=yy hO
 have aF:=aa0 (es:=es) (n:=n) (f:=c.f) (T:=T)
 refine fM aq 7 ?_
 refine mkV (fun x:Nat=>Value.int .i64 (x:Int)) .i64 rfl rfl aq (fun b B V W j=>cH j 8 ?_)
 refine cl (Xk cb n es c B (yg j 1 rfl) hn T) ?_
 rintro _ X ⟨d,rfl,ht⟩
 have C:=ye [1,0] j
 have o:=yp (yt 0 C ht)
 refine iA (m:=(iI es n c.f T).length) 1 rfl rfl yc o rfl (fZ o 4 ?_)
 refine lp (α:=Nat×List (Int×Nat)) (fun(i,mm)=>[(5,(.map (some b))),(14,d),(15,(Za ((iI es n c.f T).length:Int))),(16,(Za i))]) (fun(i,mm) w1=>St [(w,(Cv.R cb n es c).gq)] [(Cv.R cb n es c),cL fL d 3 1 (iI es n c.f T),gP b .i64 (fun x:Nat=>Value.int .i64 (x:Int)) mm] w1/\i<=(iI es n c.f T).length/\tH ((iI es n c.f T).take i) mm) (fun(i,mm)=>(iI es n c.f T).length-i) (0,[]) oh (⟨o,o_,tH.start⟩) ?_
 rintro⟨i,mm⟩ Y Z ⟨F,hi,hM⟩
 refine fM F 2 ?_
 by_cases aa:(i:Int)<((iI es n c.f T).length:Int)
 . have aE:i<(iI es n c.f T).length:=by omega
   have aG:=hM.get (cE (iI es n c.f T) i)
   have au:=AR (a:=cE (iI es n c.f T) i) (l:=(iI es n c.f T).take i)
   refine cH F 17 ?_
   rw[zw]at au
   refine cH F 2 ?_
   refine qK (a:=(((cE (iI es n c.f T) i):Nat):Int)) (mm:=mm) (enc:=(fun x:Nat=>Value.int .i64 (x:Int))) (k:=.i64) 2 rfl rfl rfl Cw yf fU rfl F rfl (gL (e:=((((iI es n c.f T).take i).count (cE (iI es n c.f T) i)+1:Nat):Int)) rfl iX (rq (a:=(((cE (iI es n c.f T) i):Nat):Int)) (c:=(((iI es n c.f T).take i).count (cE (iI es n c.f T) i)+1)) (mm:=mm) (enc:=(fun x:Nat=>Value.int .i64 (x:Int))) (k:=.i64) (L' := [(Cv.R cb n es c),cL fL d 3 1 (iI es n c.f T),gP b .i64 (fun x:Nat=>Value.int .i64 (x:Int)) (gr mm (((cE (iI es n c.f T) i):Nat):Int) (((iI es n c.f T).take i).count (cE (iI es n c.f T) i)+1))]) 2 rfl rfl rfl rfl Cw yf F rfl rfl (fun ab q=>fK q 7 ?_)))
   exact gM ((i+1),(gr mm (((cE (iI es n c.f T) i):Nat):Int) (((iI es n c.f T).take i).count (cE (iI es n c.f T) i)+1))) oh (⟨q,o_,by rw[af9 o_];exact hM.next _⟩) o1
 . have aw:i=(iI es n c.f T).length:=by omega
   refine cH F 1 ?_
   rw[aw,sB]at hM
   have aH:=hM.len (Rj ap)
   have ar:=Jj (n:=n) (lab:=(iI es n c.f T))
   refine cH F 12 ?_
   refine pv rfl rfl (abd (mm:=mm) (enc:=(fun x:Nat=>Value.int .i64 (x:Int))) (k:=.i64) 2 rfl Cw F rfl) (kA (cf:=Gp.cells) (z0:=(⟨0,0⟩:Gp)) (m:=0) (c:=mm.length) rfl rfl rfl Cu xQ rfl f_ d_ (ko _) o_ o_ F ?_)
   intro s t ac ad D
   have E:St _ [cL Gp.cells (CZ s mm.length) 138 2 ((List.replicate mm.length (⟨0,0⟩:Gp)).take 0),(Cv.R cb n es c),cL fL d 3 1 (iI es n c.f T),gP b .i64 (fun x:Nat=>Value.int .i64 (x:Int)) mm] t:=mR (cf:=Gp.cells) D (i:=0) rfl f_ (ko _) (by simp only[maxLen];omega)
   have u:=E
   refine cH u 7 ?_
   refine cl (aaL b t) ?_
   rintro _ G ⟨H,rfl,ht⟩
   have I:=(y9 u ht)
   have J:=ye [0,4,1,2,3] I
   have y:=yd [_,_] _ J
   refine cl (afJ b H mm G (yg y 0 rfl) o_ o_) ?_
   rintro _ ae ⟨g,af,rfl,K,L⟩
   have M:=(yw y L)
   obtain⟨aJ,az,aA,aB⟩:=K
   have aC:=hM.keys (Rj ap) az aA aB
   have p:=St.u6 2 M rfl ((congrArg (cL fQ g 3 1) aC).trans (aeJ _ _ _))
   refine iA (m:=(kf n (iI es n c.f T)).length) 2 rfl rfl yc p rfl ?_
   have N:=ye [4,1,2,3] p
   have av:(oN n (iI es n c.f T)).length=(kf n (iI es n c.f T)).length:=by unfold oN;rw[zm]
   refine fZ p 4 ?_
   refine lp (α:=Nat×Value) (fun(k,gv)=>[(5,(.map (some b))),(8,gv),(30,g),(31,(Za ((kf n (iI es n c.f T)).length:Int))),(32,(Za k))]) (fun(k,gv) w1=>St [(w,(Cv.R cb n es c).gq)] [(Cv.R cb n es c),gP b .i64 (fun x:Nat=>Value.int .i64 (x:Int)) mm,cL fL g 3 1 (kf n (iI es n c.f T)),cL Gp.cells gv 138 2 ((oN n (iI es n c.f T)).take k)] w1/\k<=(kf n (iI es n c.f T)).length) (fun(k,gv)=>(kf n (iI es n c.f T)).length-k) (0,(CZ s mm.length)) oh (⟨N,o_⟩) ?_
   rintro⟨k,gv⟩ ag ah ⟨ao,hk⟩
   refine fM ao 2 ?_
   by_cases ai:(k:Int)<((kf n (iI es n c.f T)).length:Int)
   . have ay:k<(kf n (iI es n c.f T)).length:=by omega
     have aD:(((oN n (iI es n c.f T)).take k)).length<=k:=by rw[zw];omega
     have ar:=Jj (n:=n) (lab:=(iI es n c.f T))
     refine cH ao 21 ?_
     refine qK (a:=(((cE (kf n (iI es n c.f T)) k):Nat):Int)) (mm:=mm) (enc:=(fun x:Nat=>Value.int .i64 (x:Int))) (k:=.i64) 1 rfl rfl rfl Cw yf fU rfl ao rfl (iL (pvs:=[(0,(Za (((cE (kf n (iI es n c.f T)) k):Nat):Int))),(1,(Za ((fS mm (((cE (kf n (iI es n c.f T)) k):Nat):Int):Nat):Int)))]) (v:=.agg (Zx (((cE (kf n (iI es n c.f T)) k):Nat):Int) ((fS mm (((cE (kf n (iI es n c.f T)) k):Nat):Int):Nat):Int))) rfl rfl (i6 [(0,(Zd (((cE (kf n (iI es n c.f T)) k):Nat):Int))),(1,(Zd ((fS mm (((cE (kf n (iI es n c.f T)) k):Nat):Int):Nat):Int)))] xQ SS rfl oh rfl) (jB (vs:=(De (((cE (kf n (iI es n c.f T)) k):Nat):Int) ((fS mm (((cE (kf n (iI es n c.f T)) k):Nat):Int):Nat):Int))) (cs:=(Zm (((cE (kf n (iI es n c.f T)) k):Nat):Int) ((fS mm (((cE (kf n (iI es n c.f T)) k):Nat):Int):Nat):Int))) rfl rfl Cu xQ rfl (by simp[Value.cells]) rfl rfl rfl ao (fun O aj ak al z=>kR (cf:=Gp.cells) (ys:=((oN n (iI es n c.f T)).take k)) (zs:=[(⟨(cE (kf n (iI es n c.f T)) k),(fS mm (((cE (kf n (iI es n c.f T)) k):Nat):Int))⟩:Gp)]) (LL:=fun h=>[row (Zu O) 138 2 1 ((Zm (((cE (kf n (iI es n c.f T)) k):Nat):Int) ((fS mm (((cE (kf n (iI es n c.f T)) k):Nat):Int):Nat):Int))),(Cv.R cb n es c),gP b .i64 (fun x:Nat=>Value.int .i64 (x:Int)) mm,cL fL g 3 1 (kf n (iI es n c.f T)),cL Gp.cells h 138 2 (((oN n (iI es n c.f T)).take k)++[(⟨(cE (kf n (iI es n c.f T)) k),(fS mm (((cE (kf n (iI es n c.f T)) k):Nat):Int))⟩:Gp)])]) 4 rfl rfl rfl Cu xQ rfl d_ z rfl (kG z (i:=0) rfl) (fun x hx=>zr.1 (show List.all _ _=true from rfl) x hx) (by simp only[zb,zd,maxLen];omega) (by simp only[zb,zd,maxLen];omega) f_ ?_)))
     intro h am P an
     have A:=ye [1,2,3,4] P
     refine fK A 8 ?_
     have Q:=y0 3 A rfl (show _=((oN n (iI es n c.f T)).take (k+1)) by rw[hM.get];exact(V1 ay).symm)
     exact gM ((k+1),h) oh (⟨Q,o_⟩) o1
   . refine gm ao 17 gv ?_
     have ax:k=(kf n (iI es n c.f T)).length:=by omega
     have S:=y0 3 ao rfl (show _=(oN n (iI es n c.f T)) by rw[ax,<-av,sB])
     have U:=ye [0,3] S
     exact⟨gv,rfl,yk U⟩
theorem fR.PZ{s:fR}(h:s.ok j k){x:Lv}(b:s.has x){id:Int}(a:x.u=id\/x.v=id):s.t.cnt id=0:=by
 obtain⟨i,hi,rfl⟩:=b
 exact TW.BC ((h.mem id).2 ⟨i,hi,a⟩)
theorem fR.XL{s:fR}(h:s.ok j k){id:Int}(c:∀ x,s.has x->x.u≠id/\x.v≠id):s.t.cnt id≠0:=by
 rw[TW.uP fun hm=>?_]
 . decide
 . obtain⟨i,hi,b⟩:=(h.mem id).1 hm
   have a:=c _ ⟨i,hi,rfl⟩
   exact b.elim a.1 a.2
theorem ZC:ya.eqGuardType ya.depth 128=false:=by kernel_rfl
theorem YB(b:Int)(w:World):(Op.equal 128 (I9 a b) (I9 a b)).run ya w = .ok true w:=by
 rw[aeT y8 ym jm]
 simp
theorem ahN{o:Obj}(hO:Own (kE o) w) :
 CQ ya 17 #[] w (.bool true) (kE o):=by
 refine gj func17 ?_
 have aF:=yy hO
 have aS:wI.length=2:=rfl
 have aR:wH.length=2:=rfl
 refine fM aF 7 ?_
 refine iL (pvs:=[(0,yQ),(1,sM),(2,sM),(3,sM)]) (v:=.agg #[yQ,sM,sM,sM]) rfl rfl (i6 [(0,[yQ]),(1,[sM]),(2,[sM]),(3,[sM])] Ec S4 rfl oh rfl) (cl (Vf cW w d_ d_ d_ d_ d_ d_ d_) ?_)
 rintro _ P ⟨d,B,rfl,p,ht⟩
 have g:=(y9 aF ht)
 have ad:=oV (yg g 0 rfl)
 have aE:=p.2.2
 have H:=p.1
 have F:=p.2.1
 have aL:B.u.last=0:=by have h7:=ad.1.la;have h8:=ad.2.1.ug;omega
 refine cH g 14 ?_
 refine mG (a:=some ⟨d,0,none⟩) (c:=false) rfl rfl rfl CA rfl (cH g 9 ?_)
 refine iL (pvs:=[(0,wV),(1,Br),(2,(.int .i64 5))]) (v:=.agg #[wV,Br,(.int .i64 5),Zc]) rfl rfl (i6 [(0,[wV]),(1,[Br]),(2,[(.int .i64 5)])] we DU rfl oh rfl) ?_
 have aM:=fR.JH ad.2.1 ad.2.2 (u:=1) (v:=2) d_ (L:=[]) (K:=[1,2]) d_ (fun x r=>absurd r (aE x)) (fun x r=>absurd r (aE x)) d_ d_ d_
 refine cl (M5 cW d B P (yg g 0 rfl) ⟨0,0,1,2,5,0,0⟩ (KZ d_) (by rw[H];decide) d_ (by rw[F];decide) aM) ?_
 rintro _ Q ⟨C,rfl,q,ht⟩
 have j:=yt 0 g ht
 have aH:=oV (yg j 0 rfl)
 obtain⟨⟨i1,aC⟩,aJ⟩:=ahS aE aL q
 have H:=q.now
 have F:C.added=1:=q.added.trans (by rw[F];rfl)
 refine cH j 6 ?_
 refine iL (pvs:=[(0,Br),(1,wW),(2,(.int .i64 7)),(3,sM)]) (v:=.agg #[Br,wW,(.int .i64 7),sM]) rfl rfl (i6 [(0,[Br]),(1,[wW]),(2,[(.int .i64 7)]),(3,[sM])] we DU rfl oh rfl) ?_
 have aN:=fR.JH aH.2.1 aH.2.2 (u:=2) (v:=3) d_ (L:=[wE i1 1 1 2 5 0]) (K:=[1,2,3]) (by show (1:Nat)<4;decide) (fun x r=>by rw[(aC x).1 r];simp) (fun x r=>by rw[(aC x).1 r];simp) d_ d_ d_
 refine cl (M5 cW d C Q (yg j 0 rfl) ⟨0,0,2,3,7,4,0⟩ (KZ d_) (by rw[H];decide) d_ (by rw[F];decide) aN) ?_
 rintro _ R ⟨D,rfl,s,ht⟩
 have l:=yt 0 j ht
 have aI:=oV (yg l 0 rfl)
 obtain⟨⟨i2,aD⟩,aK⟩:=ahT aC aJ s
 have H:=s.now
 have F:D.added=2:=s.added.trans (by rw[F];rfl)
 refine cH l 6 ?_
 refine iL (pvs:=[(0,wV),(1,wW),(2,yR),(3,Bp)]) (v:=.agg #[wV,wW,yR,Bp]) rfl rfl (i6 [(0,[wV]),(1,[wW]),(2,[yR]),(3,[Bp])] we DU rfl oh rfl) ?_
 have aO:=fR.JH aI.2.1 aI.2.2 (u:=1) (v:=3) d_ (L:=[wE i1 1 1 2 5 0,wE i2 2 2 3 7 4]) (K:=[1,2,3]) (by show (2:Nat)<4;decide) (fun x r=>by rcases(aD x).1 r with h|h<;>rw[h]<;>simp) (fun x r=>by rcases(aD x).1 r with h|h<;>rw[h]<;>simp) d_ d_ d_
 refine cl (M5 cW d D R (yg l 0 rfl) ⟨0,0,1,3,9,6,0⟩ (KZ d_) (by rw[H];decide) d_ (by rw[F];decide) aO) ?_
 rintro _ S ⟨e,rfl,y,ht⟩
 have n:=yt 0 l ht
 have af:=oV (yg n 0 rfl)
 obtain⟨i3,J⟩:=ahU aD aK y
 have H:=y.now
 have F:e.added=3:=y.added.trans (by rw[F];rfl)
 have hG:Ix e:=fun K L es h1 h2 h3=>ahW af.2.1 J h1 h2 h3
 have aP:=fR.PZ af.2.1 ((J _).2 (.inl (.inl rfl))) (.inl rfl)
 have aG:=fR.PZ af.2.1 ((J _).2 (.inr rfl)) (.inr rfl)
 have aQ:e.u.t.cnt 4≠0:=fR.XL af.2.1 fun x r=>by rcases(J x).1 r with (h|h)|h<;>rw[h]<;>simp
 refine cH n 6 ?_
 refine cl (U0 cW d e S (yg n 0 rfl)) ?_
 rintro _ U ⟨f,rfl,ht⟩
 have z:=yp (yt 0 n ht)
 refine cH z 26 ?_
 refine mG (a:=some ⟨f,0,none⟩) (c:=false) rfl rfl rfl underlying24 rfl ?_
 have V:=ye [1,0,2] z
 have E:=yd [_,_] _ V
 refine cH z 9 ?_
 refine cl (ahz cW f d e U (yg E 0 rfl) d_ hG aG) ?_
 rintro _ an ⟨A,rfl,W,X⟩
 have G:=(yw E X)
 have T:=W
 refine cH G 3 ?_
 refine ir G (fun ao ap aq ar Y=>?_)
 refine gh Y 7 fun Z aa=>?_
 have ab:=ye [1,2,3,4,0] aa
 refine gy (ahM cW f d e A T.of 1 Z · T aP aG) ab fun ac I=>?_
 have ae:=ye [0,2,1,3,4] I
 refine cH I 12 ?_
 refine gy (UX cW f d e _ ac · 4 7 aQ) ae fun au M=>cH M 3 ?_
 refine ir M (fun av aw ax ay ag=>?_)
 refine gh ag 7 fun ah ai=>?_
 have aj:=ye [1,3,2,0,4,5] ai
 have N:=yd [_,_,_] _ aj
 refine cl (ahL cW f d e A T.of 1 ah (yg N 0 rfl) T) ?_
 rintro _ ak ⟨az,aA,rfl,al⟩
 have b:=(yw N al)
 refine cH b 38 ?_
 refine iA (m:=wI.length) 3 rfl rfl AH b rfl (cH b 4 ?_)
 refine iH (cf:=lB.cells) (k:=1) (i:=1) rfl rfl rfl AH vi (yv b 3 rfl) o_ o_ (fW om) (cH b 1 ?_)
 refine iL (pvs:=[(0,wV),(1,wW)]) (v:=.agg IC) rfl rfl (uN [(0,[wV]),(1,[wW])] vi y8 jm rfl oh rfl s_) (Yu (c:=true) (xs:=IC) (ys:=IC) rfl rfl rfl ZC (fun w=>YB _ _ w) (cH b 3 ?_))
 refine iA (m:=wH.length) 4 rfl rfl yr b rfl (cH b 4 ?_)
 refine iH (cf:=fQ) (k:=1) (i:=1) rfl rfl rfl yr ti2 (yv b 4 rfl) o_ o_ (fW om) (cH b 5 ?_)
 refine gF 0 b (HL f d A 1 _ ak ·) fun aB O=>?_
 refine gm O 6 Zi ?_
 have am:=ye [6,0,1,2,3,4,5,7] O
 exact⟨rfl,iM am⟩
theorem Vi{o:Obj}(a:(kE o).holds w):CR ya 17 #[] w (fun r w' => r = .bool true/\gE [] w w') :=
 CR.mono (ahN w (af7 a)) fun r w' ⟨b,c⟩=>⟨b,af5 a c⟩
structure Vg where
 a:Int
 s:Nat
instance:Inhabited Vg:=⟨⟨0,0⟩⟩
def Vg.cells(x:Vg):List Value:=(Bj x.a x.s)
abbrev Vk.jc(k:Vk)(T:Int):List Gp:=oN k.K.length (iI k.es k.K.length k.c.f T)
def Vk.cls(k:Vk)(T:Int)(j:Nat):List Vg:=((k.jc T).take j).map fun g=>⟨cE k.K g.l,g.s⟩
abbrev IY(a:Nat)(b:Int)(c:Nat) d e:=([blk a 2 (Zd b),blk c 84 [d],cL Vg.cells d 73 2 e]:List fJ)
abbrev OG(a b:Nat)(c:Int)(d:Vk)(e f:Int) g h i j:=(fN [blk a 108 [.pointer (some ⟨b,0,none⟩),.bool true,.int .u64 c,d.iv,.int .i64 e,d.lv,d.rv,d.pv,d.hv,d.sv,.pointer (some ⟨d.cb,0,none⟩),.pointer (some ⟨d.mb,0,none⟩),.int .i64 f],Vk.R d,WW.R g b h,cL Vg.cells i 73 2 j]:fJ)
theorem Vk.Xu{k:Vk}(h:j<(k.jc T).length):k.cls T (j+1)=k.cls T j++[⟨cE k.K (cE (k.jc T) j).l,(cE (k.jc T) j).s⟩]:=Cj _ h
theorem Vk.Xt{k:Vk}:(k.cls T j).length<=j:=by simp[Vk.cls];omega
theorem Vk.QK{k:Vk}:(k.jc T).length<=k.K.length:=by
 show (oN _ _).length<=_
 unfold oN
 rw[zm]
 exact Jj
theorem Vk.ZI{k:Vk}(h:j<(k.jc T).length):(cE (k.jc T) j).l<k.K.length:=by
 have b:=zg (fW h)
 have a:cE (k.jc T) j∈oN k.K.length (iI k.es k.K.length k.c.f T):=b
 unfold oN at a
 obtain⟨x,d,e⟩:=zq.1 a
 rw[<-e]
 exact(OY d).1
theorem P0(b3 F:Nat)(T:Int)(k:Vk)(w:World)(hO:Own (I6 k b3 T F) w) :
 CR ya 71 (Iz k k.K.length b3 F) w (fun r w' => r = .tuple #[]/\∃ x:Value×List Vg,x.2=k.cls T (k.jc T).length/\fP (I6 k b3 T F) w w' (fN [Vk.R k,(fN (IY b3 T F x.1 x.2))])):=by
 refine gj func71 ?_
 have al:=Own.of hO
 have ak:=qT al
 have au:=ak.n
 have ao:=(j7 al).unpack
 have y:=ye [8,0,1,2,3,4,5,6,7] ao
 have q:=yp y
 have ar:=Vk.QK (k:=k) (T:=T)
 refine fM q 2 ?_
 refine gN q (fun a z S U e=>?_)
 refine cH e 7 ?_
 refine cl (PD k.cb k.K.length k.es k.c z (yg e 9 rfl) o_ o_ T) ?_
 rintro _ A ⟨b,rfl,ht⟩
 have B:=ye [9,0,1,2,3,4,5,6,7,8,10] e
 have f:=yp (yt 0 B ht)
 refine iA (m:=(k.jc T).length) 1 rfl rfl Cu f rfl ?_
 have C:=nU f 73 2
 have D:=ye [4,5,0,2,3,6,7,8,9,10,11,1,12] C
 refine fZ f 4 ?_
 refine lp (α:=Nat×Value) (fun(i,gv)=>[(1,(Zb b3)),(2,(Zb F)),(3,(Zb a)),(9,b),(10,(Za ((k.jc T).length:Int))),(11,(Za i))]) (fun(i,gv) w1=>St [(w,(I6 k b3 T F).gq)] [blk b3 2 (Zd T),blk F 84 [gv],cL Vg.cells gv 73 2 (k.cls T i),cL Gp.cells b 138 2 (k.jc T),blk a 106 (tM k k.K.length),cL iB k.iv 39 1 k.K,cL fQ k.lv 3 1 ((Zn k).l),cL fQ k.rv 3 1 ((Zn k).r),cL fQ k.pv 3 1 ((Zn k).p),cL fQ k.hv 2 1 ((Zn k).h),cL fL k.sv 3 1 ((Zn k).s),(wN k k.K.length),(tO k k.K.length)] w1/\i<=(k.jc T).length) (fun(i,gv)=>(k.jc T).length-i) (0,Zh) oh (⟨D,o_⟩) ?_
 rintro⟨i,gv⟩ V W ⟨aj,hi⟩
 have ap:=Vk.Xt (k:=k) (T:=T) (j:=i)
 refine fM aj 2 ?_
 by_cases X:(i:Int)<((k.jc T).length:Int)
 . have an:i<(k.jc T).length:=by omega
   have aq:=Vk.ZI an
   refine cH aj 13 ?_
   refine ir aj (fun E Y Z aa G=>?_)
   refine r7 G 3 fun ab H=>?_
   refine jS mixed [([0,1,2,3,4,5,6,7,8,9,10],[0])] [11,12] H (fun ac t=>iY ?_)
   refine cH t 9 ?_
   refine iL (pvs:=[(0,(Zo (cE k.K ((cE (k.jc T) i).l)))),(1,(Za ((cE (k.jc T) i).s:Int)))]) (v:=.agg #[(Zo (cE k.K ((cE (k.jc T) i).l))),(Za ((cE (k.jc T) i).s:Int))]) rfl rfl (i6 [(0,(Zw (cE k.K ((cE (k.jc T) i).l)))),(1,(Zd ((cE (k.jc T) i).s:Int)))] Av S3 rfl oh rfl) (jB (vs:=[(NL (cE k.K ((cE (k.jc T) i).l)) ((cE (k.jc T) i).s:Int))]) (cs:=(Bj (cE k.K ((cE (k.jc T) i).l)) ((cE (k.jc T) i).s:Int))) rfl rfl underlying84 Av rfl (by simp[Value.cells]) rfl rfl rfl t (fun I ad ae af g=>fK g 1 ?_))
   refine jF (jX ?_)
   refine kR (cf:=Vg.cells) (ys:=(k.cls T i)) (zs:=[(⟨(cE k.K ((cE (k.jc T) i).l)),((cE (k.jc T) i).s)⟩:Vg)]) (LL:=fun d=>[row (Zu I) 73 2 1 ((Bj (cE k.K ((cE (k.jc T) i).l)) ((cE (k.jc T) i).s:Int))),blk E 138 (Zm ((cE (k.jc T) i).l:Int) ((cE (k.jc T) i).s:Int)),blk b3 2 (Zd T),blk F 84 [gv],cL Vg.cells d 73 2 ((k.cls T i)++[(⟨(cE k.K ((cE (k.jc T) i).l)),((cE (k.jc T) i).s)⟩:Vg)]),cL Gp.cells b 138 2 (k.jc T),blk a 106 (tM k k.K.length),cL iB k.iv 39 1 k.K,cL fQ k.lv 3 1 ((Zn k).l),cL fQ k.rv 3 1 ((Zn k).r),cL fQ k.pv 3 1 ((Zn k).p),cL fQ k.hv 2 1 ((Zn k).h),cL fL k.sv 3 1 ((Zn k).s),(wN k k.K.length),(tO k k.K.length)]) 4 rfl rfl rfl underlying84 Av rfl d_ g rfl (kG g (i:=0) rfl) (fun x hx=>zr.1 (show List.all _ _=true from rfl) x hx) (by simp only[zb,zd,maxLen];omega) (by simp only[zb,zd,maxLen];omega) f_ ?_
   intro d ag J ah
   have o:=ye [1,2,3,4,5,6,7,8,9,10,11,12,13,14] J
   refine iS 2 o (fun ai u=>?_) (hvs:=(cells_one (yh o (i:=3) rfl))) (h1:=(gD (yh o (i:=3) rfl) je))
   refine fK u 7 ?_
   have L:=ye [1,2,3,4,5,6,7,8,9,10,11,12,13] u
   have M:=y0 2 L rfl ((Vk.Xu o_).symm)
   exact gM ((i+1),d) oh (⟨M,o_⟩) o1
 . refine jU aj 9 ?_
   have am:i=(k.jc T).length:=by omega
   have N:=y0 2 aj rfl (congrArg (k.cls T) am)
   have O:=yd [_,_,_] _ N
   have P:=ye [3,4,5,6,7,8,9,10,0,1,2] O
   have Q:=yn (p:=Vk.ok k) (yd [_,_,_,_,_,_,_,_] _ P) ak
   exact⟨rfl,(gv,k.cls T (k.jc T).length),rfl,yk Q⟩
theorem UW(c:WC)(F I:Nat)(s:WW)(k:Vk)(L:Vk.of s k)(b:Int)(w:World)(J:Own (wO F I (Vr s) k k.K.length b c s) w)(T:Int) :
 CR ya 29 (Zk F T) w (fun r w' => ∃ (v:Value),v=r/\fP (wO F I (Vr s) k k.K.length b c s) w w' (OG F I (Vr s) k k.K.length b c s v (k.cls T (k.jc T).length))):=by
 refine ja func29 J 2 fun M=>?_
 refine gN M (fun a m B C e=>?_)
 refine cH e 7 ?_
 refine gF 1 e (uq F I _ m ·) fun D h=>?_
 refine cH h 8 ?_
 refine ir h (fun d n E G i=>?_)
 refine cH i 5 ?_
 refine kW (vf:=[]) (vc:=(Zy a d)) rfl rfl rfl ?_
 have o:=ye [1,0,2,3,4] i
 have p:=yd [_,_] _ o
 have q:=ye [1,2,3,0] p
 have j:=yd [_,_,_,_] _ q
 refine cl (HN c F I s n (fN [blk a 2 (Zd T),blk d 84 Z4]) (fun x:Value×List Vg=>fN (IY a T d x.1 x.2)) (fun k x=>x.2=k.cls T (k.jc T).length) 71 (Zy a d) eN (fun k w1 L J=>P0 a d T k w1 J) k L b (yg j 0 rfl)) ?_
 rintro _ H ⟨f,rfl,t,u⟩
 have y:=(yw j u)
 have z:=ye [3,0,1,2] y
 have g:=yp z
 refine cH g 5 ?_
 refine kq (v:=f.1) rfl rfl (fK g 3 ?_)
 refine gT (v:=f.1) results29 rfl ?_
 have A:=ye [3,4,5,2] g
 have l:=A
 rw[t]at l
 exact⟨f.1,rfl,yk l⟩
structure yH (w:World) (hb:Nat) (bnv cnv:Value) (bs cs:List Int) (t0:Int):Prop where
 b:(blk hb 237 [bnv,cnv,(Za t0)]).holds w
 bd:gV 1 fQ (fun _=>True) w bnv bs
 ct:gV 1 fQ (fun _=>True) w cnv cs
 kN:bs.Pairwise fun a b=>a<b
 n:bs.length<=1024
 ln:cs.length=bs.length+1
theorem yH.to{d:List (World×List Nat)}{L:List fJ}{w w0:World}{c e:Value}{bs cs:List Int}{f:Int}(h:yH w0 j c e bs cs f)(hs:St d L w)(a:(w0,[])∈d):yH w j c e bs cs f :=
 ⟨vo hs a h.b,yu hs a d_ h.bd,yu hs a d_ h.ct,h.kN,h.n,h.ln⟩
theorem Kq(hb:Nat)(g f:Value)(bs cs:List Int)(h:Int)(w:World)(e:yH w hb g f bs cs h) :
 CK ya 119 (Zg hb) w (.bool true):=by
 refine gj func119 ?_
 have d:=k9 w
 have i:=e.n
 have j:=e.ln
 refine fM d 8 ?_
 refine lF (a:=some ⟨hb,0,none⟩) (c:=true) rfl rfl rfl underlying145 rfl (cH d 4 ?_)
 refine ld rfl rfl yr rfl (k8 d s_ e.b rfl) (jO (v:=f) rfl rfl yr e.ct (gz rfl (PC o_) (fK d 5 ?_)))
 refine gT (v:=Zi) results119 rfl ?_
 exact⟨rfl,d.gf s_⟩
theorem Wz(hb:Nat)(f g:Value)(bs cs:List Int)(j:Int)(w:World)(e:yH w hb f g bs cs j)(x:Int)(b2 b3:Nat)(h1:(blk b2 145 (Ze hb)).holds w)(l:(blk b3 2 (Zd x)).holds w)(i:Nat)(hi:i<bs.length) :
 CK ya 194 (N6 i b2 b3) w (.bool (decide (x<cE bs i))):=by
 refine gj func194 ?_
 have h:=k9 w
 have m:=e.n
 have o:=e.ln
 refine ny h 10 fun c a=>?_
 refine ld rfl rfl yr rfl (k8 a s_ e.b rfl) (cH a 1 ?_)
 refine iH (k:=i) (i:=(i:Int)) rfl rfl rfl yr ti2 e.bd o_ o_ (fW hi) (jf rfl rfl ur rfl (yu a s_ d_ e.bd) (fW hi) rfl (cH a 1 ?_))
 by_cases d:((cE bs i):Int)>(x:Int)
 . refine gm a 5 Zi ?_
   exact⟨congrArg Value.bool (decide_eq_true o_).symm,a.gf s_⟩
 . refine gm a 5 Zp ?_
   exact⟨congrArg Value.bool (decide_eq_false o_).symm,a.gf s_⟩
theorem afI(hb:Nat)(q r:Value)(bs cs:List Int)(t:Int)(w:World)(p:yH w hb q r bs cs t)(x:Int)(b2 b3:Nat)(h1:(blk b2 145 (Ze hb)).holds w)(u:(blk b3 2 (Zd x)).holds w) :
 CK ya 193 #[(Za bs.length),(Ov b2 b3)] w (.int .i64 ((rN bs x:Nat):Int)):=by
 refine gj func193 ?_
 have s:=k9 w
 have z:=p.n
 refine oW s 14 ?_
 refine lp (α:=Nat×Nat) (fun(i,j)=>[(1,(Ov b2 b3)),(5,(Za i)),(6,(Za j))]) (fun(i,j) w1=>St [(w,[])] [] w1/\n9 bs (x+1) i j/\i<=j/\j<=bs.length) (fun(i,j)=>j-i) (0,bs.length) oh (⟨s,n9.start,o_,o_⟩) ?_
 rintro⟨i,j⟩ h f ⟨m,o,A,B⟩
 refine fM m 5 ?_
 by_cases k:(i:Int)<(j:Int)
 . refine cH m 13 ?_
   refine shr (a:=(i:Int)+(j:Int)) (b:=1) (e:=(((i+j) / 2:Nat):Int)) rfl rfl rfl d_ (Qv (i+j) 1 64 d_) (cH m 8 ?_)
   refine lR (fi:=[]) (ca:=(Zy b2 b3)) rfl rfl rfl eN (Wz hb q r bs cs t f (p.to m s_) x b2 b3 (vo m s_ h1) (vo m s_ u) ((i+j) / 2) o_) ?_
   rintro _ l ⟨rfl,g⟩
   have c:=lI m g
   refine fZ c 3 ?_
   cases d:(decide (x<cE bs ((i+j) / 2)):Bool)
   . skip
     refine jh c 7 ?_
     exact gM (((i+j) / 2+1),j) oh (⟨c,o.up p.kN o_ (by have v:=of_decide_eq_false d;omega),o_,o_⟩) o1
   . skip
     refine jh c 6 ?_
     exact gM (i,((i+j) / 2)) oh (⟨c,o.down p.kN (by have v:=of_decide_eq_true d;omega),o_,o_⟩) o1
 . refine gm m 16 (Za i) ?_
   have y:i=rN bs x:=n9.gX (by rw[show j=i by omega]at o;exact o) o_
   exact⟨by rw[y],m.gf s_⟩
theorem ZO(hb:Nat)(r y:Value)(bs cs:List Int)(z:Int)(w:World)(k:yH w hb r y bs cs z)(x:Int) :
 CK ya 121 (Zk hb x) w (.int .i64 ((rN bs x:Nat):Int)):=by
 refine gj func121 ?_
 have A:=k9 w
 have B:=k.n
 have C:=k.ln
 refine fM A 2 ?_
 refine gN A (fun d o p q g=>?_)
 refine gN g (fun e h s t c=>?_)
 refine cH c 7 ?_
 refine ig c (Kq hb r y bs cs z h (k.to c s_)) fun j a=>cH a 11 ?_
 refine ld rfl rfl yr rfl (k8 a s_ k.b rfl) (jO (v:=r) rfl rfl yr k.bd (kW (vf:=[]) (vc:=(Zy d e)) rfl rfl rfl (cl (afI hb r y bs cs z j (k.to a s_) x d e (nV a (i:=1) rfl) (nV a (i:=0) rfl)) ?_)))
 rintro _ u ⟨rfl,l⟩
 have f:=lI a l
 refine gm f 4 (Za ((rN bs x:Nat):Int)) ?_
 have m:=ye [] f
 exact⟨rfl,m.gf s_⟩
theorem PT(hv:gV 1 fQ (fun _=>True) w v xs)(m:xs.length<=1000000) :
 CR ya 115 #[v] w (fun r w' => pY 1 fQ w w' r 2 xs/\gE [] w w'):=by
 refine iE func115 9 fun l=>?_
 refine BJ (v:=v) rfl rfl rfl yr hv (fZ l 2 ?_)
 cases e:(vT v:Bool)
 . skip
   refine fM l 5 ?_
   refine jB (vs:=[]) (cs:=[]) rfl rfl yr ti2 rfl (by intro v hv;simp at hv) rfl rfl rfl l ?_
   intro f g h i c
   have d:=c
   refine cH c 1 ?_
   refine kR (cf:=fQ) (ys:=[]) (zs:=xs) (LL:=fun a=>[cL fQ a 2 1 xs]) 0 rfl rfl rfl yr ti2 rfl d_ d rfl (gV.src (yu d s_ d_ hv) f_) (xd f_ _) (by simp only[zd];omega) (by simp only[zd];omega) f_ (fun a j b k=>fK b 4 ?_)
   refine gT (v:=a) results115 rfl ?_
   exact⟨Ct b s_,b.gf s_⟩
 . skip
   refine qP l 8 Zh ?_
   obtain rfl:=B4 e hv
   exact⟨pY.B3, l.gf s_⟩
theorem VR(h:0<=a/\a<=1000000):CR ya 120 #[.int .i64 a,.int .i64 1] w (fun r w' => r = .tuple (uL (a+1))/\gE [] w w') :=
 CR.mono (OS a 1 w (kZ o_) (kZ d_)) fun r w' b=>⟨by rw[b.1,yW o_],b.2⟩
structure A8 (bs:List Int) (l:List Nat):Prop where
 kN:bs.Pairwise fun a b=>a<b
 n:bs.length<=1024
 ln:l.length<=1000
def rD.R(hb:Nat)(a b:Value)(bs:List Int)(l:List Nat):fJ:=lC (A8 bs l) (fN [blk hb 237 [a,b,(Za ((l).length:Int))],cL fQ a 2 1 bs,cL fQ b 2 1 (mN bs l)])
abbrev NM(a:Nat)(b:Int)(c d:Nat) e f g h:=([blk a 2 (Zd b),blk c 145 (Ze d),rD.R d e f g h]:List fJ)
abbrev VL(a:Nat)(b:Int)(c d:Nat) e f g:=(fN [blk a 2 (Zd b),blk c 145 (Ze d),rD.R d e f g []]:fJ)
abbrev Fk a (b:Nat) (c:Int) (d e:Nat) f g h:=(fN [Vk.R a,fN [blk b 2 (Zd c),blk d 145 (Ze e),rD.R e f g h []]]:fJ)
abbrev Oe(a:Nat)(b:Int)(c d:Nat) e f g h i j (k:Nat) (l:Vk) (m:Nat) (n:nJ):=([blk a 2 (Zd b),blk c 145 (Ze d),rD.R d e f g h,cL Gp.cells i 138 2 j,blk k 106 [l.iv,.int .i64 m,l.lv,l.rv,l.pv,l.hv,l.sv,.pointer (some ⟨l.cb,0,none⟩),.pointer (some ⟨l.mb,0,none⟩)],cL iB l.iv 39 1 l.K,cL fQ l.lv 3 1 n.l,cL fQ l.rv 3 1 n.r,cL fQ l.pv 3 1 n.p,cL fQ l.hv 2 1 n.h,cL fL l.sv 3 1 n.s,Cv.R l.cb m l.es l.c,Mf.R l.mb m l.es l.q]:List fJ)
theorem ZN(hb:Nat)(g h:Value)(bs:List Int)(l:List Nat)(w:World)(A:Own (rD.R hb g h bs l) w)(x:Nat)(G:l.length<1000) :
 CR ya 67 (ID hb x) w (fun r w' => r = .int .i64 0/\fP (rD.R hb g h bs l) w w' (rD.R hb g h bs (l++[x]))):=by
 refine gj func67 ?_
 have o:A8 bs l:=A.fact
 have E:=o.n
 have H:=o.ln
 have v:=Own.of A.un
 have B:=BQ (bs:=bs) (l:=l)
 have C:=Pd (bs:=bs) (x:=(x:Int))
 have F:=ZX (bs:=bs) (l:=l) C
 refine fM v 9 ?_
 refine ig v (Kq hb g h bs (mN bs l) _ w ⟨nV v (i:=0) rfl,(yv v 1 rfl).any,(yv v 2 rfl).any,o.kN,o.n,B⟩) fun e c=>cH c 23 ?_
 refine ig c (VR ((l).length:Int) e o_) fun u j=>?_
 refine r7 j 27 fun y k=>?_
 refine jS mixed [([0,1,2,3,4,5,9,6],[3])] [7,8,10,11,12] k (fun m a=>iY ?_)
 refine cH a 7 ?_
 refine ig a (ZO hb g h bs (mN bs l) _ m ⟨nV a (i:=0) rfl,(yv a 1 rfl).any,(yv a 2 rfl).any,o.kN,o.n,B⟩ x) fun z b=>fK b 1 ?_
 refine jF (jX ?_)
 refine cH b 4 ?_
 refine iz (f:=(fun _=>(cE (mN bs l) (rN bs x))+1)) 2 b (fun q d=>?_)
 refine gm d 8 Zc ?_
 have s:=y0 2 d rfl (ZZ)
 have D:((l++[x]).length:Int)=(l.length:Int)+1:=by simp
 have t:St [(w,(rD.R hb g h bs l).gq)] [blk hb 237 [g,h,(Za ((l++[x]).length:Int))],cL fQ g 2 1 bs,cL fQ h 2 1 (mN bs (l++[x]))] q:=by rw[D];exact s
 exact⟨rfl,yj (yn (p:=A8 bs (l++[x])) (yd [_,_,_] _ t) ⟨o.kN,o.n,by rw[zk,zb,zd];omega⟩) za⟩
theorem ZP(hb:Nat)(k e:Value)(bs:List Int)(l:List Nat)(w:World)(m:Own (rD.R hb k e bs l) w) :
 CR ya 68 (Zg hb) w (fun r w' => ∃ v:Value,v=r/\fP (rD.R hb k e bs l) w w' (fN [(rD.R hb k e bs l),cL fQ v 2 1 (mN bs l)])):=by
 refine gj func68 ?_
 have h:A8 bs l:=m.fact
 have s:=h.n
 have t:=h.ln
 have j:=Own.of m.un
 have q:=BQ (bs:=bs) (l:=l)
 refine fM j 9 ?_
 refine ig j (Kq hb k e bs (mN bs l) _ w ⟨nV j (i:=0) rfl,(yv j 1 rfl).any,(yv j 2 rfl).any,h.kN,h.n,q⟩) fun d a=>cH a 12 ?_
 refine cl (PT e (mN bs l) d (yv a 2 rfl).any (by first|omega|(simp;omega))) ?_
 rintro b f o
 have c:=tB a o.2 o.1
 refine gm c 4 b ?_
 have g:=ye [1,2,3,0] c
 exact⟨b,rfl,yj (yd [_,_] _ (yn (p:=A8 bs l) (yd [_,_,_] _ g) h)) za⟩
theorem ZV(hv:gV 1 fQ (fun _=>True) w v xs)(hs:xs.Pairwise fun a b=>a<b)(Q:xs.length<=1024) :
 CR ya 64 #[v] w (fun r w' => ∃ (hb:Nat) (O P:Value),r = .tuple (Z1 hb)/\fP (fN []) w w' (rD.R hb O P xs [])):=by
 refine iE func64 10 fun L=>?_
 refine jO (v:=v) rfl rfl yr hv (gz rfl (ow o_) (fZ L 12 ?_))
 refine lp (α:=Nat) (fun i=>[(0,v),(4,(Za i))]) (fun i w1=>St [(w,[])] [] w1/\1<=i) (fun i=>xs.length+1-i) 1 oh (⟨L,o_⟩) ?_
 rintro i A B ⟨J,hi⟩
 refine fM J 5 ?_
 refine jO (v:=v) rfl rfl yr hv ?_
 by_cases C:(i:Int)<(xs.length:Int)
 . refine gh J 17 fun D f=>?_
   refine iH (k:=(i-1)) (i:=(i:Int)-1) rfl rfl rfl yr ti2 hv o_ o_ (fW o_) (cH f 1 ?_)
   refine gz rfl (JA (by have S:=Dt hs (p:=i-1) (q:=i) o_ o_;omega)) (fK f 11 ?_)
   exact gM (i+1) oh (⟨f,o_⟩) o1
 . refine fZ J 10 ?_
   refine xI mixed [0,2,3,4] [1,5] [(1,[3])] [6,7,8,9] J (fun E g=>xY ?_)
   refine cH g 2 ?_
   refine jO (v:=v) rfl rfl yr hv (fK g 2 ?_)
   refine nF trivial (xW [⟨1,25,[],[],Value,fun d=>d,fun d=>[cL fQ d 2 1 xs]⟩,⟨5,29,[],[],Nat,fun e=>(Zf e (xs.length+1)),fun e=>[blk e 2 ((List.replicate (xs.length+1) 0).flatMap fQ)]⟩] g ⟨mT (fun Z N F _=>cl (PT v xs N ((yu F s_ d_ hv)).any (by first|omega|(simp;omega))) (fun t _ M=>have K:=(tB F M.2 M.1);nh ⟨t,rfl,K,trivial⟩ (hc:=ku rfl (mZ (Rz (v:=v) rfl yr hv) rfl rfl) (trivial)))),mT (fun Z N F _=>kA (cf:=fQ) (z0:=0) (m:=(xs.length+1)) (c:=(xs.length+1)) rfl rfl rfl yr ti2 rfl f_ d_ (zh _) o_ o_ F (fun u _ _ _ h=>have K:=h;nh ⟨u,rfl,K,trivial⟩))⟩ ?_)
   rintro d e G n
   refine iL (pvs:=[(0,d),(1,(Zf e (xs.length+1)))]) (v:=.agg #[d,(Zf e (xs.length+1)),Zc]) rfl rfl (i6 [(0,[d]),(1,(p6 e (xs.length+1)))] Ut adB rfl ⟨rfl,(cells_one (yh n (i:=1) rfl)),rfl,rfl,trivial⟩ rfl) (gN n (fun j x H I o=>?_))
   refine fK o 3 ?_
   have l:St _ [blk j 237 [d,(.slice (some ⟨e,0,none⟩) (xs.length+1) (xs.length+1)),(.int .i64 0)],cL fQ (.slice (some ⟨e,0,none⟩) (xs.length+1) (xs.length+1)) 2 1 (List.replicate (xs.length+1) 0),cL fQ d 2 1 xs] x:=mR (cf:=fQ) o (i:=1) rfl f_ (zh _) (by simp only[maxLen];omega)
   generalize (Value.slice (some ⟨e,0,none⟩) (xs.length+1) (xs.length+1))=s at l ⊢
   refine rX tt none l 2 ?_
   refine kC (v:=(Zb j)) (v' := Zc) results64 rfl rfl ?_
   have y:=ye [0,2,1] l
   have z:=y0 2 y rfl (ZY.symm)
   exact⟨j,d,s,rfl,uu (yn (p:=A8 xs []) (yd [_,_,_] _ z) ⟨hs,Q,d_⟩) s_⟩
theorem ZU(hv:gV 1 fQ (fun _=>True) w v xs)(d:xs.length=2)(hb:cE xs 1<=cE xs 0) :
 CK ya 64 #[v] w (.tuple #[.pointer none,.int .i64 2]):=by
 refine iE func64 10 fun c=>?_
 refine jO (v:=v) rfl rfl yr hv (gz rfl (ow o_) (fZ c 12 ?_))
 refine qn 1 (iF (fM c 5 ?_))
 refine jO (v:=v) rfl rfl yr hv (gz rfl (pL o_) (gh c 11 fun b a=>?_))
 refine iH (k:=1) (i:=1) rfl rfl rfl yr ti2 hv o_ o_ (fW o_) (cH a 4 ?_)
 refine iH (k:=0) (i:=0) rfl rfl rfl yr ti2 hv o_ o_ (fW o_) (cH a 1 ?_)
 refine gz rfl (vH o_) (fK a 15 ?_)
 refine kC (v:=Zq) (v' := (.int .i64 2)) results64 rfl rfl ?_
 exact⟨rfl,a.gf s_⟩
abbrev Vk.vM(k:Vk)(T:Int)(j:Nat):List Nat:=((k.jc T).take j).map Gp.s
theorem Vk.ZM{k:Vk}:(k.vM T j).length<=j:=by rw[zm,zw];omega
theorem ZT(F S hb:Nat)(U V:Value)(bs:List Int)(T:Int)(k:Vk)(w:World)(Z:Own (Fk k F T S hb U V bs) w) :
 CR ya 65 (Iz k k.K.length F S) w (fun r w' => r = .tuple #[]/\∃ x:List Nat,x=k.vM T (k.jc T).length/\fP (Fk k F T S hb U V bs) w w' (fN [Vk.R k,(fN (NM F T S hb U V bs x))])):=by
 refine gj func65 ?_
 have Y:=Own.of Z
 have X:=qT Y
 have ag:=X.n
 have ac:=(j7 Y).unpack
 have o:=ye [8,0,1,2,3,4,5,6,7] ac
 have g:=yp o
 have ae:=Vk.QK (k:=k) (T:=T)
 refine fM g 2 ?_
 refine gN g (fun a q G H b=>?_)
 refine cH b 7 ?_
 refine cl (PD k.cb k.K.length k.es k.c q (yg b 10 rfl) o_ o_ T) ?_
 rintro _ I ⟨d,rfl,ht⟩
 have t:=ye [10,0,1,2,3,4,5,6,7,8,9,11] b
 have e:=yp (yt 0 t ht)
 refine iA (m:=(k.jc T).length) 1 rfl rfl Cu e rfl ?_
 have u:=ye [3,4,5,1,2,6,7,8,9,10,11,0,12] e
 refine fZ e 4 ?_
 refine lp (α:=Nat) (fun i=>[(1,(Zb F)),(2,(Zb S)),(3,(Zb a)),(9,d),(10,(Za ((k.jc T).length:Int))),(11,(Za i))]) (fun i w1=>St [(w,(Fk k F T S hb U V bs).gq)] (Oe F T S hb U V bs (k.vM T i) d (k.jc T) a k k.K.length (fO k.es k.K.length k.f)) w1/\i<=(k.jc T).length) (fun i=>(k.jc T).length-i) 0 oh (⟨u,o_⟩) ?_
 rintro i J L ⟨W,hi⟩
 have af:=Vk.ZM (k:=k) (T:=T) (j:=i)
 refine fM W 2 ?_
 by_cases M:(i:Int)<((k.jc T).length:Int)
 . have ab:i<(k.jc T).length:=by omega
   refine cH W 13 ?_
   refine ir W (fun N O P Q v=>?_)
   refine gh v 7 fun y h=>?_
   refine gF 3 h (ZN hb U V bs (k.vM T i) y · (cE (k.jc T) i).s o_) fun z l=>?_
   refine fK l 7 ?_
   have A:=ye [1,2,3,4,5,6,7,8,9,10,11,12,13] l
   have ad:=Cj Gp.s ab
   have B:St [(w,(Fk k F T S hb U V bs).gq)] (Oe F T S hb U V bs (k.vM T (i+1)) d (k.jc T) a k k.K.length (fO k.es k.K.length k.f)) z:=by show St _ (_ :: _ :: rD.R _ _ _ _ (((k.jc T).take (i+1)).map Gp.s) :: _) _;rw[ad];exact A
   exact gM (i+1) oh (⟨B,o_⟩) o1
 . refine jU W 9 ?_
   have aa:i=(k.jc T).length:=by omega
   have C:=yd [_,_,_] _ W
   have D:=ye [3,4,5,6,7,8,9,10,0,1,2] C
   have E:=yn (p:=Vk.ok k) (yd [_,_,_,_,_,_,_,_] _ D) X
   exact⟨rfl,k.vM T i,by rw[aa],yk E⟩
theorem ahn(f t:Nat)(cs:List Value)(r:Value)(xs:List Int)(w:World)(u:Own (fN [blk f 108 ((Zb t) :: cs),cL fQ r 2 1 xs]) w)(z:xs.length=2)(y:cE xs 1<=cE xs 0)(T:Int) :
 CQ ya 27 (NH f T r) w (.tuple #[.slice none 0 0,.int .i64 2]) (fN [blk f 108 ((Zb t) :: cs),cL fQ r 2 1 xs]):=by
 refine ja func27 u 2 fun x=>?_
 refine gN x (fun j d k l a=>?_)
 refine cH a 8 ?_
 refine gF 1 a (uq f t _ d ·) fun e b=>?_
 refine cH b 9 ?_
 refine ig b (ZU r xs e (yv b 2 rfl).any z y) fun m c=>cH c 3 ?_
 refine ir c (fun n o p q g=>?_)
 refine jI g 21 fun s h=>?_
 refine kC (v:=Zh) (v' := (.int .i64 2)) results27 rfl rfl ?_
 have i:=ye [2,3] h
 exact⟨rfl,yk i⟩
theorem ahE(c:WC)(U F:Nat)(s:WW)(w:World){α:Type}(S:fJ)(W:α->fJ)(Φ:Vk->α->Prop)(V:Nat)(cap:List Value)(Y:wG ya V)(hq:∀ (k:Vk) (w1:World),Vk.of s k->Own (vB k S) w1->CR ya V (k.v :: cap).toArray w1 (fun r w' => r = .tuple #[]/\∃ x,Φ k x/\fP (vB k S) w1 w' (vB k (W x))))(k0:Vk)(b T:Int)(X:Own (sK U F T k0 k0.K.length b c s S) w)(ac:c.de<=12)(ab:T≠Vr s)(hb:0<=b/\b<=1000000) :
 CR ya 58 (yO U (.func (.func V) #[] cap.toArray)) w (fun r w' => ∃ (k:Vk) (x:α),r = .tuple #[]/\(Vk.of s k /\ Φ k x)/\fP (sK U F T k0 k0.K.length b c s S) w w' (sK U F (Vr s) k k.K.length (b+1) c s (W x))):=by
 refine ja func58 X 6 fun aa=>?_
 refine gF 2 aa (Cs c F s w ·) fun I q=>?_
 refine iL (pvs:=[(0,Zi),(1,(Zo (Vr s)))]) (v:=.agg (wQ (Vr s))) rfl rfl (i6 [(0,[Zi]),(1,(Zw (Vr s)))] Ak LB rfl oh rfl) (ir q (fun J L M N t=>?_))
 refine gh t 11 fun u g=>?_
 refine GP (c:=false) (xs:=(wQ T)) (ys:=(wQ (Vr s))) rfl rfl rfl Ka (fun w=>by rw[J1,beq_self_eq_true,Bool.true_and,beq_eq_false_iff_ne.2 ab]) (cH g 10 ?_)
 refine cl (UU c F s u (yg g 3 rfl) ac) ?_
 rintro _ O ⟨d,rfl,j,ht⟩
 have y:=ye [3,0,1,2,4] g
 have z:=yp (yt 0 y ht)
 have l:=ye [1,0,2,3,4,5] z
 have Z:=qT l
 have a:=(j7 l).unpack
 refine cH a 2 ?_
 refine iS 10 a (fun P e=>?_) (h1:=(gD (yh a (i:=0) rfl) (gD rfl (gD (yh a (i:=1) rfl) (gD (yh a (i:=2) rfl) (gD (yh a (i:=3) rfl) (gD (yh a (i:=4) rfl) (gD (yh a (i:=5) rfl) (gD rfl (gD rfl je))))))))))
 refine cH e 5 ?_
 refine uT (cs:=(Fj (Vr s))) rfl rfl El rfl Ak rfl (mL e (i:=9) (o:=0) (vs:=(Fj (Vr s))) rfl rfl) (cH e 2 ?_)
 refine iS 10 e (fun Q f=>?_)
 refine cH f 6 ?_
 refine ld rfl rfl yf rfl (mC f 10 rfl rfl) (cH f 3 ?_)
 refine iS 10 f (fun A h=>?_)
 refine cH h 7 ?_
 refine uT (cs:=(tM d d.K.length)) rfl rfl Em rfl Cn rfl (mL h (i:=10) (o:=3) (vs:=(tM d d.K.length)) rfl rfl) ?_
 have B:=yn (p:=Vk.ok d) (yd [_,_,_,_,_,_,_,_] _ h) Z
 have C:=ye [0,5,1,2,3,4] B
 have m:=yd [_,_] _ C
 refine lR (fi:=[]) (ca:=cap) rfl rfl rfl Y (hq d A j (yg m 0 rfl)) ?_
 rintro _ R ⟨rfl,D,E,G⟩
 have n:=(yw m G)
 refine jU n 1 ?_
 have H:=ye [4,0,2,1] n
 exact⟨d,D,rfl,⟨j,E⟩,yk H⟩
theorem ahm(c:WC)(F X:Nat)(s:WW)(k:Vk)(aa:Vk.of s k)(b:Int)(Y:Value)(xs:List Int)(w:World)(Z:Own (OH F X (Vr s) k k.K.length b c s Y xs) w)(ac:xs.Pairwise fun a b=>a<b)(ad:xs.length<=1024)(T:Int) :
 CR ya 27 (NH F T Y) w (fun r w' => ∃ (v:Value),r = .tuple (vD v)/\fP (OH F X (Vr s) k k.K.length b c s Y xs) w w' (fN [blk F 108 [(Zb X),Zi,(Zo (Vr s)),k.iv,(Za k.K.length),k.lv,k.rv,k.pv,k.hv,k.sv,(Zb k.cb),(Zb k.mb),(Za b)],Vk.R k,(WW.R c X s),cL fQ Y 2 1 xs,cL fQ v 2 1 (mN xs (k.vM T (k.jc T).length))])):=by
 refine ja func27 Z 2 fun ab=>?_
 refine gN ab (fun d q O P i=>?_)
 refine cH i 8 ?_
 refine gF 1 i (uq F X _ q ·) fun t j=>?_
 refine cH j 9 ?_
 refine cl (ZV Y xs t (yv j 4 rfl).any ac ad) ?_
 rintro _ Q ⟨f,g,h,rfl,ht⟩
 have n:=(y9 j ht)
 refine cH n 3 ?_
 refine ir n (fun e S U V u=>?_)
 refine gh u 17 fun y z=>?_
 refine kW (vf:=[]) (vc:=(Zy d e)) rfl rfl rfl ?_
 have A:=ye [2,0,1,3,4,5,6] z
 have B:=yd [_,_,_] _ A
 have C:=ye [1,2,3,0,4] B
 have o:=yd [_,_,_,_] _ C
 refine cl (HN c F X s y (VL d T e f g h xs) (fun x:List Nat=>fN (NM d T e f g h xs x)) (fun k x=>x=k.vM T (k.jc T).length) 65 (Zy d e) eN (fun k w1 aa Z=>ZT d e f g h xs T k w1 Z) k aa b (yg o 0 rfl)) ?_
 rintro _ D ⟨E,rfl,G,H⟩
 have I:=(yw o H)
 have J:=ye [3,0,1,2,4] I
 have l:=yp J
 refine cH l 5 ?_
 refine cl (ZP f g h xs E D (yg l 2 rfl)) ?_
 rintro _ W ⟨m,rfl,ht⟩
 have L:=ye [2,0,1,3,4,5,6] l
 have p:=yp (yt 0 L ht)
 refine jk p 5 m Zc ?_
 have M:=ye [4,5,6,7,1] p
 have N:=y0 4 M rfl (show _=(mN xs (k.vM T (k.jc T).length)) by rw[G])
 exact⟨m,rfl,yk N⟩
theorem ahj(c:WC)(F J:Nat)(s:WW)(k0:Vk)(b L:Int)(w:World)(M:Own (wO F J L k0 k0.K.length b c s) w)(P:c.de<=12)(O:L≠Vr s)(hb:0<=b/\b<=1000000)(T:Int) :
 CR ya 29 (Zk F T) w (fun r w' => ∃ (k:Vk) (v:Value),v=r/\Vk.of s k/\fP (wO F J L k0 k0.K.length b c s) w w' (OG F J (Vr s) k k.K.length (b+1) c s v (k.cls T (k.jc T).length))):=by
 refine ja func29 M 2 fun N=>?_
 refine gN N (fun a n C D e=>?_)
 refine cH e 7 ?_
 refine gF 1 e (uq F J _ n ·) fun E h=>?_
 refine cH h 8 ?_
 refine ir h (fun d o G H i=>?_)
 refine cH i 5 ?_
 refine kW (vf:=[]) (vc:=(Zy a d)) rfl rfl rfl ?_
 have p:=ye [1,0,2,3,4] i
 have q:=yd [_,_] _ p
 have t:=ye [1,2,3,0] q
 have j:=yd [_,_,_,_] _ t
 refine cl (ahE c F J s o (fN [blk a 2 (Zd T),blk d 84 Z4]) (fun x:Value×List Vg=>fN (IY a T d x.1 x.2)) (fun k x=>x.2=k.cls T (k.jc T).length) 71 (Zy a d) eN (fun k w1 Q M=>P0 a d T k w1 M) k0 b L (yg j 0 rfl) P O hb) ?_
 rintro _ I ⟨u,f,rfl,l,y⟩
 have z:=(yw j y)
 have A:=ye [3,0,1,2] z
 have g:=yp A
 refine cH g 5 ?_
 refine kq (v:=f.1) rfl rfl (fK g 3 ?_)
 refine gT (v:=f.1) results29 rfl ?_
 have B:=ye [3,4,5,2] g
 have m:=B
 rw[l.2]at m
 exact⟨u,f.1,rfl,l.1,yk m⟩
theorem ahp(c:WC)(F Q:Nat)(s:WW)(w:World)(S:Own (Z7 F Q c s) w)(W:c.de<=12) :
 CR ya 28 (Zg F) w (fun r w' => ∃ (k:Vk) (T hv:Value),r = .tuple #[T,hv]/\Vk.of s k/\fP (Z7 F Q c s) w w' (fN [blk F 108 (Dm Q (Vr s) k k.K.length),Vk.R k,(WW.R c Q s),cL lB.cells T 128 2 (k.mI k.mg.length),cL fQ hv 2 1 (k.mH k.mg.length)])):=by
 refine ja func28 S 2 fun V=>?_
 refine ir V (fun a G H I o=>?_)
 refine ir o (fun b p J L h=>?_)
 refine cH h 6 ?_
 refine gF 2 h (uq F Q _ p ·) fun q j=>?_
 refine cH j 9 ?_
 refine kW (vf:=[]) (vc:=(Zy a b)) rfl rfl rfl ?_
 have t:=ye [1,0,2,3] j
 have u:=yd [_,_] _ t
 have y:=ye [1,2,0] u
 have l:=yd [_,_,_] _ y
 refine cl (Va c F Q s q (Fv a b) (fun x:Value×Value×List lB×List Int=>fN [blk a 81 [x.1],blk b 78 [x.2.1],cL lB.cells x.1 128 2 x.2.2.1,cL fQ x.2.1 2 1 x.2.2.2]) (fun k x=>x.2.2.1=k.mI k.mg.length/\x.2.2.2=k.mH k.mg.length) 69 (Zy a b) eN (fun k w1 Z S=>R4 a b k w1 S) (yg l 0 rfl) W) ?_
 rintro _ M ⟨z,d,rfl,A,B⟩
 have C:=(yw l B)
 have D:=ye [3,0,1,2] C
 have m:=yp D
 refine fZ m 3 ?_
 refine jS mixed [([0,1,2],[1])] [3] m (fun N e=>iY ?_)
 refine cH e 2 ?_
 refine iS 0 e (fun O f=>?_) (hvs:=(cells_one (yh e (i:=2) rfl))) (h1:=(gD (yh e (i:=2) rfl) je))
 refine fK f 1 ?_
 refine jF (jX ?_)
 refine iS 1 f (fun P g=>?_) (hvs:=(cells_one (yh f (i:=3) rfl))) (h1:=(gD (yh f (i:=3) rfl) je))
 refine fK g 3 ?_
 refine o5 (v:=d.1) (v' := d.2.1) results28 (xL rfl AH rfl (mC g 0 rfl rfl)) (xL rfl yr rfl (mC g 1 rfl rfl)) ?_
 have E:=ye [4,5,6,2,3] g
 obtain⟨U,X,Y⟩:=A
 have n:=E
 rw[X,Y]at n
 exact⟨z,d.1,d.2.1,rfl,U,yk n⟩
theorem acj(lv:Value)(xs:List Mw)(w:World)(Q:gV 5 Mw.cells (fun _=>True) w lv xs)(ad:∀ x∈xs,x.mv.ok) :
 CR ya 6 #[lv] w (fun r w' => ∃ (X W:Nat) (s:WW),r = .tuple (VD X W)/\(∃ k,qX cG s k/\k<=60)/\fP (fN []) w w' (NR cG X s W)):=by
 refine gj func6 ?_
 have V:=k9 w
 have ag:=Q.len
 refine fM V 9 ?_
 refine iL (pvs:=[(0,(.int .i64 20)),(1,(.int .i64 40)),(2,yQ),(3,(.int .i64 60))]) (v:=.agg #[(.int .i64 20),(.int .i64 40),yQ,(.int .i64 60)]) rfl rfl (i6 [(0,[(.int .i64 20)]),(1,[(.int .i64 40)]),(2,[yQ]),(3,[(.int .i64 60)])] Ec S4 rfl oh rfl) (cl (Vf cG w d_ d_ d_ d_ d_ d_ d_) ?_)
 rintro _ q ⟨c,m,rfl,i,ht⟩
 have j:=(y9 V ht)
 refine cH j 20 ?_
 refine cl (U0 cG c m q (yg j 0 rfl)) ?_
 rintro _ D ⟨d,rfl,ht⟩
 have n:=yp (yt 0 j ht)
 refine fZ n 24 ?_
 refine lp (α:=Nat×WW) (fun(k,s)=>[(0,lv),(5,(Zb c)),(7,(Zb d)),(8,(Za k))]) (fun(k,s) w1=>St [(w,[])] [(WW.R cG c s),blk d 108 (yU c)] w1/\qX cG s k/\k<=xs.length/\k<=60) (fun(k,s)=>60-k) (0,m) oh (⟨n,qX.start i.1 i.2.1 i.2.2,o_,o_⟩) ?_
 rintro⟨k,s⟩ E G ⟨F,N,ae,P⟩
 have ab:=(oV (yg F 0 rfl)).1
 have aa:=ab.n0
 have ak:=N.now
 have al:=N.added
 refine fM F 5 ?_
 refine jO (v:=lv) rfl rfl underlying22 Q ?_
 by_cases H:(k:Int)<(xs.length:Int)
 . refine cH F 3 ?_
   by_cases I:(k:Int)<60
   . refine fZ F 10 ?_
     obtain⟨el,Y⟩:=oT (show k<xs.length by omega)
     have O:=ad _ (zg Y)
     have T:=O.u
     have U:=O.v
     have Z:=O.wt
     have S:=O.af
     have am : -128<=el.wt/\el.wt<=127:=Z
     have ac:=O.zF aa o_
     have ai:0<=el.u/\el.u<=255:=T
     have aj:0<=el.v/\el.v<=255:=U
     have ah:0<=el.af/\el.af<=255:=S
     refine jS mixed [([0,2,3,4,5,6,7,8,1],[6])] [9,10] F (fun t g=>iY ?_)
     refine cH g 6 ?_
     refine rem (a:=el.af) (b:=4) (e:=el.af%4) rfl rfl rfl d_ (AO S.1) (cH g 1 ?_)
     refine gF 0 g (Nc cG c s t ·) fun y f=>?_
     refine fK f 1 ?_
     refine jF (jX ?_)
     refine fZ f 14 ?_
     cases J:(el.wa:Bool)
     . skip
       refine ny f 10 fun z h=>?_
       refine rem (a:=el.u) (b:=12) (e:=el.u%12) rfl rfl rfl d_ (AO T.1) (cH h 6 ?_)
       refine rem (a:=el.v) (b:=12) (e:=el.v%12) rfl rfl rfl d_ (AO U.1) (cH h 8 ?_)
       refine iL (pvs:=[(0,(Zo (el.u%12))),(1,(Zo (el.v%12))),(2,(Za el.wt)),(3,(Za (s.now+(el.af%4))))]) (v:=.agg #[(Zo (el.u%12)),(Zo (el.v%12)),(Za el.wt),(Za (s.now+(el.af%4)))]) rfl rfl (i6 [(0,(Zw (el.u%12))),(1,(Zw (el.v%12))),(2,(Zd el.wt)),(3,(Zd (s.now+(el.af%4))))] we DU rfl oh rfl) (cl (ahu cG c s z (yg h 0 rfl) (el.mv.zF s.now) ac (by show s.now<=s.now+el.af%4;omega) (by show s.now+el.af%4<=1000000;omega) o_) ?_)
       rintro _ K ⟨L,A,rfl,B,ht⟩
       have o:=yt 0 h ht
       refine fK o 8 ?_
       exact gM ((k+1),A) oh (⟨o,N.next B (by show s.now+el.af%4<=s.now+3;omega) (by show 0<=el.u%12/\el.u%12<12;omega) (by show 0<=el.v%12/\el.v%12<12;omega) (by show -128<=el.wt/\el.wt<=127;omega),o_,o_⟩) o1
     . skip
       refine fM f 6 ?_
       refine cl (ah1 cG c s y (yg f 0 rfl) (s.now+el.af%4) o_ o_) ?_
       rintro _ M ⟨C,rfl,l,ht⟩
       have p:=yt 0 f ht
       refine fK p 15 ?_
       exact gM ((k+1),C) oh (⟨p,N.tick l.1 o_ l.2.1 l.2.2.1,o_,o_⟩) o1
   . refine fK F 20 ?_
     refine r0 (v:=(Zb c)) (v' := (Zb d)) (v'' := Zi) results6 rfl rfl rfl ?_
     exact⟨c,d,s,rfl,⟨_,N,P⟩,me (yd [_,_] _ F)⟩
 . refine fK F 23 ?_
   refine r0 (v:=(Zb c)) (v' := (Zb d)) (v'' := Zi) results6 rfl rfl rfl ?_
   exact⟨c,d,s,rfl,⟨_,N,P⟩,me (yd [_,_] _ F)⟩
theorem aeE(e:TypeId)(ys:List Int):iD .i64 v e ys=cL fQ v e 1 ys:=by
 have h:ys.map (Value.int .i64)=ys.flatMap fQ:=by
  induction ys with
  | nil=>rfl
  | cons y ys a=>rw[mh,zz,a];rfl
 show row v e 1 ys.length (ys.map (.int .i64))=row v e 1 ys.length (ys.flatMap fQ)
 rw[h]
theorem Ki(e:Own (Gr.R b n q es) w) :
 CQ ya 93 (Zg b) w (.bool true) (Gr.R b n q es):=by
 refine gj func93 ?_
 have d:=Own.of e
 have f:=xO (n:=n) (es:=es)
 refine fM d 8 ?_
 refine lF (a:=some ⟨b,0,none⟩) (c:=true) rfl rfl rfl underlying31 rfl (cH d 6 ?_)
 refine w6 (a:=⟨b,0,none⟩) rfl rfl rfl underlying31 MC (fK d 5 ?_)
 refine gT (v:=Zi) results93 rfl ?_
 exact⟨rfl,yk d⟩
theorem BM(f:Own (Gr.R b n q es) w)(g:n<=4096) :
 CQ ya 46 (Zg b) w (.int .i64 (n:Int)) (Gr.R b n q es):=by
 refine gj func46 ?_
 have c:=Own.of f
 have h:=xO (n:=n) (es:=es)
 refine fM c 9 ?_
 refine gy (Ki b n q es w ·) c fun d a=>cH a 12 ?_
 refine iA (m:=(nD n es).length) 2 rfl rfl yc a rfl (gL (e:=(n:Int)) rfl iX (fK a 4 ?_))
 refine gT (v:=(Za n)) results46 rfl ?_
 exact⟨rfl,yk a⟩
theorem ZK(e:Own (Gr.R b n q es) w)(f:n<=4096)(hm:es.length<=16384)(v:Nat)(hv:v<n) :
 CQ ya 238 (Zk b v) w (.bool true) (Gr.R b n q es):=by
 refine gj func238 ?_
 have c:=Own.of e
 have g:=xO (n:=n) (es:=es)
 refine fM c 8 ?_
 refine gy (Ki b n q es w ·) c fun d a=>cH a 2 ?_
 refine gz rfl (ot o_) (cH a 7 ?_)
 refine iA (m:=(nD n es).length) 2 rfl rfl yc a rfl (cH a 1 ?_)
 refine gz rfl (pL o_) (fK a 5 ?_)
 refine gT (v:=Zi) results238 rfl ?_
 exact⟨rfl,yk a⟩
abbrev yY(n:Nat)(es:List Ge)(lv:Value)(v:Nat):Value:=jL 1 lv (cE (nD n es) v) (cE (nD n es) (v+1))
theorem Jm{ok:Nat->Prop}{w:World}{lv:Value}{n v:Nat}{es:List Ge}(h:gV 1 fL ok w lv (zR n es))(hv:v<n):gV 1 fL ok w (yY n es lv v) (mF n es v):=by
 have hm:=v8 (es:=es) hv
 have a:=Sl.jL h hm.1 (by rw[KU];exact hm.2)
 rw[List.drop_take]at a
 exact a
theorem QI(j:Own (Gr.R b n q es) w)(m:n<=4096)(hm:es.length<=16384)(v:Nat)(hv:v<n) :
 CQ ya 166 (Zk b v) w (yY n es q.lv v) (Gr.R b n q es):=by
 refine gj func166 ?_
 have g:=Own.of j
 have o:=xO (n:=n) (es:=es)
 have c:=v8 (es:=es) hv
 refine fM g 10 ?_
 refine gy (ZK b n q es w · m hm v o_) g fun e d=>?_
 refine gh d 25 fun f a=>?_
 refine iH (cf:=fL) (k:=(v+1)) (i:=(v:Int)+1) rfl rfl rfl yc fU (yv a 2 rfl) o_ o_ (fW om) (cH a 1 ?_)
 refine D3 (l:=(cE (nD n es) v)) (h:=(cE (nD n es) (v+1))) rfl rfl yc fU (yv (cf:=fL) a 3 rfl) ⟨_,js o_⟩ ⟨_,js o_⟩ c.1 (by rw[KU];exact c.2) (kq (v:=(yY n es q.lv v)) rfl rfl (fK a 3 ?_))
 refine gT (v:=(yY n es q.lv v)) results166 rfl ?_
 exact⟨rfl,yk a⟩
theorem ZD(f:Own (Gr.R b n q es) w)(g:n<=4096)(hm:es.length<=16384)(v:Nat)(hv:v<n) :
 CQ ya 164 (Zk b v) w (.int .i64 ((cE (gU n es) v).length:Int)) (Gr.R b n q es):=by
 refine gj func164 ?_
 have c:=Own.of f
 have h:=xO (n:=n) (es:=es)
 refine fM c 9 ?_
 refine gy (QI b n q es w · g hm v (show v<n by omega)) c fun e a=>?_
 have d:=Jm (yv a 3 rfl) (show v<n by omega)
 refine jO (v:=(yY n es q.lv v)) rfl rfl yc d (fK a 4 ?_)
 refine gT (v:=(Za ((mF n es v).length:Int))) results164 rfl ?_
 exact⟨by rw[Bw hv,yX],yk a⟩
theorem ZE(c n:Nat)(q:Gr)(es:List Ge)(w:World)(j:Own (Gr.R c n q es) w)(hm:es.length<=16384) :
 CR ya 89 (Zg c) w (fun r w' => ∃ v:Value,v=r/\fP (Gr.R c n q es) w w' (fN [(Gr.R c n q es),cL Ge.cells v 110 3 es])):=by
 refine gj func89 ?_
 have f:=Own.of j
 have k:=xO (n:=n) (es:=es)
 refine fM f 9 ?_
 refine gy (Ki c n q es w ·) f fun e a=>cH a 12 ?_
 refine cl (PS q.ev es e (yv a 1 rfl).any (by first|omega|(simp;omega))) ?_
 rintro b g i
 have d:=tB a i.2 i.1
 refine gm d 4 b ?_
 have h:=ye [1,2,3,4,0] d
 exact⟨b,rfl,yj (yd [_,_] _ (yd [_,_,_,_] _ h)) za⟩
theorem QH(l v:Nat)(w:World) :
 CR ya 97 (Zk l v) w (fun r w' => ∃ m kv,r = .func (.func 165) #[] (vE m kv)/\fP (fN []) w w' (fN [blk m 31 (Ze l),blk kv 3 (Zd v)])):=by
 refine iE func97 2 fun n=>?_
 refine gN n (fun a f g h d=>?_)
 refine gN d (fun b i j k c=>?_)
 refine cH c 5 ?_
 refine kW (vf:=[]) (vc:=(Zy a b)) rfl rfl rfl (fK c 4 ?_)
 refine gT (v:=(.func (.func 165) #[] (vE a b))) results97 rfl ?_
 have e:=ye [1,0] c
 exact⟨a,b,rfl,me (yd [_,_] _ e)⟩
theorem QG{γ:Type}(g:γ->fJ)(Q:γ->Nat)(z0:γ)(l F kv c n:Nat)(q:Gr)(es:List Ge)(v:Nat)(w:World)(Z:∀ (z:γ) (bs:List (World×List Nat)) (L:List fJ) (w1:World),Q z<(iZ n es v).length->St bs (g z :: L) w1->YR ya l (Zm (((cE (iZ n es v) (Q z)).e:Nat):Int) (((cE (iZ n es v) (Q z)).t:Nat):Int)) w1 (fun rv w' => rv = .bool true/\∃ z2,Q z2=Q z+1/\St bs (g z2 :: L) w'))(ac:Q z0=0)(hO:Own (Ft (g z0) F c kv v n q es) w)(hn:n<=4096)(hg:lP n es)(hm:es.length<=16384)(hv:v<n) :
 CR ya 165 (IQ (.func (.yield l) #[] #[]) F kv) w (fun r w' => ∃ z:γ,r = .tuple #[]/\Q z=(iZ n es v).length/\fP (Ft (g z0) F c kv v n q es) w w' (Ft (g z) F c kv v n q es)):=by
 refine gj func165 ?_
 have ab:=Own.of hO
 have Y:=yp (lJ ab (qx (l₁:=[(g z0),blk F 31 (Ze c),blk kv 3 (Zd v)]) (l₂:=[(Gr.R c n q es)])))
 have ai:=xO (n:=n) (es:=es)
 have ad:=yX (n:=n) (es:=es) (v:=v)
 refine fM Y 4 ?_
 refine gy (QI c n q es w · hn hm v (show v<n by omega)) Y fun A b=>?_
 have h:=Jm (yv b 3 rfl) (show v<n by omega)
 refine jO (v:=(yY n es q.lv v)) rfl rfl yc h (fZ b 4 ?_)
 refine lp (α:=Nat×γ) (fun(k,z)=>[(0,(.func (.yield l) #[] #[])),(1,(Zb F)),(2,(Zb kv)),(10,(yY n es q.lv v)),(11,(Za ((mF n es v).length:Int))),(12,(Za k))]) (fun(k,z) w1=>St [(w,(Ft (g z0) F c kv v n q es).gq)] [blk c 167 (IE c q.ev q.sv q.lv),cL Ge.cells q.ev 110 3 es,cL fL q.sv 3 1 (nD n es),cL fL q.lv 3 1 (zR n es),(g z),blk F 31 (Ze c),blk kv 3 (Zd v)] w1/\k<=(mF n es v).length/\Q z=k) (fun(k,z)=>(mF n es v).length-k) (0,z0) oh (⟨b,o_,ac⟩) ?_
 rintro⟨k,z⟩ B C ⟨S,hk,X⟩
 refine fM S 2 ?_
 by_cases D:(k:Int)<((mF n es v).length:Int)
 . have U:k<(mF n es v).length:=by omega
   have ae:(mF n es v).length<=32768:=by rw[By hv];have:=v8 (es:=es) hv;omega
   have ah:k<(iZ n es v).length:=by omega
   have W:=VW U
   have aa:=O6 (mu U)
   have V:=hg.at aa
   have af:=V.1
   have ag:=V.2.1
   refine cH S 12 ?_
   refine jf rfl rfl yf rfl (Jm (yv S 3 rfl) (show v<n by omega)) (fW U) rfl (cH S 12 ?_)
   refine ir S (fun E G H I i=>?_)
   refine gh i 15 fun J a=>?_
   by_cases K:((cE es (cE (mF n es v) k)).v:Int)=(v:Int)
   . skip
     have j:=ye [5,0,1,2,3,4,6,7] a
     have T:=Z z _ _ _ o_ j
     refine cH a 15 ?_
     rw[X,W]at T
     rw[show (((GA es v (cE (mF n es v) k)).t:Nat):Int)=((cE es (cE (mF n es v) k)).u:Int) by show (((if _=v then _ else _:Nat)):Int)=_;first|rw[if_pos o_]|rw[if_neg o_]]at T
     refine yl (vl:=(Zm (((cE (mF n es v) k):Nat):Int) ((cE es (cE (mF n es v) k)).u:Int))) rfl rfl rfl T ?_
     rintro _ M ⟨rfl,m,N,d⟩
     refine fK d 11 ?_
     have o:=ye [2,3,4,5,0,6,7] d
     exact gM ((k+1),m) oh (⟨o,o_,o_⟩) o1
   . skip
     have p:=ye [5,0,1,2,3,4,6,7] a
     have T:=Z z _ _ _ o_ p
     refine cH a 11 ?_
     rw[X,W]at T
     rw[show (((GA es v (cE (mF n es v) k)).t:Nat):Int)=((cE es (cE (mF n es v) k)).v:Int) by show (((if _=v then _ else _:Nat)):Int)=_;first|rw[if_pos o_]|rw[if_neg o_]]at T
     refine yl (vl:=(Zm (((cE (mF n es v) k):Nat):Int) ((cE es (cE (mF n es v) k)).v:Int))) rfl rfl rfl T ?_
     rintro _ O ⟨rfl,s,P,f⟩
     refine fK f 11 ?_
     have x:=ye [2,3,4,5,0,6,7] f
     exact gM ((k+1),s) oh (⟨x,o_,o_⟩) o1
 . refine jU S 9 ?_
   have y:=S
   exact⟨z,rfl,o_,yj (yd [_,_,_,_] _ (lJ (yd [_,_,_,_] _ y) (qx (l₁:=[(Gr.R c n q es)]) (l₂:=[(g z),blk F 31 (Ze c),blk kv 3 (Zd v)])))) za⟩
def Lk.cells(x:Lk):List Value:=[.int .i64 (x.e:Int),.int .i64 (x.t:Int)]
def uG(n:Nat)(es:List Ge)(v:Nat)(H:List (Value×List Lk)):Prop:=H.length=n/\∀ j,j<n->(cE H j).2=if j<v then iZ n es j else[]
def uH(n:Nat)(es:List Ge)(v:Nat)(a:List (Value×List Lk))(k:Nat)(H:List (Value×List Lk)):Prop:=H.length=n/\k<=(iZ n es v).length/\(cE H v).2=(iZ n es v).take k/\H.eraseIdx v=a.eraseIdx v/\∀ j,j≠v->cE H j=cE a j
theorem xz{α:Type}[Inhabited α]{n j:Nat}{x:α}(h:j<n):cE (List.replicate n x) j=x:=iW (by rw[sw,if_pos h])
theorem uG.start{n:Nat}{es:List Ge}:uG n es 0 (List.replicate n ((.slice none 0 0,[]):Value×List Lk)):=⟨oK,fun j a=>by rw[xz a,if_neg (wF _)]⟩
theorem YG{α:Type}[Inhabited α](l:List α)(i:Nat)(f:α->α):(cO l i f).eraseIdx i=l.eraseIdx i:=List.eraseIdx_set_eq
theorem uH.start{n v:Nat}{es:List Ge}(h:uG n es v H)(hv:v<n):uH n es v H 0 H:=⟨h.1,ko _,by rw[h.2 v hv,if_neg (Nat.lt_irrefl _)];rfl,rfl,fun _ _=>rfl⟩
theorem uH.next{n v:Nat}{es:List Ge}{a:List (Value×List Lk)}{sv:Value}(h:uH n es v a k H)(hv:v<n)(hk:k<(iZ n es v).length):uH n es v a (k+1) (cO H v fun _=>(sv,(cE H v).2++[cE (iZ n es v) k])):=by
 refine⟨gd.trans h.1,hk,?_,(YG _ _ _).trans h.2.2.2.1,fun j b=>?_⟩
 . rw[jQ (by rw[h.1];exact hv)]
   show (cE H v).2++_=_
   rw[h.2.2.1,nY,fW hk]
   rfl
 . rw[k6 (fun e=>b e.symm)];exact h.2.2.2.2 j b
theorem uH.done{n v:Nat}{es:List Ge}{a:List (Value×List Lk)}(b:uG n es v a)(h:uH n es v a (iZ n es v).length H):uG n es (v+1) H:=by
 refine⟨h.1,fun j c=>?_⟩
 by_cases e:j=v
 . subst e
   rw[h.2.2.1,sB,if_pos (AX _)]
 . rw[h.2.2.2.2 j e,b.2 j c]
   by_cases q:j<v
   . rw[if_pos q,if_pos o_]
   . rw[if_neg q,if_neg o_]
theorem uG.all{n:Nat}{es:List Ge}(h:uG n es n H):H.map (·.2)=gU n es:=by
 apply mS
 intro j
 unfold gU
 rw[lU,lU]
 by_cases hj:j<n
 . rw[fW (by rw[h.1];exact hj),pg hj]
   show some (cE H j).2=_
   rw[h.2 j hj,if_pos hj]
   rfl
 . rw[nW (by rw[h.1];omega),nW (by rw[mD];omega)]
   rfl
abbrev yI(n:Nat)(es:List Ge)(v:Nat)(a:List (Value×List Lk)):Type:={z:Nat×List (Value×List Lk) // uH n es v a z.1 z.2}
abbrev Fe a (b:Nat) c d e f (g:Nat) (h:Int):=([a,blk b 179 [c],d,cL Lk.cells e 190 2 f,blk g 3 (Zd h)]:List fJ)
theorem abk(F n:Nat)(q:Gr)(es:List Ge)(w:World)(hO:Own (Gr.R F n q es) w)(hn:n<=4096)(hg:lP n es)(hm:es.length<=16384) :
 CR ya 88 (Zg F) w (fun r w' => ∃ (v:Value) (H:List (Value×List Lk)),v=r/\H.map (·.2)=gU n es/\fP (Gr.R F n q es) w w' (fN [(Gr.R F n q es),cL jd v 188 1 H,(l7 Lk.cells 190 2 H)])):=by
 refine uc (vs:=(Ze F)) func88 rfl ntmps88 rfl ?_
 have aV:=yy hO
 refine fM aV 8 ?_
 refine gF 0 aV (BM F n q es w · hn) fun ao I=>?_
 refine kA (cf:=jd) (z0:=((.slice none 0 0,[]):Value×List Lk)) (m:=n) (c:=n) rfl rfl rfl En Hx rfl f_ d_ (zh _) o_ o_ I ?_
 intro u J ap aq K
 have y:St _ [cL jd (.slice (some ⟨u,0,none⟩) n n) 188 1 (List.replicate n ((.slice none 0 0,[]):Value×List Lk)),(Gr.R F n q es)] J:=mR (cf:=jd) K (i:=0) rfl f_ (zh _) (by simp only[maxLen];omega)
 generalize (Value.slice (some ⟨u,0,none⟩) n n)=a at y ⊢
 refine ir y (fun b ar au av p=>?_)
 refine iS 0 p (fun M o=>?_) (hvs:=(cells_one (yh p (i:=1) rfl))) (h1:=(gD (yh p (i:=1) rfl) je))
 refine cH o 6 ?_
 refine iA (m:=(List.replicate n ((.slice none 0 0,[]):Value×List Lk)).length) 1 rfl rfl En o rfl ?_
 have N:St _ [(l7 Lk.cells 190 2 (List.replicate n ((.slice none 0 0,[]):Value×List Lk))),blk b 179 [a],cL jd a 188 1 (List.replicate n ((.slice none 0 0,[]):Value×List Lk)),(Gr.R F n q es)] M:=St.Gm n o
 have O:=St.Qc N
 have P:=ye [2,3,1,0,4] O
 refine fZ o 4 ?_
 refine RG (α:=Nat×List (Value×List Lk)×List Nat) (fun(v,H,dl)=>dl) (fun(v,H,dl)=>[(0,(Zb F)),(3,(Zb b)),(11,(Za ((List.replicate n ((.slice none 0 0,[]):Value×List Lk)).length:Int))),(12,(Za v))]) (fun(v,H,dl) w1=>St [(w,(Gr.R F n q es).gq)] [blk b 179 [a],cL jd a 188 1 H,(l7 Lk.cells 190 2 H),(ua dl),(Gr.R F n q es)] w1/\uG n es v H/\v<=n) (fun(v,H,dl)=>n-v) (0,(List.replicate n ((.slice none 0 0,[]):Value×List Lk)),[]) oh (⟨P,uG.start,o_⟩) ?_
 rintro⟨v,H,dl⟩ aw ax ⟨aM,aO,bf⟩
 have a9:=aO.1
 have bd:(List.replicate n ((.slice none 0 0,[]):Value×List Lk)).length=n:=oK
 refine fM aM 2 ?_
 by_cases ay:(v:Int)<((List.replicate n ((.slice none 0 0,[]):Value×List Lk)).length:Int)
 . refine cH aM 12 ?_
   refine ir aM (fun g az aA aB Q=>?_)
   refine gh Q 7 fun S U=>?_
   refine cl (QH F v S) ?_
   rintro _ aC ⟨h,j,rfl,ht⟩
   have A:=yp (y9 U ht)
   have V:=ye [5,0,1,2,3,4,6,7] A
   have W:=vm v V o_
   have aN:v<n:=by omega
   have X:=ye [5,6,0,4,1,2,3,8,7] W
   refine fZ A 3 ?_
   refine rf (α:=yI n es v H) (ps:=[18,19]) (fi:=[]) (ca:=(Zy h j)) (fun z=>[blk b 179 [a],cL jd a 188 1 z.1.2,cL Lk.cells ((cE z.1.2 v).1) 190 2 ((cE z.1.2 v).2),blk g 3 (Zd v),(l7 Lk.cells 190 2 (H.eraseIdx v)),blk h 31 (Ze F),blk j 3 (Zd v),(Gr.R F n q es),(ua dl)]) (fun z=>z.1.1=(iZ n es v).length) X rfl eN ?_ ?_
   . intro fn dd l wl rc aR a5
     have Y:=ye [0,2,3,4,5,1,6,7,8,9,10] a5
     have aZ:=yd (Fe (gK l rc) b a (cL jd a 188 1 H) ((cE H v).1) ((cE H v).2) g v) [jy dd (some []),(l7 Lk.cells 190 2 (H.eraseIdx v)),blk h 31 (Ze F),blk j 3 (Zd v),(Gr.R F n q es),(ua dl)] Y
     have aU:rc.state = .ready:=by rw[aR]
     have a1:rc.pending=none:=by rw[aR]
     have a3:∀ (z:yI n es v H) (bs:List (World×List Nat)) (L:List fJ) (w1:World),z.1.1<(iZ n es v).length->St bs ((fN (Fe (gK l rc) b a (cL jd a 188 1 z.1.2) ((cE z.1.2 v).1) ((cE z.1.2 v).2) g v)) :: L) w1->YR ya l (Zm (((cE (iZ n es v) (z.1.1)).e:Nat):Int) (((cE (iZ n es v) (z.1.1)).t:Nat):Int)) w1 (fun rv w' => rv = .bool true/\∃ z2:yI n es v H,z2.1.1=z.1.1+1/\St bs ((fN (Fe (gK l rc) b a (cL jd a 188 1 z2.1.2) ((cE z2.1.2 v).1) ((cE z2.1.2 v).2) g v)) :: L) w'):=by
      intro z bs LT wr aQ T
      have T:=T.unpack
      have bg:=z.2.1
      have a8:=z.2.2.2.1
      have aQ:z.1.1<(iZ n es v).length:=aQ
      have be:(cE z.1.2 v).2.length=z.1.1:=by rw[a8,zw];omega
      have ba:=yX (n:=n) (es:=es) (v:=v)
      have bb:=By (es:=es) aN
      have bc:=v8 (es:=es) aN
      refine tq (vl:=(Zm (((cE (iZ n es v) z.1.1).e:Nat):Int) (((cE (iZ n es v) z.1.1).t:Nat):Int))) 0 aR T rfl rfl rfl (jh T 8 ?_)
      refine tN (tW 0 T rfl aU rfl (fun aD B=>oW B 1 ?_))
      refine jS mixed [([0,1,2,3,4,5,6,7,8,9],[0,1,2,3,5]),([10],[0,1])] [11,12] B (fun aE C=>iY ?_)
      refine cH C 8 ?_
      refine iL (pvs:=[(0,(Za (((cE (iZ n es v) z.1.1).e:Nat):Int))),(1,(Za (((cE (iZ n es v) z.1.1).t:Nat):Int)))]) (v:=.agg (Zx (((cE (iZ n es v) z.1.1).e:Nat):Int) (((cE (iZ n es v) z.1.1).t:Nat):Int))) rfl rfl (i6 [(0,(Zd (((cE (iZ n es v) z.1.1).e:Nat):Int))),(1,(Zd (((cE (iZ n es v) z.1.1).t:Nat):Int)))] Am adv rfl oh rfl) (jB (vs:=(De (((cE (iZ n es v) z.1.1).e:Nat):Int) (((cE (iZ n es v) z.1.1).t:Nat):Int))) (cs:=(Zm (((cE (iZ n es v) z.1.1).e:Nat):Int) (((cE (iZ n es v) z.1.1).t:Nat):Int))) rfl rfl x8 Am rfl (by simp[Value.cells]) rfl rfl rfl C (fun Z aF aG aH s=>fK s 1 ?_))
      refine jF (iY ?_)
      refine kR (cf:=Lk.cells) (ys:=(cE z.1.2 v).2) (zs:=[(⟨((cE (iZ n es v) z.1.1).e),((cE (iZ n es v) z.1.1).t)⟩:Lk)]) (LL:=fun d=>(row (Zu Z) 190 2 1 ((Zm (((cE (iZ n es v) z.1.1).e:Nat):Int) (((cE (iZ n es v) z.1.1).t:Nat):Int))) :: gK l { rc with state:=.busy } :: blk b 179 [a] :: cL jd a 188 1 z.1.2 :: cL Lk.cells d 190 2 (((cE z.1.2 v).2)++[(⟨((cE (iZ n es v) z.1.1).e),((cE (iZ n es v) z.1.1).t)⟩:Lk)]) :: blk g 3 (Zd v) :: LT)) 4 rfl rfl rfl x8 Am rfl d_ s rfl (kG s (i:=0) rfl) (fun x hx=>zr.1 (show List.all _ _=true from rfl) x hx) (by simp only[zb,zd,maxLen];omega) (by simp only[zb,zd,maxLen];omega) f_ ?_
      intro d aI aa aJ
      have k:=St.sub (L' := (gK l { rc with state:=.busy } :: blk b 179 [a] :: cL jd a 188 1 z.1.2 :: cL Lk.cells d 190 2 (((cE z.1.2 v).2)++[(⟨((cE (iZ n es v) z.1.1).e),((cE (iZ n es v) z.1.1).t)⟩:Lk)]) :: blk g 3 (Zd v) :: LT)) aa (List.Sublist.cons _ (List.Sublist.refl _))
      refine fK k 1 ?_
      refine jF (jX ?_)
      refine cH k 1 ?_
      refine iz (f:=(fun _=>(d,((cE z.1.2 v).2++[cE (iZ n es v) z.1.1])))) 2 k (fun aK D=>?_) (hvs:=(cells_one (yh k (i:=3) rfl))) (h1:=(gD (yh k (i:=3) rfl) je))
      refine fK D 2 ?_
      refine qa 0 D rfl aU a1 rfl ?_
      intro aL ab
      have aY:=jQ (f:=fun _=>(d,(cE z.1.2 v).2++[cE (iZ n es v) z.1.1])) (show v<z.1.2.length by omega)
      have ac:=ab
      have a2:cL Lk.cells d 190 2 (((cE z.1.2 v).2)++[(⟨((cE (iZ n es v) z.1.1).e),((cE (iZ n es v) z.1.1).t)⟩:Lk)])=cL Lk.cells ((cE (cO z.1.2 v (fun _=>(d,(cE z.1.2 v).2++[cE (iZ n es v) z.1.1]))) v).1) 190 2 ((cE (cO z.1.2 v (fun _=>(d,(cE z.1.2 v).2++[cE (iZ n es v) z.1.1]))) v).2):=by rw[aY]
      exact⟨_,rfl,rfl,(⟨(z.1.1+1,cO z.1.2 v (fun _=>(d,(cE z.1.2 v).2++[cE (iZ n es v) z.1.1]))),z.2.next aN aQ⟩:yI n es v H),rfl,yd [_,_,_,_,_] _ (St.u6 3 ac rfl a2)⟩
     have ad:=lJ aZ (List.Perm.cons _ (List.Perm.cons _ (List.Perm.swap _ _ _)))
     have ae:=ye [0,2,4,5,1,3,6] ad
     have aT:=yd [_,_,_,_] _ ae
     refine CR.mono (QG (fun(z:yI n es v H)=>fN (Fe (gK l rc) b a (cL jd a 188 1 z.1.2) ((cE z.1.2 v).1) ((cE z.1.2 v).2) g v)) (fun z:yI n es v H=>z.1.1) (⟨(0,H),uH.start aO aN⟩:yI n es v H) l h j F n q es v wl a3 rfl (yg aT 0 rfl) hn hg hm aN) ?_
     rintro _ w9 ⟨z,-,a0,a6⟩
     have aS:=yp (yw aT a6)
     have a4:=aS
     have af:=ye [0,8,1,2,3,4,9,5,6,7,10] a4
     exact⟨z,a0,af⟩
   . rintro z dd ag hC ah
     have aP:=z.2
     rw[hC]at aP
     have aW:=uH.done aO aP
     have ai:=ye [3,5,0,1,2,4,6,7,8,9] ah
     have aX:=aP.2.2.2.1
     have E:=ai
     rw[<-aX]at E
     have G:St _ [(l7 Lk.cells 190 2 z.1.2),jy dd (some []),blk b 179 [a],cL jd a 188 1 z.1.2,blk g 3 (Zd v),blk h 31 (Ze F),blk j 3 (Zd v),(Gr.R F n q es),(ua dl)] ag:=St.Gl E (by have:=aP.1;omega)
     refine rX tt none G 7 ?_
     refine tN (?_)
     have aj:=ye [1,8,0,2,3,4,5,6,7] G
     have ak:=St.Qd aj
     have al:=ye [2,3,1,0,7] ak
     exact OX ((v+1),z.1.2,(dd :: dl)) oh (⟨al,aW,o_⟩) o1
 . skip
   have am:=ye [3,0,1,2,4] aM
   refine fK aM 17 ?_
   refine Gv _ am ?_
   intro w8 aS
   have a7:n=v:=by omega
   subst a7
   have an:=ye [3,1,2] aS
   exact⟨_,results_tmp results88 _ _ _,_,rfl,by rw[ox];exact⟨a,H,rfl,uG.all aO,yk an⟩⟩
end Go.Proofs.YtedjjkcihkmjgaaGreatDoor
