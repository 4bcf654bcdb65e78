/- What the functions that the statements reach do: walks through the code of the program and of the references, one theorem a function; under what is said of its arguments. -/
import Derived.Test.YtoceanggliccgaaGreatDoorFb
import Derived.Test.YtoceanggliccgaaGreatDoorVa
import Derived.Test.YtoceanggliccgaaGreatDoorFd
import Derived.Test.YtoceanggliccgaaGreatDoorVe
import Derived.Test.YtoceanggliccgaaGreatDoorFc
import Derived.Shelf.SlSortCmp.Whole1
set_option linter.unusedVariables false
set_option linter.unusedSimpArgs false
set_option maxRecDepth 100000
set_option maxHeartbeats 4000000
namespace Go.Proofs.YtoceanggliccgaaGreatDoor
section
open Go Go.Sx
theorem Vp(v:Value)(xs:List Ge)(w:World)(hv:iw 3 Ge.cells (fun _=>True) w v xs)(m:xs.length<=1000000) :
 CR ya 33 #[v] w (fun r w' => p5 3 Ge.cells w w' r 91 xs/\gx [] w w'):=by
 refine en Tryz.func33 Tryz.ntmps33 ?_
 have l:=yt w
 refine fS l 9 ?_
 refine Ci (v:=v) rfl rfl rfl nG hv (gF l 2 ?_)
 cases e:(wo v:Bool)
 . skip
   refine fS l 5 ?_
   refine jL (vs:=[]) (cs:=[]) rfl rfl nG uS rfl (by intro v hv;simp at hv) rfl rfl rfl l ?_
   intro f g h i c
   have d:=c
   refine fK c 1 ?_
   refine lF (cf:=Ge.cells) (ys:=[]) (zs:=xs) (LL:=fun a=>[fL Ge.cells a 91 3 xs]) 0 rfl rfl rfl nG uS rfl d_ d rfl (iw.src (yw d s_ d_ hv) f_) (xH f_ _) (by simp only[zh];omega) (by simp only[zh];omega) f_ (fun a j b k=>fQ b 4 ?_)
   refine gq (v:=a) Tryz.results33 rfl ?_
   exact⟨Di b s_,b.gz s_⟩
 . skip
   refine iN l 8 ?_
   refine gq (v:=Zg) Tryz.results33 rfl ?_
   obtain rfl:=CI e hv
   exact⟨p5.CH, l.gz s_⟩
def Gr.R(a n:Nat)(r:Gr)(es:List Ge):fU:=gj (Hl a r.ev r.sv r.lv es (sW n es) (CC n es))
abbrev RP:List (List Nat):=[[],[],[1],[1,2],[],[4],[4,5],[4,5,6],[0,1,2,3,4,5,6,7],[0,1,2,3,4,5,6,7,8],[0,1,2,3,4,5,6,7,8,9]]
theorem PC(v:Value)(n:Nat)(es:List Ge)(w:World)(hO:Own (BO v es) w)(hg:n9 n es)(hn:n<=65536)(hm:es.length<=65536) :
 CR ya 32 #[(Za n),v] w (fun r w' => ∃ (gb:Nat) (q:Gr),r = .pointer (some ⟨gb,0,none⟩)/\fZ (BO v es) w w' (Gr.R gb n q es)):=by
 refine en Tryz.func32 Tryz.ntmps32 ?_
 have a3:=yp hO
 refine qV a3 6 ?_
 have y:AF RP [3,7,9] [(7,fun d=>blk d 3 ((List.replicate (2*es.length) 0).flatMap fR)),(3,fun j=>blk j 3 ((List.replicate (n+1) 0).flatMap fR))] 9:=JP (is:=[7,3]) rfl d_
 refine Kr mixed RP [3,7,9] [(7,fun d=>blk d 3 ((List.replicate (2*es.length) 0).flatMap fR)),(3,fun j=>blk j 3 ((List.replicate (n+1) 0).flatMap fR))] 9 k_ rfl [fun g=>v,fun g=>(Za n),fun g=>(Za ((n+1:Nat):Int)),fun g=>(Zd (g 3) (n+1)),fun g=>v,fun g=>(Za es.length),fun g=>(Za ((2*es.length:Nat):Int)),fun g=>(Zd (g 7) (2*es.length)),fun g=>(HE v (g 3) (n+1) (g 7) (2*es.length)),fun g=>(Zb (g 9)),fun g=>(Zb (g 9))] (fun g=>[blk (g 9) 95 (LY v (g 3) (n+1) (g 7) (2*es.length)),blk (g 7) 3 ((List.replicate (2*es.length) 0).flatMap fR),blk (g 3) 3 ((List.replicate (n+1) 0).flatMap fR),fL Ge.cells v 91 3 es]) (fun g=>(5,(Zb (g 9))) :: (23,(Zb (g 9))) :: (22,(HE v (g 3) (n+1) (g 7) (2*es.length))) :: (21,(Zd (g 7) (2*es.length))) :: (20,(Za ((2*es.length:Nat):Int))) :: (19,(Za es.length)) :: (18,v) :: (17,(Zd (g 3) (n+1))) :: (16,(Za ((n+1:Nat):Int))) :: (15,(Za n)) :: (14,v) :: _) a3 ?_ f_ ?_
 . skip
   refine mF rfl (fun g _ _=>qv rfl rfl (kI (v:=v) rfl)) (mF rfl (fun g _ _=>qv rfl rfl (kI (v:=(Za n)) rfl)) (mF rfl (fun g _ _=>qv rfl rfl (Ei (e:=((n+1:Nat):Int)) rfl rfl rfl iT)) (sQ y (R:=fun j=>blk j 3 ((List.replicate (n+1) 0).flatMap fR)) (val:=fun j=>(Zd j (n+1))) s_ (fun _ _=>rfl) (fun g wq L hM N kM=>rN (cf:=fR) (z0:=0) (m:=(n+1)) (c:=(n+1)) rfl rfl rfl yd gr rfl f_ d_ (zk _) o_ o_ hM (fun a7 _ h=>kM a7 _ h)) (fun _ _=>kC rfl sT) (mF rfl (fun g _ _=>qv rfl rfl (kI (v:=v) rfl)) (mF rfl (fun g _ _=>qv rfl rfl (Jy (v:=v) rfl nG (y8 (cf:=Ge.cells) a3 0 rfl))) (mF rfl (fun g _ _=>qv rfl rfl (Ei (e:=((2*es.length:Nat):Int)) rfl rfl rfl iT)) (sQ y (R:=fun d=>blk d 3 ((List.replicate (2*es.length) 0).flatMap fR)) (val:=fun d=>(Zd d (2*es.length))) s_ (fun _ _=>rfl) (fun g wq L hM N kM=>rN (cf:=fR) (z0:=0) (m:=(2*es.length)) (c:=(2*es.length)) rfl rfl rfl yd gr rfl f_ d_ (zk _) o_ o_ hM (fun a8 _ h=>kM a8 _ h)) (fun _ _=>kC rfl sT) ?_)))))))
   refine mF rfl (fun g _ _=>qv rfl rfl (BZ (pvs:=[(1,v),(2,(Zd (g 3) (n+1))),(3,(Zd (g 7) (2*es.length)))]) (v:=.agg #[Zt,v,(Zd (g 3) (n+1)),(Zd (g 7) (2*es.length))]) rfl (jq [(1,[v]),(2,(p7 (g 3) (n+1))),(3,(p7 (g 7) (2*es.length)))] Lf acF rfl ⟨rfl,(cells_one (yu a3 (i:=0) rfl)),rfl,rfl,rfl,rfl,trivial⟩ rfl))) (J3 y (val:=fun b=>(Zb b)) (fun _ _=>rfl) (fun g wq hM N kM=>JE (v:=(HE v (g 3) (n+1) (g 7) (2*es.length))) (cs:=(LY v (g 3) (n+1) (g 7) (2*es.length))) rfl rfl rfl hM (fun a9 _ h=>kM a9 _ h)) (fun _ _=>kC rfl sT) (mF rfl (fun g _ _=>qv rfl rfl (vL (v:=(Zb (g 9))) rfl)) ?_))
   exact J4
 intro A K p
 generalize A 3=j at p ⊢
 generalize A 7=d at p ⊢
 generalize A 9=b at p ⊢
 have M:St _ [blk b 95 [(.pointer none),v,(.slice (some ⟨j,0,none⟩) (n+1) (n+1)),(.slice (some ⟨d,0,none⟩) (2*es.length) (2*es.length))],blk d 3 ((List.replicate (2*es.length) 0).flatMap fR),fL fR (.slice (some ⟨j,0,none⟩) (n+1) (n+1)) 3 1 (List.replicate (n+1) 0),fL Ge.cells v 91 3 es] K:=lU (cf:=fR) p (i:=2) rfl f_ (zk _) (by simp only[maxLen];omega)
 generalize (Value.slice (some ⟨j,0,none⟩) (n+1) (n+1))=a at M ⊢
 have O:St _ [blk b 95 [(.pointer none),v,a,(.slice (some ⟨d,0,none⟩) (2*es.length) (2*es.length))],fL fR (.slice (some ⟨d,0,none⟩) (2*es.length) (2*es.length)) 3 1 (List.replicate (2*es.length) 0),fL fR a 3 1 (List.replicate (n+1) 0),fL Ge.cells v 91 3 es] K:=lU (cf:=fR) M (i:=1) rfl f_ (zk _) (by simp only[maxLen];omega)
 generalize (Value.slice (some ⟨d,0,none⟩) (2*es.length) (2*es.length))=l at O ⊢
 refine Kz tt none O 14 fun av B=>?_
 refine iL (m:=es.length) 3 rfl rfl nG B rfl ?_
 have U:=yg [0,3,2,1] B
 have V:=yv 2 U rfl (congrArg (fL fR a 3 1) (ad4))
 refine gF B 4 ?_
 refine lp (α:=Nat) (fun i=>[(0,(Za n)),(1,v),(4,Zt),(5,(Zb b)),(28,v),(29,(Za es.length)),(30,(Za i))]) (fun i w1=>St [(w,(BO v es).gG)] (Hl b v a l es (nS n (iW (es.take i))) (List.replicate (2*es.length) 0)) w1/\i<=es.length) (fun i=>es.length-i) 0 ⟨rfl,rfl,rfl,rfl,rfl,rfl,gm rO,trivial⟩ (⟨V,o_⟩) ?_
 rintro i aw ax ⟨aZ,hi⟩
 have bj:(iW (es.take i)).length<=2*i:=by rw[xD,zx];omega
 have bp:=wL (n:=n) (E:=iW (es.take i))
 refine fS aZ 2 ?_
 by_cases ay:((i:Int):Int)<((es.length:Int):Int)
 . have a5:i<es.length:=by omega
   have a4:=hg.at a5
   have bn:=SC (E:=iW (es.take i)) (show (fJ es i).u+1<=n by omega)
   refine fK aZ 13 ?_
   refine iH aZ (fun az aA aB aC W=>?_)
   refine gJ W 11 fun aD C=>?_
   refine ar (e:=((((fJ es i).u)+1:Nat):Int)) rfl rfl rfl rfl iT (fK C 2 ?_)
   refine ar (e:=(((fJ (nS n (iW (es.take i))) (((fJ es i).u)+1))+1:Nat):Int)) rfl rfl rfl rfl iT (fK C 1 ?_)
   refine iO (f:=(fun _=>((fJ (nS n (iW (es.take i))) (((fJ es i).u)+1))+1))) 3 C (fun aE P=>?_)
   have X:=yv 3 P rfl (congrArg (fL fR a 3 1) (SB a4.1))
   have ba:=SC (E:=iW (es.take i)++[(fJ es i).u]) (show (fJ es i).v+1<=n by omega)
   refine gF P 2 ?_
   rw[zq,LN]at ba
   have bs:=wL (n:=n) (E:=iW (es.take i)++[(fJ es i).u])
   refine oD X 7 fun aF D=>?_
   refine ar (e:=((((fJ es i).v)+1:Nat):Int)) rfl rfl rfl rfl iT (fK D 2 ?_)
   refine ar (e:=(((fJ (nS n (iW (es.take i)++[(fJ es i).u])) (((fJ es i).v)+1))+1:Nat):Int)) rfl rfl rfl rfl iT (fK D 1 ?_)
   refine iO (f:=(fun _=>((fJ (nS n (iW (es.take i)++[(fJ es i).u])) (((fJ es i).v)+1))+1))) 3 D (fun aG Q=>?_)
   refine fQ Q 7 ?_
   refine tN (?_)
   have Y:=yg [1,2,3,4] Q
   have Z:=yv 2 Y rfl (congrArg (fL fR a 3 1) ((SB a4.2.1).trans (congrArg (nS n) (show iW (es.take i)++[(fJ es i).u]++[(fJ es i).v]=iW (es.take (i+1)) by rw[Wp a5];simp))))
   exact again (i+1) ⟨rfl,rfl,rfl,rfl,rfl,rfl,gm rO,trivial⟩ (⟨Z,o_⟩) (by show (es.length-(i+1):Nat)<es.length-i;omega)
 . have bc:i=es.length:=by omega
   have bi:es.take i=es:=by rw[bc,qz]
   have aa:=yv 2 aZ rfl (congrArg (fL fR a 3 1) ((congrArg (fun z=>nS n (iW z)) bi).trans ad6))
   refine gF aZ 18 ?_
   refine lp (α:=Nat) (fun k=>[(0,(Za n)),(1,v),(4,Zt),(5,(Zb b)),(57,(Za n)),(58,(Za k))]) (fun k w1=>St [(w,(BO v es).gG)] (Hl b v a l es (mG n (iW es) k) (List.replicate (2*es.length) 0)) w1/\k<=n) (fun k=>n-k) 0 ⟨rfl,rfl,rfl,rfl,rfl,gm rO,trivial⟩ (⟨aa,o_⟩) ?_
   rintro k aH ab ⟨a0,hk⟩
   have bk:=xD es
   have bt:=yI (n:=n) (k:=k) (E:=iW es)
   refine fS a0 2 ?_
   by_cases aI:((k:Int):Int)<((n:Int):Int)
   . have bd:k<n:=by omega
     have bm:=SD (E:=iW es) (k:=k) (show k+1<=n by omega)
     have bl:=SD (E:=iW es) (k:=k) (show k<=n by omega)
     refine gJ a0 21 fun aJ G=>?_
     refine ar (e:=((k+1:Nat):Int)) rfl rfl rfl rfl iT (fK G 9 ?_)
     refine ar (e:=(((fJ (mG n (iW es) k) (k+1))+(fJ (mG n (iW es) k) k):Nat):Int)) rfl rfl rfl rfl iT (fK G 1 ?_)
     refine iO (f:=(fun _=>((fJ (mG n (iW es) k) (k+1))+(fJ (mG n (iW es) k) k)))) 2 G (fun aK S=>?_)
     refine fQ S 7 ?_
     refine tN (?_)
     have ac:=yv 2 S rfl (congrArg (fL fR a 3 1) (ad5 bd))
     exact again (k+1) ⟨rfl,rfl,rfl,rfl,rfl,gm rO,trivial⟩ (⟨ac,o_⟩) (by show (n-(k+1):Nat)<n-k;omega)
   . refine fK a0 16 ?_
     refine cl Cg (B6 a (mG n (iW es) k) ab (y8 a0 2 rfl).any (by first|omega|(simp;omega))) ?_
     rintro o ad hz
     have s:St _ [fL fR o 3 1 (mG n (iW es) k),blk b 95 [(Zb b),v,a,l],fL Ge.cells v 91 3 es,fL fR a 3 1 (mG n (iW es) k),fL fR l 3 1 (List.replicate (2*es.length) 0)] ad:=tQ a0 hz.2 hz.1
     refine fK s 7 ?_
     refine iL (m:=es.length) 2 rfl rfl nG s rfl ?_
     have ae:=yg [1,2,3,4,0] s
     have a6:k=n:=by omega
     have af:=yv 2 ae rfl (congrArg (fL fR a 3 1) (congrArg (mG n (iW es)) a6))
     have ag:=yv 4 af rfl (congrArg (fL fR o 3 1) ((congrArg (mG n (iW es)) a6).trans abS))
     have ah:=yv 3 ag rfl (congrArg (fL fR l 3 1) (congrArg (fun z=>List.replicate z 0) (xD es).symm))
     refine gF s 4 ?_
     refine lp (α:=Nat) (fun F=>[(0,(Za n)),(4,Zt),(5,(Zb b)),(9,o),(84,v),(85,(Za es.length)),(86,(Za F))]) (fun F w1=>St [(w,(BO v es).gG)] [blk b 95 [(Zb b),v,a,l],fL Ge.cells v 91 3 es,fL fR a 3 1 (sW n es),fL fR l 3 1 (qR n (iW es) (2*F)),fL fR o 3 1 (oB n (iW es) (2*F))] w1/\F<=es.length) (fun F=>es.length-F) 0 ⟨rfl,rfl,rfl,rfl,rfl,rfl,gm rO,trivial⟩ (⟨ah,o_⟩) ?_
     rintro F aL aM ⟨a1,bo⟩
     have bf:=JB (n:=n) (E:=iW es) (2*F)
     have br:=xY (n:=n) (E:=iW es) (k:=2*F)
     rw[xD]at bf
     refine fS a1 2 ?_
     by_cases aN:((F:Int):Int)<((es.length:Int):Int)
     . have T:F<es.length:=by omega
       have a2:=hg.at T
       refine fK a1 14 ?_
       refine iH a1 (fun aO aP aQ aR ai=>?_)
       refine gJ ai 10 fun aS t=>?_
       refine ja (pvs:=[(0,(Za ((fJ es F).u:Int))),(1,(Za ((fJ es F).v:Int)))]) (v:=.agg (Zx ((fJ es F).u:Int) ((fJ es F).v:Int))) rfl rfl (ur [(0,(Ze ((fJ es F).u:Int))),(1,(Ze ((fJ es F).v:Int)))] FY yn gr rfl ⟨rfl,rfl,rfl,rfl,trivial⟩ rfl s_) (gF t 4 ?_)
       refine ri 3 (iz (fS t 13 ?_))
       refine mB (i:=0) rfl rfl rfl yn yf rfl gr d_ rfl ?_
       have bh:=Q6 a2.1 (Ae T).1
       refine gF t 4 ?_
       rw[xD]at bh
       refine oD t 11 fun aT aj=>?_
       refine iO (f:=(fun _=>F)) 4 aj (fun aU H=>?_)
       refine fK H 7 ?_
       refine ar (e:=(((fJ (oB n (iW es) (2*F)) ((fJ es F).u))+1:Nat):Int)) rfl rfl rfl rfl iT (fK H 1 ?_)
       refine iO (f:=(fun _=>((fJ (oB n (iW es) (2*F)) ((fJ es F).u))+1))) 5 H (fun aV x=>?_)
       refine fQ x 7 ?_
       refine tN (?_)
       refine iz (fS x 13 ?_)
       refine mB (i:=1) rfl rfl rfl yn yf rfl gr d_ rfl ?_
       have ak:=yv 5 x rfl (congrArg (fL fR o 3 1) (Q7 a2.1 (Ae T).1))
       have al:=yv 4 ak rfl (congrArg (fL fR l 3 1) ((aa1 T).symm))
       have bg:=Q6 a2.2.1 (Ae T).2
       refine gF x 4 ?_
       rw[xD]at bg
       have be:=JB (n:=n) (E:=iW es) (2*F+1)
       rw[xD]at be
       have bq:=xY (n:=n) (E:=iW es) (k:=2*F+1)
       refine oD al 11 fun aW am=>?_
       refine iO (f:=(fun _=>F)) 4 am (fun aX I=>?_)
       refine fK I 7 ?_
       refine ar (e:=(((fJ (oB n (iW es) (2*F+1)) ((fJ es F).v))+1:Nat):Int)) rfl rfl rfl rfl iT (fK I 1 ?_)
       refine iO (f:=(fun _=>((fJ (oB n (iW es) (2*F+1)) ((fJ es F).v))+1))) 5 I (fun aY J=>?_)
       refine fQ J 7 ?_
       refine tN (?_)
       refine iz (iN J 17 ?_)
       refine tN (?_)
       have an:=yg [1,2,3,4,5] J
       have ao:=yv 4 an rfl (congrArg (fL fR o 3 1) (Q7 a2.2.1 (Ae T).2))
       have ap:=yv 3 ao rfl (congrArg (fL fR l 3 1) ((aa2 T).symm))
       exact again (F+1) ⟨rfl,rfl,rfl,rfl,rfl,rfl,gm rO,trivial⟩ (⟨ap,o_⟩) (by show (es.length-(F+1):Nat)<es.length-F;omega)
     . refine fQ a1 17 ?_
       refine gq (v:=(Zb b)) Tryz.results32 rfl ?_
       have aq:=yg [0,1,2,3] a1
       have bb:F=es.length:=by omega
       have au:=yv 3 aq rfl (congrArg (fL fR l 3 1) (congrArg (fun z=>qR n (iW es) (2*z)) bb))
       exact⟨b,(⟨v,a,l⟩:Gr),rfl,yj (yc [_,_,_,_] _ au)⟩
theorem PI(v:Value)(n:Nat)(es:List Ge)(w:World)(hv:iw 3 Ge.cells (fun _=>True) w v es)(G:n9 n es)(N:n<=4096)(hm:es.length<=16384) :
 CR ya 8 #[(Za n),v] w (fun r w' => ∃ (F:Nat) (q:Gr),r = .tuple (Zy F)/\fZ (gj []) w w' (Gr.R F n q es)):=by
 refine enter (vs:=[(Za n),v]) Tryz.func8 rfl Tryz.ntmps8 rfl ?_
 have C:=yt w
 refine fS C 10 ?_
 refine cmp (a:=(n:Int)) (b:=0) rfl rfl rfl (kV o_) (fK C 2 ?_)
 refine cmp (a:=(n:Int)) (b:=4096) rfl rfl rfl (pJ o_) (fK C 3 ?_)
 refine kX (v:=v) rfl rfl nG hv (cmp (a:=(es.length:Int)) (b:=16384) rfl rfl rfl (pJ o_) (fK C 10 ?_))
 refine kX (v:=v) rfl rfl nG hv (gF C 4 ?_)
 refine lp (α:=Nat) (fun i=>[(0,(Za n)),(1,v),(4,Zt),(5,Zc),(19,v),(20,(Za es.length)),(21,(Za i))]) (fun i w1=>St [(w,[])] [] w1/\i<=es.length) (fun i=>es.length-i) 0 ⟨rfl,rfl,rfl,rfl,rfl,rfl,gm (by first|rfl|omega),trivial⟩ (⟨C,o_⟩) ?_
 rintro i p k ⟨D,hi⟩
 refine fS D 2 ?_
 by_cases s:((i:Int):Int)<((es.length:Int):Int)
 . obtain⟨B,I⟩:=pK (show i<es.length by omega)
   have E:=G _ (zd I)
   have K:=E.1
   have L:=E.2.1
   have M:=E.2.2
   refine fK D 13 ?_
   refine iH D (fun t x y z l=>?_)
   refine gJ l 8 fun A c=>?_
   refine cmp (a:=(B.u:Int)) (b:=0) rfl rfl rfl (kV o_) (fK c 4 ?_)
   refine cmp (a:=(B.u:Int)) (b:=(n:Int)) rfl rfl rfl (oh o_) (fK c 4 ?_)
   refine cmp (a:=(B.v:Int)) (b:=0) rfl rfl rfl (kV o_) (fK c 5 ?_)
   refine cmp (a:=(B.v:Int)) (b:=(n:Int)) rfl rfl rfl (oh o_) (fK c 12 ?_)
   refine cmp (a:=(B.u:Int)) (b:=(B.v:Int)) rfl rfl rfl (uu o_) (fQ c 10 ?_)
   refine tN (?_)
   have m:=St.sub (L' := []) c (List.Sublist.cons _ (List.Sublist.refl _))
   exact again (i+1) ⟨rfl,rfl,rfl,rfl,rfl,rfl,gm (by first|rfl|omega),trivial⟩ (⟨m,o_⟩) (by show (es.length-(i+1):Nat)<es.length-i;omega)
 . refine fK D 14 ?_
   refine jI (vl:=[v]) rfl rfl XM (Vp v es k ((yw D s_ d_ hv)).any (by first|omega|(simp;omega))) ?_
   rintro f g H
   have h:St _ [fL Ge.cells f 91 3 es] g:=tQ D H.2 H.1
   refine jI (vl:=[(Za n),f]) rfl rfl O2 (PC f n es g (kP h (i:=0) rfl) G o_ o_) ?_
   rintro _ o ⟨d,e,rfl,J⟩
   have j:St _ [(Gr.R d n e es)] o:=lP (R' := (Gr.R d n e es)) 0 h rfl J rfl
   refine fQ j 5 ?_
   refine iC (v:=(Zb d)) (v' := Zc) Tryz.results8 rfl rfl ?_
   exact⟨d,e,rfl,uY (R:=(Gr.R d n e es)) j s_⟩
end
section
open Go Go.Sx
open Go.Lib Go.Sort Go.RowKit in
theorem abD(x:Int)(w:World):Calls ya 295 (Z8 x) w fun e w' => e = .returned Zp/\w' = w:=by
 go_enter Tryz.func295,Tryz.ntmps295
 go_wp2
 go_ret
 exact⟨s_,rfl⟩
open Go.Lib Go.Sort Go.RowKit in
theorem VL(x y:Int)(w:World):CR ya 282 (Zx x y) w (fun r w' => r = .int .i64 (jb x y)/\w' = w):=by
 have h:Calls ya 282 (Zx x y) w fun e w' => e = .returned (Za (jb x y))/\w' = w:=by
  go_enter Tryz.func282,Tryz.ntmps282
  go_wp2_with (go_at_call 295;refine(abD _ _).mono ?_;rintro e w' ⟨rfl,a⟩;rw[a])
  all_goals (go_ret;refine⟨?_,rfl⟩;unfold jb;(repeat' split)<;>first|rfl|(exfalso;omega))
 exact h.mono fun e w' h=>⟨_,h.1,rfl,h.2⟩
open Go.Lib Go.Sort Go.RowKit in
theorem abC(x:Int)(w:World):Calls ya 224 (Z8 x) w fun e w' => e = .returned Zp/\w' = w:=by
 go_enter Tryz.func224,Tryz.ntmps224
 go_wp2
 go_ret
 exact⟨s_,rfl⟩
open Go.Lib Go.Sort Go.RowKit in
theorem VK(x y:Int)(w:World):CR ya 283 (Zx x y) w (fun r w' => r = .int .i64 (jb x y)/\w' = w):=by
 have h:Calls ya 283 (Zx x y) w fun e w' => e = .returned (Za (jb x y))/\w' = w:=by
  go_enter Tryz.func283,Tryz.ntmps283
  go_wp2_with (go_at_call 224;refine(abC _ _).mono ?_;rintro e w' ⟨rfl,a⟩;rw[a])
  all_goals (go_ret;refine⟨?_,rfl⟩;unfold jb;(repeat' split)<;>first|rfl|(exfalso;omega))
 exact h.mono fun e w' h=>⟨_,h.1,rfl,h.2⟩
theorem ab5(v:Value)(xs:List Int)(w:World)(hv:Ints .i64 (fun _=>True) w v xs) :
 CR ya 281 #[v] w (fun r w' => r = .int .i64 (me xs)/\w' = w):=by
 have y:=hv.len
 refine en Tryz.func281 Tryz.ntmps281 ?_
 have p:=yt w
 refine fS p 14 ?_
 refine kX (v:=v) rfl rfl yd hv (gF p 4 ?_)
 refine lp (α:=Nat) (fun k=>[(3,Zc),(6,v),(7,(Za xs.length)),(8,(Za k))]) (fun k w1=>St [(w,[])] [] w1/\w1=w/\k<=xs.length/\∀ j x,j<k->xs[j]? = some x->x=0) (fun k=>xs.length-k) 0 ⟨rfl,rfl,rfl,gm rO,trivial⟩ (⟨p,rfl,o_,fun j x h=>absurd h o_⟩) ?_
 rintro k c d ⟨o,q,u,t⟩
 refine fS o 2 ?_
 by_cases e:((k:Int):Int)<((xs.length:Int):Int)
 . obtain⟨x,s⟩:=pK (show k<xs.length by omega)
   refine fK o 11 ?_
   refine Cn (i:=(k:Int)) (el:=x) rfl rfl rfl yd gr (St.EZ o s_ hv) o_ (by rw[show ((k:Nat):Int).toNat=k by omega];exact s) ?_
   intro f g a b l
   have m:=b.i64
   refine ld rfl rfl yf rfl a (fK o 7 ?_)
   by_cases n:(x:Int)=(0:Int)
   . refine fQ o 11 ?_
     refine tN (?_)
     exact again (k+1) ⟨rfl,rfl,rfl,gm rO,trivial⟩ (⟨o,q,o_,Rj t s o_⟩) (by show (xs.length-(k+1):Nat)<xs.length-k;omega)
   . refine fQ o 16 ?_
     refine gq (v:=(Za x)) Gm rfl ?_
     exact⟨gm (Rg t s o_).symm,q⟩
 . refine fQ o 17 ?_
   refine gq (v:=Zc) Gm rfl ?_
   exact⟨gm (Rh t o_).symm,q⟩
theorem ab3(es:List Ge)(lb:Nat)(ev:Value)(i j:Nat)(w:World)(hb:(blk lb 28 [ev]).holds w)(hv:iw 3 Ge.cells (fun _=>True) w ev es)(hi:i<es.length)(m:j<es.length)(hm:es.length<=16384) :
 CR ya 280 #[(Za i),(Za j),(Zb lb)] w (fun r w' => r = .int .i64 (qo (⟨i,(fJ es i).w⟩:gE) (⟨j,(fJ es j).w⟩:gE))/\Gw w w'):=by
 refine en Tryz.func280 Tryz.ntmps280 ?_
 have o:=yt w
 refine qV o 6 ?_
 refine adp (Γ:=Nat) mixed [[],[],[0,1],[0,1,2],[0,1,2,3],[],[],[5,6],[5,6,7],[5,6,7,8],[0,1,2,3,4,5,6,7,8,9],[],[],[0,1,2,3,4,5,6,7,8,9,10,11,12],[0,1,2,3,4,5,6,7,8,9,10,11,12,13],[0,1,2,3,4,5,6,7,8,9,10,11,12,13,14],[0,1,2,3,4,5,6,7,8,9,10,11,12,13,14,15]] [14] d_ [fun _=>ev,fun _=>(Za i),fun _=>(jQ 3 ev i 0),fun _=>(jQ 3 ev i 2),fun _=>(Za ((fJ es i).w)),fun _=>ev,fun _=>(Za j),fun _=>(jQ 3 ev j 0),fun _=>(jQ 3 ev j 2),fun _=>(Za ((fJ es j).w)),fun _=>(Za (jb ((fJ es i).w) ((fJ es j).w))),fun _=>(Za i),fun _=>(Za j),fun _=>(Za (jb (i:Int) (j:Int))),fun a=>(xh a),fun _=>(Za (me [jb ((fJ es i).w) ((fJ es j).w),jb (i:Int) (j:Int)])),fun _=>(Za (me [jb ((fJ es i).w) ((fJ es j).w),jb (i:Int) (j:Int)]))] [(fun a=>[],fun _ n=>Gw w n),(fun a=>[ig .i64 (xh a) 3 ([jb ((fJ es i).w) ((fJ es j).w),jb (i:Int) (j:Int)])],fun _ n=>Gw w n)] 0 (fun a=>(5,(Za (me [jb ((fJ es i).w) ((fJ es j).w),jb (i:Int) (j:Int)]))) :: (21,(Za (me [jb ((fJ es i).w) ((fJ es j).w),jb (i:Int) (j:Int)]))) :: (20,(xh a)) :: (19,(Za (jb (i:Int) (j:Int)))) :: (18,(Za j)) :: (17,(Za i)) :: (16,(Za (jb ((fJ es i).w) ((fJ es j).w)))) :: (15,(Za ((fJ es j).w))) :: (14,(jQ 3 ev j 2)) :: (13,(jQ 3 ev j 0)) :: (12,(Za j)) :: (11,ev) :: (10,(Za ((fJ es i).w))) :: (9,(jQ 3 ev i 2)) :: (8,(jQ 3 ev i 0)) :: (7,(Za i)) :: (6,ev) :: _) rfl o (Gw.drew _) ?_ (fun a=>rfl) rfl ?_
 . skip
   refine uL rfl rfl rfl rfl (fun a l f g=>qv rfl rfl (kW rfl nG rfl (kn f s_ hb rfl))) (pP (fun a _=>kI (v:=(Za i)) rfl) ?_)
   refine pP (fun a _=>xK (k:=i) (i:=(i:Int)) rfl rfl nG uS hv o_ o_ (gy hi)) ?_
   refine pP (fun a _=>EO (off:=0) (off' := 2) rfl Gk rfl ti2 rfl hv (gy hi)) ?_
   refine uL rfl rfl rfl rfl (fun a l f g=>qv rfl rfl (uE (u:=(Za ((fJ es i).w))) rfl sX rfl (yw f s_ d_ hv) (gy hi) rfl)) (uL rfl rfl rfl rfl (fun a l f g=>qv rfl rfl (kW rfl nG rfl (kn f s_ hb rfl))) (pP (fun a _=>kI (v:=(Za j)) rfl) ?_))
   refine pP (fun a _=>xK (k:=j) (i:=(j:Int)) rfl rfl nG uS hv o_ o_ (gy m)) ?_
   refine pP (fun a _=>EO (off:=0) (off' := 2) rfl Gk rfl ti2 rfl hv (gy m)) ?_
   refine uL rfl rfl rfl rfl (fun a l f g=>qv rfl rfl (uE (u:=(Za ((fJ es j).w))) rfl sX rfl (yw f s_ d_ hv) (gy m) rfl)) (uL rfl rfl rfl rfl (fun a l f g=>qc rfl rfl (oN rfl OX) (CR.mono (VL ((fJ es i).w) ((fJ es j).w) l) fun _ _ h=>⟨h.1,(by obtain rfl:=h.2;exact⟨f,g⟩)⟩)) (pP (fun a _=>kI (v:=(Za i)) rfl) ?_))
   refine pP (fun a _=>kI (v:=(Za j)) rfl) ?_
   refine uL rfl rfl rfl rfl (fun a l f g=>qc rfl rfl (oN rfl OY) (CR.mono (VK (i:Int) (j:Int) l) fun _ _ h=>⟨h.1,(by obtain rfl:=h.2;exact⟨f,g⟩)⟩)) (CN rfl rfl rfl rfl (fun a l f g=>aa9 (vs:=(Zo (jb ((fJ es i).w) ((fJ es j).w)) (jb (i:Int) (j:Int)))) (cs:=(Zo (jb ((fJ es i).w) ((fJ es j).w)) (jb (i:Int) (j:Int)))) g rfl rfl yd gr rfl (by simp[Value.cells]) rfl rfl rfl f (fun b _ h q=>⟨b,⟨h,q⟩,rfl,kC rfl sT⟩)) (uL rfl rfl rfl rfl (fun a l f g=>qc rfl rfl (oN rfl OW) (CR.mono (ab5 (xh a) [jb ((fJ es i).w) ((fJ es j).w),jb (i:Int) (j:Int)] l (wT f (i:=0) rfl (fun y p=>by simp only[zb,nI,or_false]at p;rcases p with rfl|rfl<;>exact NW _ _)).any) fun _ _ h=>⟨h.1,(by obtain rfl:=h.2;exact⟨f,g⟩)⟩)) (pP (fun a _=>vL (v:=(Za (me [jb ((fJ es i).w) ((fJ es j).w),jb (i:Int) (j:Int)]))) rfl) ?_)))
   exact J5
 rintro a e c d
 refine rS tt none c 2 ?_
 refine gq (v:=(Za (me [jb ((fJ es i).w) ((fJ es j).w),jb (i:Int) (j:Int)]))) Tryz.results280 rfl ?_
 exact⟨gm (Rl (⟨i,(fJ es i).w⟩:gE) (⟨j,(fJ es j).w⟩:gE)),d⟩
end
end Go.Proofs.YtoceanggliccgaaGreatDoor
namespace Go.Proofs
open Go.Shelf Go.Lib Go.Sort Go.RowKit in
def Tryz.aej:Go.Shelf.Ren:=⟨fun|6=>279|15=>100|14=>294|28=>166|29=>167|20=>301|21=>302|22=>303|23=>304|24=>305|25=>306|26=>307|27=>308|46=>311|47=>220|48=>221|49=>312|50=>313|57=>314|n=>n,fun|22=>35|24=>3|25=>353|3=>3|39=>202|0=>0|53=>285|55=>40|4=>4|46=>279|45=>278|50=>137|5=>5|9=>9|66=>338|70=>341|76=>378|77=>206|n=>n,fun|n=>n⟩
open Go.Shelf Go.Lib Go.Sort Go.RowKit in
theorem Tryz.aeh:Go.Proofs.SlLaysF.n6 Proofs.Tryz.prog Tryz.aej where
 mixed:=by kernel_rfl
 f6:=⟨Proofs.Tryz.f279.name,by(decide),Proofs.Tryz.func279.trans (congrArg some<|by kernel_rfl)⟩
 f14:=⟨Proofs.Tryz.f294.name,by(decide),Proofs.Tryz.func294.trans (congrArg some<|by kernel_rfl)⟩
 f15:=Proofs.Tryz.func100.trans (congrArg some<|by kernel_rfl)
 f20:=⟨Proofs.Tryz.f301.name,by(decide),Proofs.Tryz.func301.trans (congrArg some<|by kernel_rfl)⟩
 f21:=⟨Proofs.Tryz.f302.name,by(decide),Proofs.Tryz.func302.trans (congrArg some<|by kernel_rfl)⟩
 f22:=⟨Proofs.Tryz.f303.name,by(decide),Proofs.Tryz.func303.trans (congrArg some<|by kernel_rfl)⟩
 f23:=⟨Proofs.Tryz.f304.name,by(decide),Proofs.Tryz.func304.trans (congrArg some<|by kernel_rfl)⟩
 f24:=⟨Proofs.Tryz.f305.name,by(decide),Proofs.Tryz.func305.trans (congrArg some<|by kernel_rfl)⟩
 f25:=⟨Proofs.Tryz.f306.name,by(decide),Proofs.Tryz.func306.trans (congrArg some<|by kernel_rfl)⟩
 f26:=⟨Proofs.Tryz.f307.name,by(decide),Proofs.Tryz.func307.trans (congrArg some<|by kernel_rfl)⟩
 f27:=⟨Proofs.Tryz.f308.name,by(decide),Proofs.Tryz.func308.trans (congrArg some<|by kernel_rfl)⟩
 f28:=Proofs.Tryz.func166.trans (congrArg some<|by kernel_rfl)
 f29:=Proofs.Tryz.func167.trans (congrArg some<|by kernel_rfl)
 f46:=⟨Proofs.Tryz.f311.name,by(decide),Proofs.Tryz.func311.trans (congrArg some<|by kernel_rfl)⟩
 f47:=Proofs.Tryz.func220.trans (congrArg some<|by kernel_rfl)
 f48:=Proofs.Tryz.func221.trans (congrArg some<|by kernel_rfl)
 f49:=⟨Proofs.Tryz.f312.name,by(decide),Proofs.Tryz.func312.trans (congrArg some<|by kernel_rfl)⟩
 f50:=⟨Proofs.Tryz.f313.name,by(decide),Proofs.Tryz.func313.trans (congrArg some<|by kernel_rfl)⟩
 f57:=⟨Proofs.Tryz.f314.name,by(decide),Proofs.Tryz.func314.trans (congrArg some<|by kernel_rfl)⟩
 t0:=Proofs.Tryz.underlying0
 a0:=Proofs.Tryz.isAgg0
 z0:=Proofs.Tryz.sizeOf0
 v0:=Proofs.Tryz.zeroValue0
 t3:=Proofs.Tryz.underlying3
 a3:=Proofs.Tryz.isAgg3
 z3:=Proofs.Tryz.sizeOf3
 v3:=Proofs.Tryz.zeroValue3
 t4:=Proofs.Tryz.underlying4
 a4:=Proofs.Tryz.isAgg4
 z4:=Proofs.Tryz.sizeOf4
 v4:=Proofs.Tryz.zeroValue4
 t5:=Proofs.Tryz.underlying5
 a5:=Proofs.Tryz.isAgg5
 z5:=Proofs.Tryz.sizeOf5
 v5:=Proofs.Tryz.zeroValue5
 t9:=Proofs.Tryz.underlying9
 a9:=Proofs.Tryz.isAgg9
 z9:=Proofs.Tryz.sizeOf9
 v9:=Proofs.Tryz.zeroValue9
 t22:=Proofs.Tryz.underlying35
 a22:=Proofs.Tryz.isAgg35
 z22:=Proofs.Tryz.sizeOf35
 v22:=Proofs.Tryz.zeroValue35
 a24:=Proofs.Tryz.isAgg3
 z24:=Proofs.Tryz.sizeOf3
 t25:=Proofs.Tryz.underlying353
 a25:=Proofs.Tryz.isAgg353
 z25:=Proofs.Tryz.sizeOf353
 v25:=Proofs.Tryz.zeroValue353
 t39:=Proofs.Tryz.underlying202
 a39:=Proofs.Tryz.isAgg202
 z39:=Proofs.Tryz.sizeOf202
 v39:=Proofs.Tryz.zeroValue202
 t45:=Proofs.Tryz.underlying278
 a45:=Proofs.Tryz.isAgg278
 z45:=Proofs.Tryz.sizeOf278
 v45:=Proofs.Tryz.zeroValue278
 t46:=Proofs.Tryz.underlying279
 a46:=Proofs.Tryz.isAgg279
 z46:=Proofs.Tryz.sizeOf279
 v46:=Proofs.Tryz.zeroValue279
 t50:=Proofs.Tryz.underlying137
 a50:=Proofs.Tryz.isAgg137
 z50:=Proofs.Tryz.sizeOf137
 v50:=Proofs.Tryz.zeroValue137
 t53:=Proofs.Tryz.underlying285
 a53:=Proofs.Tryz.isAgg285
 z53:=Proofs.Tryz.sizeOf285
 v53:=Proofs.Tryz.zeroValue285
 t55:=Proofs.Tryz.underlying40
 a55:=Proofs.Tryz.isAgg40
 z55:=Proofs.Tryz.sizeOf40
 v55:=Proofs.Tryz.zeroValue40
 t66:=Proofs.Tryz.underlying338
 a66:=Proofs.Tryz.isAgg338
 z66:=Proofs.Tryz.sizeOf338
 v66:=Proofs.Tryz.zeroValue338
 t70:=Proofs.Tryz.underlying341
 a70:=Proofs.Tryz.isAgg341
 z70:=Proofs.Tryz.sizeOf341
 v70:=Proofs.Tryz.zeroValue341
 t76:=Proofs.Tryz.underlying378
 a76:=Proofs.Tryz.isAgg378
 z76:=Proofs.Tryz.sizeOf378
 v76:=Proofs.Tryz.zeroValue378
 t77:=Proofs.Tryz.underlying206
 a77:=Proofs.Tryz.isAgg206
 z77:=Proofs.Tryz.sizeOf206
 v77:=Proofs.Tryz.zeroValue206
end Go.Proofs
namespace Go.Proofs.YtoceanggliccgaaGreatDoor
section
open Go Go.Sx Go.Lib Go.Sort Go.RowKit
theorem aeI(es:List Ge)(n:Nat):SWO (ltOf fun x y:Fin n=>qo ⟨x.val,(fJ es x.val).w⟩ ⟨y.val,(fJ es y.val).w⟩) where
 irrefl x:=by unfold ltOf;rw[decide_eq_false_iff_not,nN];exact CD _
 trans x y z h1 h2:=by unfold ltOf at *;rw[decide_eq_true_iff,nN]at *;exact JC h1 h2
 ntrans x y z h1 h2:=by unfold ltOf at *;rw[decide_eq_false_iff_not,nN]at *;exact Fv h1 h2
theorem ael(es:List Ge)(lb:Nat)(ev v:Value)(w:World)(s:Own (oJ v (List.range es.length)) w)(hb:(blk lb 28 [ev]).holds w)(C:lb<w.heap.size)(n:lb∉(oJ v (List.range es.length)).gG)(hv:iw 3 Ge.cells (fun b=>b∉(oJ v (List.range es.length)).gG) w ev es)(D:0<es.length)(hm:es.length<=16384) :
 CR ya 279 #[v,.func (.func 280) #[] (Zi lb)] w (fun r w' => ∃ o:List Nat,r = .tuple #[]/\sH es o/\fZ (oJ v (List.range es.length)) w w' (oJ v o)):=by
 refine CR.mono (aeo (P:=ya) D (fun i j=>decide (qo ⟨i,(fJ es i).w⟩ ⟨j,(fJ es j).w⟩<0)) s o_ fun K f p d A q u G=>?_) ?_
 . rw[A]at n hv
   refine Any.slices_SortFunc (P:=ya) Tryz.aeh qO f_ (fun x y=>qo ⟨x.val,(fJ es x.val).w⟩ ⟨y.val,(fJ es y.val).w⟩) (aeI es es.length) 280 (Zi lb) f 0 p d w (enters_of Tryz.func280 k_ rfl) (fun k os m hs x y=>?_) q u G
   have t:=(blk lb 28 [ev]).loc _ (sortWorld qO w f 0 k m os) (fun b h=>by simp[blk]at h;subst h;exact SH C (by simpa using n)) hb
   have I:=hv.to (w' := sortWorld qO w f 0 k m os) d_ fun b c g=>SH g (by simpa using c)
   exact Calls.mono (ab3 es lb ev x.val y.val _ t I.any x.2 y.2 hm) fun e w' ⟨r,z,F,B⟩=>⟨by rw[z,F],B⟩
 . rintro r w' ⟨rfl,ys,c,g,H⟩
   have E:ys.Nodup:=(c.nodup_iff).2 tW
   refine⟨ys,rfl,⟨c,(g.and E).imp fun {a b} h=>?_⟩,H⟩
   have l:=of_decide_eq_false h.1
   rw[nN]at l
   have J:=h.2
   unfold iD at l
   unfold qP
   dsimp only at l
   omega
theorem Z2(v fv:Value)(n:Nat)(w:World)(b:n=0) :
 CR ya 301 #[v,Zc,(Za n),fv] w (fun r w' => r = .tuple #[]/\gx [] w w'):=by
 refine en Tryz.func301 Tryz.ntmps301 ?_
 have a:=yt w
 refine qV a 8 ?_
 refine ri 1 (iz (fS a 5 ?_))
 refine cmp rfl rfl rfl (kV o_) (fQ a 7 ?_)
 refine iQ Tryz.results301 ?_
 exact⟨rfl,a.gz s_⟩
theorem acf(v fv:Value)(n:Nat)(z:Int)(w:World)(e:n=0) :
 CR ya 294 #[v,Zc,(Za n),(Za z),fv] w (fun r w' => r = .tuple #[]/\gx [] w w'):=by
 refine en Tryz.func294 Tryz.ntmps294 ?_
 have d:=yt w
 refine qV d 11 ?_
 refine ri 1 (iz (fS d 13 ?_))
 refine cmp rfl rfl rfl (vN o_) (fK d 9 ?_)
 refine cl XL (Z2 v fv n w e) ?_
 rintro _ c ⟨rfl,b⟩
 have a:=yq d b
 refine fQ a 7 ?_
 refine yC Tryz.results294 ?_
 exact⟨rfl,a.gz s_⟩
theorem aeg(v fv:Value)(xs:List Int)(w:World)(hv:Ints .i64 (fun _=>True) w v xs)(i:xs.length=0) :
 CR ya 279 #[v,fv] w (fun r w' => r = .tuple #[]/\gx [] w w'):=by
 refine en Tryz.func279 Tryz.ntmps279 ?_
 have h:=yt w
 refine fS h 3 ?_
 refine kX (v:=v) rfl rfl yd hv (fK h 8 ?_)
 refine cl Ir (HN xs.length w o_) ?_
 rintro _ c ⟨d,rfl,e⟩
 have a:=yq h e
 refine fK a 1 ?_
 refine cl XH (acf v fv xs.length d c i) ?_
 rintro _ g ⟨rfl,f⟩
 have b:=yq a f
 refine fQ b 1 ?_
 refine iQ Tryz.results279 ?_
 exact⟨rfl,b.gz s_⟩
theorem aek(es:List Ge)(lb:Nat)(ev v:Value)(w:World)(d:Own (oJ v (List.range es.length)) w)(hb:(blk lb 28 [ev]).holds w)(l:lb<w.heap.size)(k:lb∉(oJ v (List.range es.length)).gG)(hv:iw 3 Ge.cells (fun b=>b∉(oJ v (List.range es.length)).gG) w ev es)(hm:es.length<=16384) :
 CR ya 279 #[v,.func (.func 280) #[] (Zi lb)] w (fun r w' => ∃ o:List Nat,r = .tuple #[]/\sH es o/\fZ (oJ v (List.range es.length)) w w' (oJ v o)):=by
 rcases yY es.length with c|c
 . obtain rfl:=GI.1 c
   have f:=uZ (yp d) (i:=0) rfl f_
   obtain⟨a,e,rfl,g,j,n⟩:=f
   refine CR.mono (aeg _ _ [] w ⟨a,e,rfl,g,j,fun i y m=>by simp at m⟩ rfl) fun r w' h=>⟨[],h.1,⟨List.Perm.refl _,List.Pairwise.nil⟩,yo ((yp d).grow h.2) za⟩
 . exact ael es lb ev v w d hb l k hv c hm
theorem ab4(v:Value)(es:List Ge)(w:World)(hv:iw 3 Ge.cells (fun _=>True) w v es)(hm:es.length<=16384) :
 CR ya 247 #[v] w (fun r w' => ∃ (K:Value) (o:List Nat),K=r/\sH es o/\fZ (gj []) w w' (oJ K o)):=by
 refine en Tryz.func247 Tryz.ntmps247 ?_
 have J:=yt w
 refine fS J 2 ?_
 refine ij J (fun d z A B g=>?_) (hcs:=(cells_one (Sl.Re hv)))
 refine fK g 6 ?_
 refine kX (v:=v) rfl rfl nG hv (qU (cf:=fR) (z0:=0) (m:=es.length) (c:=es.length) rfl rfl rfl yd gr rfl f_ d_ (zk _) o_ o_ g ?_)
 intro h n C D p
 have e:St _ [fL fR (.slice (some ⟨h,0,none⟩) es.length es.length) 3 1 (List.replicate es.length 0),blk d 28 [v]] n:=lU (cf:=fR) p (i:=0) rfl f_ (zk _) (by simp only[maxLen];omega)
 generalize (Value.slice (some ⟨h,0,none⟩) es.length es.length)=a at e ⊢
 refine fK e 7 ?_
 refine iL (m:=(List.replicate es.length 0).length) 0 rfl rfl yd e rfl ?_
 have O:(List.replicate es.length 0).length=es.length:=sY
 have q:=yv 0 e rfl (congrArg (fL fR a 3 1) (adn))
 refine gF e 4 ?_
 refine lp (α:=Nat) (fun k=>[(1,(Zb d)),(2,Zg),(3,a),(9,(Za ((List.replicate es.length 0).length:Int))),(10,(Za k))]) (fun k w1=>St [(w,[])] [fL fR a 3 1 (rU es.length k),blk d 28 [v]] w1/\k<=es.length) (fun k=>es.length-k) 0 ⟨rfl,rfl,rfl,rfl,gm rO,trivial⟩ (⟨q,o_⟩) ?_
 rintro k E s ⟨F,L⟩
 have P:=adl L
 refine fS F 2 ?_
 by_cases G:((k:Int):Int)<(((List.replicate es.length 0).length:Int):Int)
 . refine fK F 20 ?_
   refine iO (f:=(fun _=>k)) 0 F (fun H j=>?_)
   refine fQ j 7 ?_
   refine tN (?_)
   have t:=yv 0 j rfl (congrArg (fL fR a 3 1) (adm o_))
   exact again (k+1) ⟨rfl,rfl,rfl,rfl,gm rO,trivial⟩ (⟨t,o_⟩) (by show (es.length-(k+1):Nat)<es.length-k;omega)
 . refine fK F 13 ?_
   refine mD (vf:=[]) (vc:=(Zh d)) rfl rfl rfl ?_
   have M:k=es.length:=by omega
   have b:=yv 0 F rfl (congrArg (fL fR a 3 1) ((congrArg (rU es.length) M).trans adk))
   refine cl XD (aek es d v a s (ye b 0 rfl) (St.at b (i:=1) rfl) b.ZT b.abQ (b.ac5 s_ d_ hv) hm) ?_
   rintro _ I ⟨u,rfl,x,N⟩
   have l:=ym 0 b N
   refine fQ l 9 ?_
   refine gq (v:=a) Tryz.results247 rfl ?_
   have y:=yg [0] l
   exact⟨a,u,rfl,x,nV y⟩
theorem PA(v:Value)(n:Nat)(es:List Ge)(w:World)(hv:iw 3 Ge.cells (fun _=>True) w v es)(hg:n9 n es)(hn:n<=4096)(hm:es.length<=16384) :
 CR ya 199 #[(Za n),v] w (fun r w' => ∃ (fv:Value) (f:List Nat),r = .tuple #[fv,.int .i64 0]/\nZ es n f/\fZ (gj []) w w' (oJ fv f)):=by
 refine enter (vs:=[(Za n),v]) Tryz.func199 rfl Tryz.ntmps199 rfl ?_
 have aj:=yt w
 refine fS aj 11 ?_
 refine jI (vl:=[(Za n),v]) rfl rfl Pc (PI v n es w hv hg o_ hm) ?_
 rintro _ B ⟨g,h,rfl,F⟩
 have C:St _ [(Gr.R g n h es)] B:=(jJ (R:=(Gr.R g n h es)) aj F)
 refine fK C 19 ?_
 refine jI (vl:=(Ze n)) rfl rfl O9 (N8 n B o_) ?_
 rintro _ D ⟨a,j,rfl,N,F⟩
 have t:St _ [(Ds.R a n j),(Gr.R g n h es)] D:=(jJ (R:=(Ds.R a n j)) C F)
 refine fK t 26 ?_
 refine jI (vl:=[v]) rfl rfl Xq (ab4 v es D (yw t s_ d_ hv).any hm) ?_
 rintro _ E ⟨b,d,rfl,p,F⟩
 have x:St _ [fL fR b 3 1 d,(Ds.R a n j),(Gr.R g n h es)] E:=(jJ (R:=fL fR b 3 1 d) t F)
 refine iL (m:=d.length) 0 rfl rfl yd x rfl ?_
 have am:=p.len
 have O:St _ [ig .i64 Zg 3 (gw []),fL fR b 3 1 d,(Ds.R a n j),(Gr.R g n h es)] E:=oU x 3 1
 have G:=yg [2,1,0] O
 obtain⟨o,ai⟩:∃ o,o=d:=⟨_,rfl⟩
 refine gF x 4 ?_
 rw[<-ai]at G p am
 have aq:d.length=o.length:=by rw[ai]
 refine lp (α:=Nat×Ds×Value) (fun(k,s,fv)=>[(0,(Za n)),(1,v),(4,Zg),(5,Zc),(8,(Zb a)),(10,fv),(33,b),(34,(Za d.length)),(35,(Za k))]) (fun(k,s,fv) w1=>St [(w,[])] (D4 a n s b o fv (gw (jo es n (o.take k)))) w1/\k<=o.length/\s.lb=gQ es n (jo es n (o.take k))) (fun(k,s,fv)=>o.length-k) (0,j,Zg) ⟨rfl,rfl,rfl,rfl,rfl,rfl,rfl,rfl,gm (by first|rfl|omega),trivial⟩ (⟨G,o_,N⟩) ?_
 rintro⟨k,s,fv⟩ Y P ⟨ae,hk,ad⟩
 have an:(jo es n (o.take k)).length<=k:=by have h7:=(Ck (es:=es) (n:=n) (o.take k)).length_le;rw[zx]at h7;omega
 refine fS ae 2 ?_
 by_cases Z:((k:Int):Int)<((d.length:Int):Int)
 . have af:=p
   have T:k<o.length:=by omega
   have al:fJ o k<es.length:=af.lt (zd (gy T))
   have ah:=hg.at al
   have ao:=ah.1
   have ap:=ah.2.1
   refine gJ ae 29 fun Q H=>?_
   refine jI (vl:=(zQ a ((fJ es (fJ o k)).u:Int) ((fJ es (fJ o k)).v:Int))) rfl rfl Pa (Ob a n s Q (kP H (i:=0) rfl) o_ ((fJ es (fJ o k)).u) ((fJ es (fJ o k)).v) o_ o_) ?_
   rintro _ I ⟨c,rfl,J,F⟩
   have l:St _ (D4 a n c b o fv (gw (jo es n (o.take k)))) I:=lP (R' := (Ds.R a n c)) 0 H rfl F rfl
   refine gF l 12 ?_
   cases K:(decide (fJ s.lb (fJ es (fJ o k)).u≠fJ s.lb (fJ es (fJ o k)).v):Bool)
   . skip
     refine iN l 8 ?_
     refine tN (?_)
     have ag:=J
     have S:St _ (D4 a n c b o fv (gw (jo es n (o.take (k+1))))) I:=yv 2 l rfl (congrArg (ig .i64 fv 3) (by rw[ET T,if_neg (by unfold mz;rw[<-ad];exact of_decide_eq_false K)]))
     exact again ((k+1),c,fv) ⟨rfl,rfl,rfl,rfl,rfl,rfl,rfl,rfl,gm (by first|rfl|omega),trivial⟩ (⟨S,o_,ag.trans (by rw[ET T,Ju,ad])⟩) (by show (o.length-(k+1):Nat)<o.length-k;omega)
   . skip
     refine fS l 4 ?_
     refine jL (vs:=(Ze (((fJ o k):Nat):Int))) (cs:=(Ze (((fJ o k):Nat):Int))) rfl rfl yd gr rfl (by simp[Value.cells]) rfl rfl rfl l ?_
     intro y U aa ab q
     have q:St _ (Ho y ([(((fJ o k):Nat):Int)]) a n c b o fv (gw (jo es n (o.take k)))) U:=q
     refine vI (k:=.i64) (ys:=gw (jo es n (o.take k))) (zs:=[(((fJ o k):Nat):Int)]) (LL:=fun e=>(Ho y ([(((fJ o k):Nat):Int)]) a n c b o e ((gw (jo es n (o.take k)))++([(((fJ o k):Nat):Int)])))) 3 rfl rfl rfl yd gr rfl q rfl (kO q (i:=0) rfl) (by simp only[gw,zo,ze,zh,zq,maxLen];omega) (by simp only[gw,zo,ze,zh,zq,maxLen];omega) f_ ?_
     intro e L A ac
     have A:St _ (Ho y ([(((fJ o k):Nat):Int)]) a n c b o e ((gw (jo es n (o.take k)))++([(((fJ o k):Nat):Int)]))) L:=A
     have M:=yg [1,2,3] A
     refine fQ M 8 ?_
     refine tN (?_)
     have ag:=J
     have V:St _ (D4 a n c b o e (gw (jo es n (o.take (k+1))))) L:=yv 2 M rfl (congrArg (ig .i64 e 3) (by rw[ET T,if_pos (by unfold mz;rw[<-ad];exact of_decide_eq_true K),CG]))
     exact again ((k+1),c,e) ⟨rfl,rfl,rfl,rfl,rfl,rfl,rfl,rfl,gm (by first|rfl|omega),trivial⟩ (⟨V,o_,ag.trans (by rw[ET T,Ju,ad])⟩) (by show (o.length-(k+1):Nat)<o.length-k;omega)
 . have af:=p
   refine fQ ae 18 ?_
   refine iC (v:=fv) (v' := Zc) Tryz.results199 rfl rfl ?_
   have ak:k=o.length:=by omega
   have W:=yg [2] ae
   have X:St _ [fL fR fv 3 1 (jo es n o)] P:=yv 0 W rfl (((congrArg (fun z=>ig .i64 fv 3 (gw (jo es n z))) (by rw[ak,qz])).trans (CX f_ _).symm))
   exact⟨fv,jo es n o,rfl,⟨o,af,rfl⟩,nV X⟩
end
section
open Go Go.Sx
theorem agV(uv:Value)(n:Nat)(lb:List Nat)(p:List iV)(w:World)(t:Own (BP uv p) w)(u:Un n lb p)(B:n<=1000000)(a0:Nat)(y:a0<n) :
 CR ya 200 #[uv,(Za a0)] w (fun r w' => ∃ xs:List iV,r = .int .i64 ((fJ lb a0:Nat):Int)/\(Un n lb xs/\∀ j,(fJ xs j).b=(fJ p j).b)/\fZ (BP uv p) w w' (BP uv xs)):=by
 refine en Tryz.func200 Tryz.ntmps200 ?_
 have s:=yp t
 refine qV s 7 ?_
 refine lp (α:=Nat×List iV) (fun(i,xs)=>[(0,uv),(1,(Za i)),(4,Zc)]) (fun(i,xs) w1=>St [(w,(BP uv p).gG)] [fL iV.cells uv 143 2 xs] w1/\uf n lb p a0 xs i) (fun(i,xs)=>i) (a0,p) ⟨rfl,gm rO,rfl,trivial⟩ (⟨s,uf.start u y⟩) ?_
 rintro⟨i,xs⟩ e g ⟨q,o⟩
 have D:=o.un.len
 have A:=o.lt
 have C:=o.un.le i A
 refine fS q 6 ?_
 refine uC (cf:=iV.cells) (k:=i) (off:=0) (off' := 0) (i:=0) rfl rfl rfl yn gr d_ rfl (y8 q 0 rfl) (gy om) (fK q 2 ?_)
 by_cases h:(((fJ xs i).a:Int):Int)=((i:Int):Int)
 . refine fQ q 16 ?_
   refine gq (v:=(Za i)) Tryz.results200 rfl ?_
   have z:=o.fin o_
   exact⟨xs,by rw[<-z],⟨o.un,o.nd⟩,yj q⟩
 . refine gJ q 15 fun l c=>?_
   refine uC (cf:=iV.cells) (k:=i) (off:=0) (off' := 0) (i:=0) rfl rfl rfl yn gr d_ rfl (y8 c 0 rfl) (gy om) (fK c 2 ?_)
   refine uC (cf:=iV.cells) (k:=((fJ xs i).a)) (off:=0) (off' := 0) (i:=0) rfl rfl rfl yn gr d_ rfl (y8 c 0 rfl) (gy om) (fK c 2 ?_)
   refine uC (cf:=iV.cells) (k:=i) (off:=0) (off' := 0) (i:=0) rfl rfl rfl yn gr d_ rfl (y8 c 0 rfl) (gy om) (iO (f:=(fun x:iV=>{ x with a:=((fJ xs ((fJ xs i).a)).a) })) 0 c (fun m d=>?_))
   refine fK d 6 ?_
   refine uC (cf:=iV.cells) (k:=i) (off:=0) (off' := 0) (i:=0) rfl rfl rfl yn gr d_ rfl (y8 d 0 rfl) (gy om) (fQ d 4 ?_)
   refine tN (?_)
   exact again (((fJ (fN xs i (fun x=>{ x with a:=((fJ xs ((fJ xs i).a)).a) })) i).a),fN xs i (fun x=>{ x with a:=((fJ xs ((fJ xs i).a)).a) })) ⟨rfl,gm rO,rfl,trivial⟩ (⟨d,(o.half (us2:=fN xs i (fun x=>{ x with a:=((fJ xs ((fJ xs i).a)).a) })) o_ rfl).1⟩) (o.half (us2:=fN xs i (fun x=>{ x with a:=((fJ xs ((fJ xs i).a)).a) })) o_ rfl).2
def Un.R(uv:Value)(n:Nat)(lb d:List Nat)(a:List iV):fU:=j7 (Un n lb a/\∀ j,j<n->(fJ a j).b=fJ d j) (BP uv a)
theorem agU(uv:Value)(n:Nat)(lb d:List Nat)(b:List iV)(w:World)(a:Own (Un.R uv n lb d b) w)(h:n<=1000000)(a0:Nat)(f:a0<n) :
 CR ya 200 #[uv,.int .i64 (a0:Int)] w (fun r w' => ∃ xs:List iV,r = .int .i64 ((fJ lb a0:Nat):Int)/\fZ (Un.R uv n lb d b) w w' (Un.R uv n lb d xs)) :=
 CR.mono (agV uv n lb b w a.un a.fact.1 h a0 f) fun r w' ⟨xs,e,c,i⟩=>⟨xs,e,i.pW ⟨c.1,fun j g=>(c.2 j).trans (a.fact.2 j g)⟩⟩
theorem TA(uv:Value)(n:Nat)(lb d:List Nat)(a:List iV)(w:World)(b:Own (Un.R uv n lb d a) w)(e:n<=1000000)(a0:Nat)(c:a0<n){x:Nat}(f:fJ lb a0=x) :
 CR ya 200 #[uv,.int .i64 (a0:Int)] w (fun r w' => ∃ xs:List iV,r = .int .i64 (x:Int)/\fZ (Un.R uv n lb d a) w w' (Un.R uv n lb d xs)):=by
 subst f
 exact agU uv n lb d a w b e a0 c
abbrev RO:List (List Nat):=[[],[],[1],[],[3],[],[5],[],[7],[],[9],[0,1,2,3,4,5,6,7,8,9,10],[],[0,1,2,3,4,5,6,7,8,9,10,11,12]]
theorem Kj(v:Value)(n:Nat)(es:List Ge)(w:World)(hv:iw 3 Ge.cells (fun _=>True) w v es)(hg:n9 n es)(hn:n<=4096)(hm:es.length<=16384) :
 CR ya 132 #[(Za n),v] w (fun r w' => ∃ (f:List Nat) (lv rv pv cb sv:Value),r = .tuple #[.agg #[.int .i64 (n:Int),lv,rv,pv,cb,sv],.int .i64 0]/\nZ es n f/\fZ (gj []) w w' (BN lv (fT es n f) rv pv cb sv)):=by
 refine en Tryz.func132 Tryz.ntmps132 ?_
 have ca:=yt w
 refine fS ca 2 ?_
 refine iH ca (fun E aC bo bp Z=>?_)
 refine fK Z 7 ?_
 refine cl OC (PA v n es aC (yw Z s_ d_ hv).any hg hn hm) ?_
 rintro _ bq ⟨fv,f,rfl,aD,ht⟩
 have Y:=(jJ Z ht)
 have bY:=aD
 have cr:=bY.len
 refine fK Y 21 ?_
 refine iL (m:=f.length) 0 rfl rfl yd Y rfl (ar (e:=((n+f.length:Nat):Int)) rfl rfl rfl rfl iT (gF Y 4 ?_))
 have K:AF RO [2,4,6,8,10,12,13] [(12,fun z=>blk z 83 uk),(10,fun A=>blk A 3 ((List.replicate (n+f.length) 0).flatMap fR)),(8,fun D=>blk D 2 ((List.replicate (n+f.length) 0).flatMap fV)),(6,fun G=>blk G 3 ((List.replicate (n+f.length) 0).flatMap fV)),(4,fun H=>blk H 3 ((List.replicate (n+f.length) 0).flatMap fV)),(2,fun J=>blk J 3 ((List.replicate (n+f.length) 0).flatMap fV))] 13:=JP (is:=[12,10,8,6,4,2]) rfl d_
 refine Kr mixed RO [2,4,6,8,10,12,13] [(12,fun z=>blk z 83 uk),(10,fun A=>blk A 3 ((List.replicate (n+f.length) 0).flatMap fR)),(8,fun D=>blk D 2 ((List.replicate (n+f.length) 0).flatMap fV)),(6,fun G=>blk G 3 ((List.replicate (n+f.length) 0).flatMap fV)),(4,fun H=>blk H 3 ((List.replicate (n+f.length) 0).flatMap fV)),(2,fun J=>blk J 3 ((List.replicate (n+f.length) 0).flatMap fV))] 13 k_ rfl [fun g=>(Za n),fun g=>(Za ((n+f.length:Nat):Int)),fun g=>(Zd (g 2) (n+f.length)),fun g=>(Za ((n+f.length:Nat):Int)),fun g=>(Zd (g 4) (n+f.length)),fun g=>(Za ((n+f.length:Nat):Int)),fun g=>(Zd (g 6) (n+f.length)),fun g=>(Za ((n+f.length:Nat):Int)),fun g=>(Zd (g 8) (n+f.length)),fun g=>(Za ((n+f.length:Nat):Int)),fun g=>(Zd (g 10) (n+f.length)),fun g=>(MZ n (g 2) (n+f.length) (g 4) (g 6) (g 8) (g 10)),fun g=>(Zb (g 12)),fun g=>undef] (fun g=>(MF (g 12) n (g 2) (n+f.length) (g 4) (g 6) (g 8) (g 10) ((List.replicate (n+f.length) 0).flatMap fR) ((List.replicate (n+f.length) 0).flatMap fV) fv f E)) (fun g=>(9,(Zb (g 12))) :: (45,(MZ n (g 2) (n+f.length) (g 4) (g 6) (g 8) (g 10))) :: (44,(Zd (g 10) (n+f.length))) :: (43,(Za ((n+f.length:Nat):Int))) :: (42,(Zd (g 8) (n+f.length))) :: (41,(Za ((n+f.length:Nat):Int))) :: (40,(Zd (g 6) (n+f.length))) :: (39,(Za ((n+f.length:Nat):Int))) :: (38,(Zd (g 4) (n+f.length))) :: (37,(Za ((n+f.length:Nat):Int))) :: (36,(Zd (g 2) (n+f.length))) :: (35,(Za ((n+f.length:Nat):Int))) :: (34,(Za n)) :: _) Y ?_ f_ ?_
 . skip
   refine mF rfl (fun g _ _=>qv rfl rfl (kI (v:=(Za n)) rfl)) (mF rfl (fun g _ _=>qv rfl rfl (kI (v:=(Za ((n+f.length:Nat):Int))) rfl)) (sQ K (R:=fun J=>blk J 3 ((List.replicate (n+f.length) 0).flatMap fV)) (val:=fun J=>(Zd J (n+f.length))) s_ (fun _ _=>rfl) (fun g wq L hM N kM=>rN (cf:=fV) (z0:=0) (m:=(n+f.length)) (c:=(n+f.length)) rfl rfl rfl yd gr rfl f_ d_ (zk _) o_ o_ hM (fun cc _ h=>kM cc _ h)) (fun _ _=>kC rfl sT) (mF rfl (fun g _ _=>qv rfl rfl (kI (v:=(Za ((n+f.length:Nat):Int))) rfl)) (sQ K (R:=fun H=>blk H 3 ((List.replicate (n+f.length) 0).flatMap fV)) (val:=fun H=>(Zd H (n+f.length))) s_ (fun _ _=>rfl) (fun g wq L hM N kM=>rN (cf:=fV) (z0:=0) (m:=(n+f.length)) (c:=(n+f.length)) rfl rfl rfl yd gr rfl f_ d_ (zk _) o_ o_ hM (fun cd _ h=>kM cd _ h)) (fun _ _=>kC rfl sT) (mF rfl (fun g _ _=>qv rfl rfl (kI (v:=(Za ((n+f.length:Nat):Int))) rfl)) (sQ K (R:=fun G=>blk G 3 ((List.replicate (n+f.length) 0).flatMap fV)) (val:=fun G=>(Zd G (n+f.length))) s_ (fun _ _=>rfl) (fun g wq L hM N kM=>rN (cf:=fV) (z0:=0) (m:=(n+f.length)) (c:=(n+f.length)) rfl rfl rfl yd gr rfl f_ d_ (zk _) o_ o_ hM (fun ce _ h=>kM ce _ h)) (fun _ _=>kC rfl sT) (mF rfl (fun g _ _=>qv rfl rfl (kI (v:=(Za ((n+f.length:Nat):Int))) rfl)) ?_)))))))
   refine sQ K (R:=fun D=>blk D 2 ((List.replicate (n+f.length) 0).flatMap fV)) (val:=fun D=>(Zd D (n+f.length))) s_ (fun _ _=>rfl) (fun g wq L hM N kM=>rN (cf:=fV) (z0:=0) (m:=(n+f.length)) (c:=(n+f.length)) rfl rfl rfl nH ti2 rfl f_ d_ (zk _) o_ o_ hM (fun cg _ h=>kM cg _ h)) (fun _ _=>kC rfl sT) (mF rfl (fun g _ _=>qv rfl rfl (kI (v:=(Za ((n+f.length:Nat):Int))) rfl)) (sQ K (R:=fun A=>blk A 3 ((List.replicate (n+f.length) 0).flatMap fR)) (val:=fun A=>(Zd A (n+f.length))) s_ (fun _ _=>rfl) (fun g wq L hM N kM=>rN (cf:=fR) (z0:=0) (m:=(n+f.length)) (c:=(n+f.length)) rfl rfl rfl yd gr rfl f_ d_ (zk _) o_ o_ hM (fun ch _ h=>kM ch _ h)) (fun _ _=>kC rfl sT) (mF rfl (fun g _ _=>qv rfl rfl (BZ (pvs:=[(0,(Za n)),(1,(Zd (g 2) (n+f.length))),(2,(Zd (g 4) (n+f.length))),(3,(Zd (g 6) (n+f.length))),(4,(Zd (g 8) (n+f.length))),(5,(Zd (g 10) (n+f.length)))]) (v:=.agg (M5 n (g 2) (n+f.length) (g 4) (g 6) (g 8) (g 10))) rfl (jq [(0,(Ze n)),(1,(p7 (g 2) (n+f.length))),(2,(p7 (g 4) (n+f.length))),(3,(p7 (g 6) (n+f.length))),(4,(p7 (g 8) (n+f.length))),(5,(p7 (g 10) (n+f.length)))] wO acB rfl ⟨rfl,rfl,rfl,rfl,rfl,rfl,rfl,rfl,rfl,rfl,rfl,rfl,trivial⟩ rfl))) (sQ K (R:=fun z=>blk z 83 uk) (val:=fun z=>(Zb z)) s_ (fun _ _=>rfl) (fun g wq L hM N kM=>Fg (cs:=uk) rfl wO rfl hM (fun ci _ h=>kM ci _ h)) (fun _ _=>kC rfl sT) (J3 K (val:=fun b9=>undef) (fun _ _=>rfl) (fun g wq hM N kM=>JF (L' := (MF (g 12) n (g 2) (n+f.length) (g 4) (g 6) (g 8) (g 10) ((List.replicate (n+f.length) 0).flatMap fR) ((List.replicate (n+f.length) 0).flatMap fV) fv f E)) 0 rfl rfl rfl rfl wO rfl rfl hM rfl rfl rfl rfl (fun _ h=>kM 0 _ h)) (fun _ _=>kC rfl sT) ?_)))))
   exact J4
 intro P Q M
 generalize P 2=J at M ⊢
 generalize P 4=H at M ⊢
 generalize P 6=G at M ⊢
 generalize P 8=D at M ⊢
 generalize P 10=A at M ⊢
 generalize P 12=z at M ⊢
 have al:St _ [blk z 83 [(.int .i64 n),(.slice (some ⟨J,0,none⟩) (n+f.length) (n+f.length)),(.slice (some ⟨H,0,none⟩) (n+f.length) (n+f.length)),(.slice (some ⟨G,0,none⟩) (n+f.length) (n+f.length)),(.slice (some ⟨D,0,none⟩) (n+f.length) (n+f.length)),(.slice (some ⟨A,0,none⟩) (n+f.length) (n+f.length))],blk A 3 ((List.replicate (n+f.length) 0).flatMap fR),blk D 2 ((List.replicate (n+f.length) 0).flatMap fV),blk G 3 ((List.replicate (n+f.length) 0).flatMap fV),blk H 3 ((List.replicate (n+f.length) 0).flatMap fV),fL fV (.slice (some ⟨J,0,none⟩) (n+f.length) (n+f.length)) 3 1 (List.replicate (n+f.length) 0),fL fR fv 3 1 f,blk E 83 [(.int .i64 0),(.slice none 0 0),(.slice none 0 0),(.slice none 0 0),(.slice none 0 0),(.slice none 0 0)]] Q:=lU (cf:=fV) M (i:=5) rfl f_ (zk _) (by simp only[maxLen];omega)
 generalize (Value.slice (some ⟨J,0,none⟩) (n+f.length) (n+f.length))=j at al ⊢
 have am:St _ [blk z 83 [(.int .i64 n),j,(.slice (some ⟨H,0,none⟩) (n+f.length) (n+f.length)),(.slice (some ⟨G,0,none⟩) (n+f.length) (n+f.length)),(.slice (some ⟨D,0,none⟩) (n+f.length) (n+f.length)),(.slice (some ⟨A,0,none⟩) (n+f.length) (n+f.length))],blk A 3 ((List.replicate (n+f.length) 0).flatMap fR),blk D 2 ((List.replicate (n+f.length) 0).flatMap fV),blk G 3 ((List.replicate (n+f.length) 0).flatMap fV),fL fV (.slice (some ⟨H,0,none⟩) (n+f.length) (n+f.length)) 3 1 (List.replicate (n+f.length) 0),fL fV j 3 1 (List.replicate (n+f.length) 0),fL fR fv 3 1 f,blk E 83 [(.int .i64 0),(.slice none 0 0),(.slice none 0 0),(.slice none 0 0),(.slice none 0 0),(.slice none 0 0)]] Q:=lU (cf:=fV) al (i:=4) rfl f_ (zk _) (by simp only[maxLen];omega)
 generalize (Value.slice (some ⟨H,0,none⟩) (n+f.length) (n+f.length))=q at am ⊢
 have an:St _ [blk z 83 [(.int .i64 n),j,q,(.slice (some ⟨G,0,none⟩) (n+f.length) (n+f.length)),(.slice (some ⟨D,0,none⟩) (n+f.length) (n+f.length)),(.slice (some ⟨A,0,none⟩) (n+f.length) (n+f.length))],blk A 3 ((List.replicate (n+f.length) 0).flatMap fR),blk D 2 ((List.replicate (n+f.length) 0).flatMap fV),fL fV (.slice (some ⟨G,0,none⟩) (n+f.length) (n+f.length)) 3 1 (List.replicate (n+f.length) 0),fL fV q 3 1 (List.replicate (n+f.length) 0),fL fV j 3 1 (List.replicate (n+f.length) 0),fL fR fv 3 1 f,blk E 83 [(.int .i64 0),(.slice none 0 0),(.slice none 0 0),(.slice none 0 0),(.slice none 0 0),(.slice none 0 0)]] Q:=lU (cf:=fV) am (i:=3) rfl f_ (zk _) (by simp only[maxLen];omega)
 generalize (Value.slice (some ⟨G,0,none⟩) (n+f.length) (n+f.length))=t at an ⊢
 have ao:St _ [blk z 83 [(.int .i64 n),j,q,t,(.slice (some ⟨D,0,none⟩) (n+f.length) (n+f.length)),(.slice (some ⟨A,0,none⟩) (n+f.length) (n+f.length))],blk A 3 ((List.replicate (n+f.length) 0).flatMap fR),fL fV (.slice (some ⟨D,0,none⟩) (n+f.length) (n+f.length)) 2 1 (List.replicate (n+f.length) 0),fL fV t 3 1 (List.replicate (n+f.length) 0),fL fV q 3 1 (List.replicate (n+f.length) 0),fL fV j 3 1 (List.replicate (n+f.length) 0),fL fR fv 3 1 f,blk E 83 [(.int .i64 0),(.slice none 0 0),(.slice none 0 0),(.slice none 0 0),(.slice none 0 0),(.slice none 0 0)]] Q:=lU (cf:=fV) an (i:=2) rfl f_ (zk _) (by simp only[maxLen];omega)
 generalize (Value.slice (some ⟨D,0,none⟩) (n+f.length) (n+f.length))=B at ao ⊢
 have aa:St _ [blk z 83 [(.int .i64 n),j,q,t,B,(.slice (some ⟨A,0,none⟩) (n+f.length) (n+f.length))],fL fR (.slice (some ⟨A,0,none⟩) (n+f.length) (n+f.length)) 3 1 (List.replicate (n+f.length) 0),fL fV B 2 1 (List.replicate (n+f.length) 0),fL fV t 3 1 (List.replicate (n+f.length) 0),fL fV q 3 1 (List.replicate (n+f.length) 0),fL fV j 3 1 (List.replicate (n+f.length) 0),fL fR fv 3 1 f,blk E 83 [(.int .i64 0),(.slice none 0 0),(.slice none 0 0),(.slice none 0 0),(.slice none 0 0),(.slice none 0 0)]] Q:=lU (cf:=fR) ao (i:=1) rfl f_ (zk _) (by simp only[maxLen];omega)
 generalize (Value.slice (some ⟨A,0,none⟩) (n+f.length) (n+f.length))=C at aa ⊢
 refine CQ tt none aa 4 ?_
 refine qU (cf:=iV.cells) (z0:=(⟨0,0⟩:iV)) (m:=n) (c:=n) rfl rfl rfl Tryz.underlying319 FY rfl f_ d_ (zk _) o_ o_ aa ?_
 intro ap aE br bs aF
 have ab:St _ [fL iV.cells (.slice (some ⟨ap,0,none⟩) n n) 143 2 (List.replicate n (⟨0,0⟩:iV)),blk z 83 [(.int .i64 n),j,q,t,B,C],fL fR C 3 1 (List.replicate (n+f.length) 0),fL fV B 2 1 (List.replicate (n+f.length) 0),fL fV t 3 1 (List.replicate (n+f.length) 0),fL fV q 3 1 (List.replicate (n+f.length) 0),fL fV j 3 1 (List.replicate (n+f.length) 0),fL fR fv 3 1 f,blk E 83 [(.int .i64 0),(.slice none 0 0),(.slice none 0 0),(.slice none 0 0),(.slice none 0 0),(.slice none 0 0)]] aE:=lU (cf:=iV.cells) aF (i:=0) rfl f_ (zk _) (by simp only[maxLen];omega)
 generalize (Value.slice (some ⟨ap,0,none⟩) n n)=I at ab ⊢
 have aG:=yg [1,6,5,4,3,2,0,7,8] ab
 have aH:=yv 1 aG rfl (congrArg (fL fV j 3 1) (FL (x := -1)))
 have aI:=yv 2 aH rfl (congrArg (fL fV q 3 1) (FL (x := -1)))
 have aJ:=yv 3 aI rfl (congrArg (fL fV t 3 1) (FL (x := -1)))
 refine gF ab 11 ?_
 refine lp (α:=Nat) (fun k=>[(0,(Za n)),(1,v),(4,(Zb E)),(5,Zc),(6,fv),(8,(Za ((n+f.length:Nat):Int))),(9,(Zb z)),(10,I),(48,(Za ((n+f.length:Nat):Int))),(49,(Za k))]) (fun k w1=>St [(w,[])] [blk z 83 (Zr n j q t B C),fL fV j 3 1 (nD (-1) 0 (n+f.length) k),fL fV q 3 1 (nD (-1) 0 (n+f.length) k),fL fV t 3 1 (nD (-1) 0 (n+f.length) k),fL fV B 2 1 (List.replicate (n+f.length) 0),fL fR C 3 1 (List.replicate (n+f.length) 0),fL iV.cells I 143 2 (List.replicate n (⟨0,0⟩:iV)),fL fR fv 3 1 f,blk E 83 uk] w1/\k<=n+f.length) (fun k=>n+f.length-k) 0 ⟨rfl,rfl,rfl,rfl,rfl,rfl,rfl,rfl,rfl,gm rO,trivial⟩ (⟨aJ,o_⟩) ?_
 rintro k bt bu ⟨b4,hk⟩
 have cA:=Si (x:=(-1:Int)) (y:=0) hk
 refine fS b4 2 ?_
 by_cases bv:((k:Int):Int)<(((n+f.length:Nat):Int):Int)
 . refine gF b4 15 ?_
   refine kY mixed [([0,1,2,3,4,5,6,7,8,9,10],[4,7]),([11,12],[7])] [13,14] b4 (fun bw aq=>jO ?_)
   refine fK aq 10 ?_
   refine iO (f:=(fun _ => -1)) (cf:=fV) 1 aq (fun bx ac=>?_)
   refine fQ ac 1 ?_
   refine kJ (jO ?_)
   refine fK ac 1 ?_
   refine iO (f:=(fun _ => -1)) (cf:=fV) 2 ac (fun bz ad=>?_)
   refine fQ ad 1 ?_
   refine kJ (kZ ?_)
   refine fK ad 1 ?_
   refine iO (f:=(fun _ => -1)) (cf:=fV) 3 ad (fun bA au=>?_)
   refine fQ au 7 ?_
   refine tN (?_)
   have aK:=yv 1 au rfl (congrArg (fL fV j 3 1) (FK o_))
   have aL:=yv 2 aK rfl (congrArg (fL fV q 3 1) (FK o_))
   have aM:=yv 3 aL rfl (congrArg (fL fV t 3 1) (FK o_))
   exact again (k+1) ⟨rfl,rfl,rfl,rfl,rfl,rfl,rfl,rfl,rfl,gm rO,trivial⟩ (⟨aM,o_⟩) (by show (n+f.length-(k+1):Nat)<n+f.length-k;omega)
 . have b5:k=n+f.length:=by omega
   have aN:=yv 1 b4 rfl (congrArg (fL fV j 3 1) ((congrArg (nD (-1) 0 (n+f.length)) b5).trans Kw))
   have aO:=yv 2 aN rfl (congrArg (fL fV q 3 1) ((congrArg (nD (-1) 0 (n+f.length)) b5).trans Kw))
   have aP:=yv 3 aO rfl (congrArg (fL fV t 3 1) ((congrArg (nD (-1) 0 (n+f.length)) b5).trans Kw))
   have aQ:=yv 5 aP rfl (congrArg (fL fR C 3 1) (FL (x:=1)))
   have aR:=yv 6 aQ rfl (congrArg (fL iV.cells I 143 2) (ag9))
   refine gF b4 18 ?_
   refine lp (α:=Nat) (fun F=>[(0,(Za n)),(1,v),(4,(Zb E)),(5,Zc),(6,fv),(8,(Za ((n+f.length:Nat):Int))),(9,(Zb z)),(10,I),(65,(Za n)),(66,(Za F))]) (fun F w1=>St [(w,[])] [blk z 83 (Zr n j q t B C),fL fV j 3 1 (List.replicate (n+f.length) (-1)),fL fV q 3 1 (List.replicate (n+f.length) (-1)),fL fV t 3 1 (List.replicate (n+f.length) (-1)),fL fV B 2 1 (List.replicate (n+f.length) 0),fL fR C 3 1 (nD 1 0 (n+f.length) F),fL iV.cells I 143 2 (rZ n F),fL fR fv 3 1 f,blk E 83 uk] w1/\F<=n) (fun F=>n-F) 0 ⟨rfl,rfl,rfl,rfl,rfl,rfl,rfl,rfl,rfl,gm rO,trivial⟩ (⟨aR,o_⟩) ?_
   rintro F bB bC ⟨b2,co⟩
   have cB:=Si (x:=(1:Nat)) (y:=0) (show F<=n+f.length by omega)
   have cD:=ag7 co
   refine fS b2 2 ?_
   by_cases bD:((F:Int):Int)<((n:Int):Int)
   . refine fK b2 21 ?_
     refine iO (f:=(fun _=>1)) (cf:=fR) 5 b2 (fun bE ae=>?_)
     refine fK ae 7 ?_
     refine ja (pvs:=[(0,(Za F)),(1,(Za F))]) (v:=.agg #[(Za F),(Za F)]) rfl rfl (ur [(0,(Ze F)),(1,(Ze F))] FY yn gr rfl ⟨rfl,rfl,rfl,rfl,trivial⟩ rfl s_) (fK ae 1 ?_)
     refine iO (f:=(fun _=>(⟨F,F⟩:iV))) 6 ae (fun bF av=>?_)
     refine fQ av 7 ?_
     refine tN (?_)
     have aS:=yv 5 av rfl (congrArg (fL fR C 3 1) (FK o_))
     have aT:=yv 6 aS rfl (congrArg (fL iV.cells I 143 2) (ag8 o_))
     exact again (F+1) ⟨rfl,rfl,rfl,rfl,rfl,rfl,rfl,rfl,rfl,gm rO,trivial⟩ (⟨aT,o_⟩) (by show (n-(F+1):Nat)<n-F;omega)
   . refine fK b2 14 ?_
     refine iL (m:=f.length) 7 rfl rfl yd b2 rfl ?_
     have b8:F=n:=by omega
     have aU:=yv 5 b2 rfl (congrArg (fL fR C 3 1) (((congrArg (nD 1 0 (n+f.length)) b8).trans (by unfold nD;rfl))))
     have aV:=yv 6 aU rfl (congrArg (fL iV.cells I 143 2) ((congrArg (rZ n) b8).trans ag6))
     have aW:=yv 1 aV rfl (congrArg (fL fV j 3 1) (rfl))
     have aX:=yv 2 aW rfl (congrArg (fL fV q 3 1) (rfl))
     have aY:=yv 3 aX rfl (congrArg (fL fV t 3 1) (rfl))
     have aZ:=yv 4 aY rfl (congrArg (fL fV B 2 1) (rfl))
     refine gF b2 4 ?_
     refine lp (α:=Nat×List iV) (fun(i,us)=>[(0,(Za n)),(1,v),(4,(Zb E)),(5,Zc),(6,fv),(9,(Zb z)),(10,I),(80,fv),(81,(Za f.length)),(82,(Za i))]) (fun(i,us) w1=>St [(w,[])] [blk z 83 (Zr n j q t B C),fL fV j 3 1 ((gI es n f i).l),fL fV q 3 1 ((gI es n f i).r),fL fV t 3 1 ((gI es n f i).p),fL fV B 2 1 ((gI es n f i).h),fL fR C 3 1 ((gI es n f i).s),fL iV.cells I 143 2 us,fL fR fv 3 1 f,blk E 83 uk] w1/\i<=f.length/\qF es n f i us) (fun(i,us)=>f.length-i) (0,((List.range n).map fun i=>⟨i,i⟩)) ⟨rfl,rfl,rfl,rfl,rfl,rfl,rfl,rfl,rfl,gm rO,trivial⟩ (⟨aZ,o_,qF.start⟩) ?_
     rintro⟨i,us⟩ bG a0 ⟨bk,hi,hT⟩
     obtain⟨ct,cu,cv,cw,cx,cy⟩:=yO (es:=es) (n:=n) (f:=f) i
     have cC:=hT.un.len
     refine fS bk 2 ?_
     by_cases bH:((i:Int):Int)<((f.length:Int):Int)
     . have b1:i<f.length:=by omega
       have cz:fJ f i<es.length:=bY.lt (zd (gy b1))
       obtain⟨cp,cq,cj,ck,b6⟩:=hT.at hg b1 (fun k hk=>bY.lt hk) (bY.mz b1)
       obtain⟨T,bZ⟩:∃ x,(fJ (gQ es n (f.take i)) (fJ es (fJ f i)).u)=x:=⟨_,rfl⟩
       obtain⟨y7,b0⟩:∃ x,(fJ (gQ es n (f.take i)) (fJ es (fJ f i)).v)=x:=⟨_,rfl⟩
       refine fK bk 1 ?_
       rw[bZ]at cj b6
       rw[b0]at ck b6
       obtain⟨cm,cn,b7⟩:=hT.two hg b1 (fun k hk=>bY.lt hk) (bY.mz b1) bZ b0
       refine fK bk 21 ?_
       refine ar (e:=((n+i:Nat):Int)) rfl rfl rfl rfl iT (gF bk 4 ?_)
       have a1:=yg [6,0,1,2,3,4,5,7,8] bk
       have a2:St _ [(Un.R I n (gQ es n (f.take i)) (gI es n f i).d us),blk z 83 (Zr n j q t B C),fL fV j 3 1 ((gI es n f i).l),fL fV q 3 1 ((gI es n f i).r),fL fV t 3 1 ((gI es n f i).p),fL fV B 2 1 ((gI es n f i).h),fL fR C 3 1 ((gI es n f i).s),fL fR fv 3 1 f,blk E 83 uk] a0:=yr a1 ⟨hT.un,hT.dd⟩
       refine kY mixed [([0,1,2,3,4,5,7,8,9,10,11,12,6],[12])] [13,14,15] a2 (fun a3 af=>jO ?_)
       refine fK af 12 ?_
       refine cl OD (TA I n (gQ es n (f.take i)) (gI es n f i).d us a3 (ye af 0 rfl) o_ ((fJ es (fJ f i)).u) o_ bZ) ?_
       rintro _ a4 ⟨a5,rfl,ht⟩
       have ag:=ym 0 af ht
       refine fQ ag 1 ?_
       refine kJ (kZ ?_)
       refine cl OD (TA I n (gQ es n (f.take i)) (gI es n f i).d a5 a4 (ye ag 0 rfl) o_ ((fJ es (fJ f i)).v) o_ b0) ?_
       rintro _ bI ⟨O,rfl,ht⟩
       have S:=ym 0 ag ht
       refine fK S 8 ?_
       refine min2 (a:=(T:Int)) (b:=(y7:Int)) (c:=((min T y7:Nat):Int)) rfl rfl rfl Fp (fK S 2 ?_)
       refine max2 (a:=(T:Int)) (b:=(y7:Int)) (c:=((max T y7:Nat):Int)) rfl rfl rfl abd ?_
       have U:=qw S
       have a6:=jP S
       have V:=U.2 (min T y7) o_
       have W:=U.2 (max T y7) o_
       have cE:=U.1.len
       refine gF S 5 ?_
       rw[<-V]at cm b7
       rw[<-W]at cn b7
       refine oD a6 4 fun bJ X=>?_
       refine uC (cf:=iV.cells) (k:=(min T y7)) (off:=0) (off' := 1) (i:=1) rfl rfl rfl yn gr d_ rfl (y8 X 0 rfl) (gy om) (fK X 4 ?_)
       refine uC (cf:=iV.cells) (k:=(max T y7)) (off:=0) (off' := 1) (i:=1) rfl rfl rfl yn gr d_ rfl (y8 X 0 rfl) (gy om) (gF X 6 ?_)
       refine kY mixed [([0,1,2,3,4,5,6,7,8,9],[4])] [10,11] X (fun bK aw=>jO ?_)
       refine fK aw 9 ?_
       refine iO (f:=(fun _=>((fJ O (min T y7)).b:Int))) 2 aw (fun bL ah=>?_)
       refine fQ ah 1 ?_
       refine kJ (kZ ?_)
       refine fK ah 1 ?_
       refine iO (f:=(fun _=>((fJ O (max T y7)).b:Int))) 3 ah (fun bM ax=>?_)
       refine gF ax 3 ?_
       refine kY mixed [([0,1,2,3,4,5,6,7,8,9],[4])] [10,11] ax (fun bN ay=>jO ?_)
       refine fK ay 9 ?_
       refine iO (f:=(fun _=>((n+i:Nat):Int))) 4 ay (fun bO ai=>?_)
       refine fQ ai 1 ?_
       refine kJ (kZ ?_)
       refine fK ai 1 ?_
       refine iO (f:=(fun _=>((n+i:Nat):Int))) 4 ai (fun bP a7=>?_)
       refine gJ a7 13 fun bQ a8=>?_
       refine iO (f:=(fun _=>(fJ es (fJ f i)).w)) 5 a8 (fun bR a9=>?_)
       refine gJ a9 17 fun bS az=>?_
       refine ar (e:=(((fJ ((gI es n f i).s) ((fJ O (min T y7)).b))+(fJ ((gI es n f i).s) ((fJ O (max T y7)).b)):Nat):Int)) rfl rfl rfl rfl iT (fK az 1 ?_)
       refine iO (f:=(fun _=>((fJ ((gI es n f i).s) ((fJ O (min T y7)).b))+(fJ ((gI es n f i).s) ((fJ O (max T y7)).b))))) 6 az (fun bT ba=>?_)
       refine gJ ba 10 fun bU aA=>?_
       refine uC (cf:=iV.cells) (k:=(max T y7)) (off:=0) (off' := 0) (i:=0) rfl rfl rfl yn gr d_ rfl (y8 aA 0 rfl) (gy om) (iO (f:=(fun x:iV=>{ x with a:=(min T y7) })) 0 aA (fun bV aj=>?_))
       refine fK aj 1 ?_
       refine uC (cf:=iV.cells) (k:=(min T y7)) (off:=0) (off' := 1) (i:=1) rfl rfl rfl yn gr d_ rfl (y8 aj 0 rfl) (gy om) (iO (f:=(fun x:iV=>{ x with b:=(n+i) })) 0 aj (fun bW aB=>?_))
       refine fQ aB 7 ?_
       refine tN (?_)
       have bb:=yg [1,2,3,4,5,6,0,7,8] aB
       have bc:=yv 1 bb rfl (congrArg (fL fV j 3 1) (by subst bZ b0;simp only[V,W];rfl))
       have bd:=yv 2 bc rfl (congrArg (fL fV q 3 1) (by subst bZ b0;simp only[V,W];rfl))
       have be:=yv 3 bd rfl (congrArg (fL fV t 3 1) (by subst bZ b0;simp only[V,W];rfl))
       have bf:=yv 4 be rfl (congrArg (fL fV B 2 1) (rfl))
       have bg:=yv 5 bf rfl (congrArg (fL fR C 3 1) (by subst bZ b0;simp only[V,W];rfl))
       exact again ((i+1),fN (fN O (max T y7) (fun x=>{ x with a:=(min T y7) })) (min T y7) (fun x=>{ x with b:=(n+i) })) ⟨rfl,rfl,rfl,rfl,rfl,rfl,rfl,rfl,rfl,gm rO,trivial⟩ (⟨bg,o_,hT.next hg b1 (fun k hk=>bY.lt hk) (bY.mz b1) U.1 U.2 (by subst bZ b0;rfl)⟩) (by show (f.length-(i+1):Nat)<f.length-i;omega)
     . refine fK bk 13 ?_
       refine jM 8 bk (fun bX ak=>?_) (h1:=(ia rfl (ia (yu bk (i:=1) rfl) (ia (yu bk (i:=2) rfl) (ia (yu bk (i:=3) rfl) (ia (yu bk (i:=4) rfl) (ia (yu bk (i:=5) rfl) kT)))))))
       refine fQ ak 4 ?_
       refine nO (v:=(zI n j q t B C)) (v' := Zc) Tryz.results132 (nE (cs:=(Zr n j q t B C)) rfl Tryz.underlying83 rfl wO rfl (lM ak (i:=8) (o:=0) (vs:=(Zr n j q t B C)) rfl rfl)) (oC rfl) ?_
       have b3:i=f.length:=by omega
       have bh:=yv 1 ak rfl (congrArg (fL fV j 3 1) (by rw[b3]<;>rfl))
       have bi:=yv 2 bh rfl (congrArg (fL fV q 3 1) (by rw[b3]<;>rfl))
       have bj:=yv 3 bi rfl (congrArg (fL fV t 3 1) (by rw[b3]<;>rfl))
       have bl:=yv 4 bj rfl (congrArg (fL fV B 2 1) (by rw[b3]<;>rfl))
       have bm:=yv 5 bl rfl (congrArg (fL fR C 3 1) (by rw[b3]<;>rfl))
       have bn:=yg [1,2,3,4,5] bm
       exact⟨f,j,q,t,B,C,rfl,bY,nV (yc [_,_,_,_,_] _ bn)⟩
end
section
open Go Go.Sx
structure mP (w:World) (es:List Ge) (n:Nat) (f:List Nat) (tl tr tp th ts:Value):Prop where
 l:iw 1 fV (fun _=>True) w tl (fT es n f).l
 r:iw 1 fV (fun _=>True) w tr (fT es n f).r
 p:iw 1 fV (fun _=>True) w tp (fT es n f).p
 h:iw 1 fV (fun _=>True) w th (fT es n f).h
 s:iw 1 fR (fun _=>True) w ts (fT es n f).s
theorem mP.to{bs:List (World×List Nat)}{L:List fU}{w w0:World}{es:List Ge}{n:Nat}{f:List Nat}{b d c a e:Value}(h:mP w0 es n f b d c a e)(hs:St bs L w)(hb:(w0,[])∈bs):mP w es n f b d c a e :=
 ⟨yw hs hb d_ h.l,yw hs hb d_ h.r,yw hs hb d_ h.p,yw hs hb d_ h.h,yw hs hb d_ h.s⟩
theorem aaL(es:List Ge)(n:Nat)(f:List Nat)(o:gV es n f)(I:n<=4096)(t y u q z:Value)(w:World)(m:mP w es n f t y u q z)(x:Nat)(A:x<n) :
 CR ya 250 (zN n t y u q z x) w (fun r w' => r = .bool true/\gx [] w w'):=by
 obtain⟨D,E,F,G,H⟩:=lC (es:=es) (n:=n) (f:=f)
 have C:=o.f.room o.g
 refine en Tryz.func250 Tryz.ntmps250 ?_
 have p:=yt w
 obtain⟨a1,a2,a3,B⟩:fJ (fT es n f).l x = -1/\fJ (fT es n f).r x = -1/\fJ (fT es n f).h x=0/\fJ (fT es n f).s x=1:=o.v.a x A
 refine fS p 2 ?_
 refine ij p (fun c d e j b=>?_)
 refine fK b 8 ?_
 refine iK (k:=x) (i:=(x:Int)) rfl rfl rfl yd gr m.l o_ o_ (gy o_) (jk rfl rfl yf rfl (yw b s_ d_ m.l) (gy o_) rfl (cmp rfl rfl rfl (oM o_) (fK b 4 ?_)))
 refine iK (k:=x) (i:=(x:Int)) rfl rfl rfl yd gr m.r o_ o_ (gy o_) (jk rfl rfl yf rfl (yw b s_ d_ m.r) (gy o_) rfl (cmp rfl rfl rfl (oM o_) (fK b 5 ?_)))
 refine iK (k:=x) (i:=(x:Int)) rfl rfl rfl nH ti2 m.h o_ o_ (gy o_) (jk rfl rfl sX rfl (yw b s_ d_ m.h) (gy o_) rfl (cmp rfl rfl rfl (oM o_) (fK b 5 ?_)))
 refine iK (k:=x) (i:=(x:Int)) rfl rfl rfl yd gr m.s o_ o_ (gy o_) (jk rfl rfl yf rfl (yw b s_ d_ m.s) (gy o_) rfl (cmp rfl rfl rfl (oM o_) (fQ b 5 ?_)))
 refine gq (v:=Zf) Tryz.results250 rfl ?_
 exact⟨rfl,b.gz s_⟩
theorem ZY(es:List Ge)(n:Nat)(f:List Nat)(D:gV es n f)(hn:n<=4096)(L N M K O:Value)(w:World)(C:mP w es n f L N M K O)(i:Nat)(hi:i<f.length)(ev:Value)(le:List Nat)(Z:iw 1 fR (fun _=>True) w ev le)(Q:le[nL es n f i]? = some (gH es n f (nL es n f i)))(R:le[nR es n f i]? = some (gH es n f (nR es n f i))) :
 CR ya 252 #[(zI n L N M K O),ev,(Za ((n+i:Nat):Int))] w (fun r w' => r = .bool true/\gx [] w w'):=by
 obtain⟨ab,ac,ad,ae,af⟩:=lC (es:=es) (n:=n) (f:=f)
 have aa:=D.f.room D.g
 refine en Tryz.func252 Tryz.ntmps252 ?_
 have J:=yt w
 obtain⟨e1,F,G,H,I,U,V,W,X,S⟩:=D.inner hi
 obtain⟨k1,k2,k3⟩:=D.v8 hi
 have s1:=(D.st hi).1
 have ag:fJ (fT es n f).s (nL es n f i)<=n:=by omega
 have ah:fJ (fT es n f).s (nR es n f i)<=n:=by omega
 refine fS J 2 ?_
 refine ij J (fun o q t u j=>?_)
 refine gJ j 8 fun x a=>?_
 refine iK (k:=(n+i)) (i:=((n+i:Nat):Int)) rfl rfl rfl yd gr C.l o_ o_ e1 (jk rfl rfl yf rfl (yw a s_ d_ C.l) e1 rfl (fK a 3 ?_))
 refine iK (k:=(n+i)) (i:=((n+i:Nat):Int)) rfl rfl rfl yd gr C.r o_ o_ F (jk rfl rfl yf rfl (yw a s_ d_ C.r) F rfl (fK a 8 ?_))
 refine cmp rfl rfl rfl (kV o_) (fK a 3 ?_)
 refine cmp rfl rfl rfl (oh o_) (fK a 3 ?_)
 refine cmp rfl rfl rfl (kV o_) (fK a 4 ?_)
 refine cmp rfl rfl rfl (oh o_) (fK a 4 ?_)
 refine cmp rfl rfl rfl (uu o_) (gJ a 12 fun z c=>?_)
 refine iK (k:=(nL es n f i)) (i:=(((nL es n f i):Nat):Int)) rfl rfl rfl yd gr C.p o_ o_ H (jk rfl rfl yf rfl (yw c s_ d_ C.p) H rfl (fK c 1 ?_))
 refine cmp rfl rfl rfl (qd o_) (fK c 4 ?_)
 refine iK (k:=(nR es n f i)) (i:=(((nR es n f i):Nat):Int)) rfl rfl rfl yd gr C.p o_ o_ I (jk rfl rfl yf rfl (yw c s_ d_ C.p) I rfl (fK c 1 ?_))
 refine cmp rfl rfl rfl (qd o_) (fK c 10 ?_)
 refine cmp rfl rfl rfl (oh o_) (gJ c 12 fun A d=>?_)
 refine iK (k:=(n+i)) (i:=((n+i:Nat):Int)) rfl rfl rfl yd gr C.s o_ o_ (gy o_) (jk rfl rfl yf rfl (yw d s_ d_ C.s) (gy o_) rfl (fK d 3 ?_))
 refine iK (k:=(nL es n f i)) (i:=(((nL es n f i):Nat):Int)) rfl rfl rfl yd gr C.s o_ o_ (gy o_) (jk rfl rfl yf rfl (yw d s_ d_ C.s) (gy o_) rfl (fK d 3 ?_))
 refine iK (k:=(nR es n f i)) (i:=(((nR es n f i):Nat):Int)) rfl rfl rfl yd gr C.s o_ o_ (gy o_) (jk rfl rfl yf rfl (yw d s_ d_ C.s) (gy o_) rfl (ar (e:=(((fJ (fT es n f).s (nL es n f i))+(fJ (fT es n f).s (nR es n f i)):Nat):Int)) rfl rfl rfl rfl iT (cmp rfl rfl rfl (qd o_) ?_)))
 have P:¬ ((n+i:Nat):Int)=(n:Int)->∃ y,(fT es n f).h[n+i-1]? = some y/\y<=(fJ es (fJ f i)).w:=fun Y=>⟨_,by have e:=(D.inner (show i-1<f.length by omega)).2.2.1;rwa [show n+(i-1)=n+i-1 by omega]at e,by have e:=D.f.k7 (i:=i-1) o_;rwa [show i-1+1=i by omega]at e⟩
 refine gJ d 10 fun B b=>?_
 by_cases m:(((n+i:Nat):Int):Int)=((n:Int):Int)
 . refine fQ b 19 ?_
   refine gq (v:=Zf) Tryz.results252 rfl ?_
   exact⟨rfl,b.gz s_⟩
 . obtain⟨ai,E,T⟩:=P m
   refine fK b 5 ?_
   refine iK (k:=(n+i)) (i:=((n+i:Nat):Int)) rfl rfl rfl nH ti2 C.h o_ o_ G (jk rfl rfl sX rfl (yw b s_ d_ C.h) G rfl (fK b 3 ?_))
   refine ar (e:=((n+i-1:Nat):Int)) rfl rfl rfl rfl iT (iK (k:=(n+i-1)) (i:=((n+i-1:Nat):Int)) rfl rfl rfl nH ti2 C.h o_ o_ E (jk rfl rfl sX rfl (yw b s_ d_ C.h) E rfl (cmp rfl rfl rfl (nv o_) (fQ b 5 ?_))))
   refine gq (v:=Zf) Tryz.results252 rfl ?_
   exact⟨rfl,b.gz s_⟩
theorem UP(es:List Ge)(n:Nat)(f:List Nat)(h:gV es n f)(D:n<=4096)(o s q m t:Value)(w:World)(j:mP w es n f o s q m t)(y:Nat)(E:y<n+f.length)(h1:(fT es n f).p[y]? = some (-1)) :
 CR ya 254 (zN n o s q m t y) w (fun r w' => r = .bool true/\gx [] w w'):=by
 obtain⟨x,z,A,B,C⟩:=lC (es:=es) (n:=n) (f:=f)
 have u:=h.f.room h.g
 refine en Tryz.func254 Tryz.ntmps254 ?_
 have l:=yt w
 refine fS l 2 ?_
 refine ij l (fun b c d e a=>?_)
 refine fK a 8 ?_
 refine iK (k:=y) (i:=(y:Int)) rfl rfl rfl yd gr j.p o_ o_ h1 (jk rfl rfl yf rfl (yw a s_ d_ j.p) h1 rfl (fK a 7 ?_))
 refine cmp rfl rfl rfl (oM o_) (fQ a 10 ?_)
 refine gq (v:=Zf) Tryz.results254 rfl ?_
 exact⟨rfl,a.gz s_⟩
theorem US(es:List Ge)(n:Nat)(f:List Nat)(j:gV es n f)(O:n<=4096)(s t m q u:Value)(w:World)(h:mP w es n f s t m q u)(y i:Nat)(hi:i<f.length)(h1:(fT es n f).p[y]? = some ((n+i:Nat):Int))(H:y=nL es n f i) :
 CR ya 254 (zN n s t m q u y) w (fun r w' => r = .bool true/\gx [] w w'):=by
 obtain⟨J,K,L,M,N⟩:=lC (es:=es) (n:=n) (f:=f)
 have I:=j.f.room j.g
 have P:y<n+f.length:=by obtain⟨_,_,_,_,_,_,_,x,z,_⟩:=j.inner hi;omega
 refine en Tryz.func254 Tryz.ntmps254 ?_
 have o:=yt w
 obtain⟨e1,B,C,D,E,F,G,x,z,A⟩:=j.inner hi
 refine fS o 2 ?_
 refine ij o (fun b c d e a=>?_)
 refine fK a 8 ?_
 refine iK (k:=y) (i:=(y:Int)) rfl rfl rfl yd gr h.p o_ o_ h1 (jk rfl rfl yf rfl (yw a s_ d_ h.p) h1 rfl (fK a 7 ?_))
 refine cmp rfl rfl rfl (uu o_) (fK a 8 ?_)
 refine cmp rfl rfl rfl (nv o_) (fK a 4 ?_)
 refine kX (v:=m) rfl rfl yd h.p (cmp rfl rfl rfl (pI o_) (fK a 5 ?_))
 refine iK (k:=(n+i)) (i:=((n+i:Nat):Int)) rfl rfl rfl yd gr h.l o_ o_ e1 (jk rfl rfl yf rfl (yw a s_ d_ h.l) e1 rfl (fK a 1 ?_))
 refine cmp rfl rfl rfl (oM o_) (fQ a 14 ?_)
 refine gq (v:=Zf) Tryz.results254 rfl ?_
 exact⟨rfl,a.gz s_⟩
theorem UT(es:List Ge)(n:Nat)(f:List Nat)(j:gV es n f)(O:n<=4096)(t u m s x:Value)(w:World)(h:mP w es n f t u m s x)(y i:Nat)(hi:i<f.length)(h1:(fT es n f).p[y]? = some ((n+i:Nat):Int))(H:y=nR es n f i) :
 CR ya 254 (zN n t u m s x y) w (fun r w' => r = .bool true/\gx [] w w'):=by
 obtain⟨J,K,L,M,N⟩:=lC (es:=es) (n:=n) (f:=f)
 have I:=j.f.room j.g
 have P:y<n+f.length:=by obtain⟨_,_,_,_,_,_,_,z,A,_⟩:=j.inner hi;omega
 refine en Tryz.func254 Tryz.ntmps254 ?_
 have q:=yt w
 obtain⟨e1,o,C,D,E,F,G,z,A,B⟩:=j.inner hi
 refine fS q 2 ?_
 refine ij q (fun b c d e a=>?_)
 refine fK a 8 ?_
 refine iK (k:=y) (i:=(y:Int)) rfl rfl rfl yd gr h.p o_ o_ h1 (jk rfl rfl yf rfl (yw a s_ d_ h.p) h1 rfl (fK a 7 ?_))
 refine cmp rfl rfl rfl (uu o_) (fK a 8 ?_)
 refine cmp rfl rfl rfl (nv o_) (fK a 4 ?_)
 refine kX (v:=m) rfl rfl yd h.p (cmp rfl rfl rfl (pI o_) (fK a 5 ?_))
 refine iK (k:=(n+i)) (i:=((n+i:Nat):Int)) rfl rfl rfl yd gr h.l o_ o_ e1 (jk rfl rfl yf rfl (yw a s_ d_ h.l) e1 rfl (fK a 1 ?_))
 refine cmp rfl rfl rfl (uu o_) (fK a 4 ?_)
 refine iK (k:=(n+i)) (i:=((n+i:Nat):Int)) rfl rfl rfl yd gr h.r o_ o_ o (jk rfl rfl yf rfl (yw a s_ d_ h.r) o rfl (fK a 1 ?_))
 refine cmp rfl rfl rfl (oM o_) (fQ a 6 ?_)
 refine gq (v:=Zf) Tryz.results254 rfl ?_
 exact⟨rfl,a.gz s_⟩
theorem UU(es:List Ge)(n:Nat)(f:List Nat)(h:gV es n f)(l:n<=4096)(b d c a e:Value)(w:World)(k:mP w es n f b d c a e)(y:Nat)(o:y<n+f.length) :
 CR ya 254 (zN n b d c a e y) w (fun r w' => r = .bool true/\gx [] w w'):=by
 rcases h.par o with g|⟨i,g,m,j|j⟩
 . exact UP es n f h l b d c a e w k y o g
 . exact US es n f h l b d c a e w k y i g m j
 . exact UT es n f h l b d c a e w k y i g m j
theorem ZX(es:List Ge)(n:Nat)(f:List Nat)(g:gV es n f)(p:n<=4096)(b d c a e:Value)(w:World)(m:mP w es n f b d c a e)(x:Nat)(q:n<=x)(s:x<n+f.length)(ev:Value)(le:List Nat)(o:iw 1 fR (fun _=>True) w ev le)(h:∀ k,k<x->le[k]? = some (gH es n f k)) :
 CR ya 252 #[(zI n b d c a e),ev,(Za x)] w (fun r w' => r = .bool true/\gx [] w w'):=by
 obtain⟨i,rfl⟩:∃ i,x=n+i:=⟨x-n,o_⟩
 obtain⟨_,_,_,_,_,_,_,j,l,_⟩:=g.inner (show i<f.length by omega)
 exact ZY es n f g p b d c a e w m i o_ ev le o (h _ j) (h _ l)
theorem VV(es:List Ge)(n:Nat)(f:List Nat)(l:gV es n f)(o:n<=4096)(h j i g k:Value)(w:World)(m:mP w es n f h j i g k)(tb:Nat) (hb:(blk tb 83 (Zr n h j i g k)).holds w) (x:Nat) (p:x<n+f.length) :
 CR ya 249 (BI x tb) w (fun r w' => r = .bool true/\gx [] w w'):=by
 refine en Tryz.func249 Tryz.ntmps249 ?_
 have e:=yt w
 refine fS e 10 ?_
 by_cases c:((x:Int):Int)≥((n:Int):Int)
 . refine fQ e 10 ?_
   refine gq (v:=Zf) Tryz.results249 rfl ?_
   exact⟨rfl,e.gz s_⟩
 . refine fK e 4 ?_
   refine cl Xt (aaL es n f l o h j i g k w m x o_) ?_
   rintro _ d ⟨rfl,b⟩
   have a:=yq e b
   refine fQ a 5 ?_
   refine gq (v:=Zf) Tryz.results249 rfl ?_
   exact⟨rfl,a.gz s_⟩
theorem VW(es:List Ge)(n:Nat)(f:List Nat)(m:gV es n f)(s:n<=4096)(h j i g l:Value)(w:World)(o:mP w es n f h j i g l)(tb:Nat) (hb:(blk tb 83 (Zr n h j i g l)).holds w)(lb:Nat) (ev:Value) (le:List Nat) (u:(blk lb 35 [ev]).holds w) (p:iw 1 fR (fun _=>True) w ev le) (x:Nat) (t:x<n+f.length) (q:∀ k,k<x->le[k]? = some (gH es n f k)) :
 CR ya 251 (Uk x tb lb) w (fun r w' => r = .bool true/\gx [] w w'):=by
 refine en Tryz.func251 Tryz.ntmps251 ?_
 have e:=yt w
 refine fS e 10 ?_
 by_cases c:((x:Int):Int)<((n:Int):Int)
 . refine fQ e 11 ?_
   refine gq (v:=Zf) Tryz.results251 rfl ?_
   exact⟨rfl,e.gz s_⟩
 . refine fK e 5 ?_
   refine cl Xv (ZX es n f m s h j i g l w o x o_ t ev le p q) ?_
   rintro _ d ⟨rfl,b⟩
   have a:=yq e b
   refine fQ a 5 ?_
   refine gq (v:=Zf) Tryz.results251 rfl ?_
   exact⟨rfl,a.gz s_⟩
theorem VX(es:List Ge)(n:Nat)(f:List Nat)(k:gV es n f)(m:n<=4096)(e h g d i:Value)(w:World)(l:mP w es n f e h g d i)(tb:Nat) (hb:(blk tb 83 (Zr n e h g d i)).holds w) (x:Nat) (o:x<n+f.length) :
 CR ya 253 (BI x tb) w (fun r w' => r = .bool true/\gx [] w w'):=by
 refine en Tryz.func253 Tryz.ntmps253 ?_
 have j:=yt w
 refine fS j 9 ?_
 refine cl Xx (UU es n f k m e h g d i w l x o) ?_
 rintro _ c ⟨rfl,b⟩
 have a:=yq j b
 refine fQ a 4 ?_
 refine gq (v:=Zf) Tryz.results253 rfl ?_
 exact⟨rfl,a.gz s_⟩
theorem ZJ(es:List Ge)(n:Nat)(f:List Nat)(y:gV es n f)(A:n<=4096)(q t s p u:Value)(w:World)(z:mP w es n f q t s p u)(tb:Nat) (hb:(blk tb 83 (Zr n q t s p u)).holds w)(lb:Nat) (ev:Value) (le:List Nat) (D:(blk lb 35 [ev]).holds w) (C:iw 1 fR (fun _=>True) w ev le)(cb:Nat) (cv:Value) (F:(blk cb 370 [cv]).holds w) (m:iw 1 Pq (fun _=>True) w cv (BL tb lb)) (x:Nat) (B:x<n+f.length) (E:∀ k,k<x->le[k]? = some (gH es n f k)) :
 CR ya 255 (BI x cb) w (fun r w' => r = .bool true/\gx [] w w'):=by
 refine en Tryz.func255 Tryz.ntmps255 ?_
 have o:=yt w
 refine fS o 9 ?_
 refine kX (v:=cv) rfl rfl Bl m (gF o 4 ?_)
 refine ri 4 (iz (fS o 2 ?_))
 refine cmp rfl rfl rfl (pI s_) (fK o 10 ?_)
 refine iK (k:=0) (i:=0) rfl rfl rfl Bl C7 m o_ o_ rfl (jk rfl rfl Tryz.underlying247 rfl m rfl rfl (fK o 7 ?_))
 refine qg (fi:=[]) (ca:=(Zh tb)) rfl rfl rfl Xs (VV es n f y A q t s p u w z tb hb x B) ?_
 rintro _ d ⟨rfl,e⟩
 have a:=yq o e
 refine fQ a 11 ?_
 refine tN (?_)
 refine iz (fS a 2 ?_)
 refine cmp rfl rfl rfl (pI s_) (fK a 10 ?_)
 refine iK (k:=1) (i:=1) rfl rfl rfl Bl C7 m o_ o_ rfl (jk rfl rfl Tryz.underlying247 rfl (yw a s_ d_ m) rfl rfl (fK a 7 ?_))
 refine qg (fi:=[]) (ca:=(Z5 tb lb)) rfl rfl rfl Xu (VW es n f y A q t s p u d (z.to a s_) tb (St.xL a s_ hb) lb ev le (St.xL a s_ D) (yw a s_ d_ C) x B E) ?_
 rintro _ g ⟨rfl,h⟩
 have b:=yq a h
 refine fQ b 11 ?_
 refine tN (?_)
 refine iz (fS b 2 ?_)
 refine cmp rfl rfl rfl (pI s_) (fK b 10 ?_)
 refine iK (k:=2) (i:=2) rfl rfl rfl Bl C7 m o_ o_ rfl (jk rfl rfl Tryz.underlying247 rfl (yw b s_ d_ m) rfl rfl (fK b 7 ?_))
 refine qg (fi:=[]) (ca:=(Zh tb)) rfl rfl rfl Xw (VX es n f y A q t s p u g (z.to b s_) tb (St.xL b s_ hb) x B) ?_
 rintro _ l ⟨rfl,j⟩
 have c:=yq b j
 refine fQ c 11 ?_
 refine tN (?_)
 refine iz (fS c 2 ?_)
 refine cmp rfl rfl rfl (kV s_) (fQ c 15 ?_)
 refine gq (v:=Zf) Tryz.results255 rfl ?_
 exact⟨rfl,c.gz s_⟩
theorem Jx(es:List Ge)(n:Nat)(f:List Nat)(hF:gV es n f)(hn:n<=4096)(tl tr tp th ts:Value)(w:World)(F:mP w es n f tl tr tp th ts) :
 CR ya 202 (BG n tl tr tp th ts) w (fun r w' => ∃ (v:Value),r = .tuple #[v,.bool true]/\fZ (gj []) w w' (oJ v ((List.range (n+f.length)).map (gH es n f)))):=by
 obtain⟨az,aA,aw,aB,aC⟩:=lC (es:=es) (n:=n) (f:=f)
 have ax:=hF.f.room hF.g
 refine en Tryz.func202 Tryz.ntmps202 ?_
 have au:=yt w
 refine fS au 2 ?_
 refine ij au (fun b S U V a=>?_)
 refine fK a 8 ?_
 refine kX (v:=tp) rfl rfl yd F.p (fK a 8 ?_)
 refine cmp rfl rfl rfl (kV o_) (fK a 3 ?_)
 refine cmp rfl rfl rfl (pJ o_) (fK a 5 ?_)
 refine cmp rfl rfl rfl (kV o_) (fK a 6 ?_)
 refine cmp rfl rfl rfl (pJ o_) (fK a 11 ?_)
 refine kX (v:=tl) rfl rfl yd F.l (fK a 1 ?_)
 refine cmp rfl rfl rfl (qd o_) (fK a 3 ?_)
 refine kX (v:=tr) rfl rfl yd F.r (fK a 1 ?_)
 refine cmp rfl rfl rfl (qd o_) (fK a 4 ?_)
 refine kX (v:=th) rfl rfl nH F.h (fK a 1 ?_)
 refine cmp rfl rfl rfl (qd o_) (fK a 4 ?_)
 refine kX (v:=ts) rfl rfl yd F.s (fK a 1 ?_)
 refine cmp rfl rfl rfl (qd o_) (fK a 9 ?_)
 refine qU (cf:=fR) (z0:=0) (m:=((fT es n f).p.length)) (c:=((fT es n f).p.length)) rfl rfl rfl yd gr rfl f_ d_ (zk _) o_ o_ a ?_
 intro A G W X H
 have B:St _ [fL fR (.slice (some ⟨A,0,none⟩) ((fT es n f).p.length) ((fT es n f).p.length)) 3 1 (List.replicate ((fT es n f).p.length) 0),blk b 83 [(.int .i64 n),tl,tr,tp,th,ts]] G:=lU (cf:=fR) H (i:=0) rfl f_ (zk _) (by simp only[maxLen];omega)
 generalize (Value.slice (some ⟨A,0,none⟩) ((fT es n f).p.length) ((fT es n f).p.length))=d at B ⊢
 refine iH B (fun e Y Z aa u=>?_)
 refine jM 0 u (fun ab C=>?_) (hvs:=(cells_one (yu u (i:=1) rfl))) (h1:=(ia (yu u (i:=1) rfl) kT))
 refine fK C 4 ?_
 refine mD (vf:=[]) (vc:=(Zh b)) rfl rfl rfl (mD (vf:=[]) (vc:=(Z5 b e)) rfl rfl rfl (mD (vf:=[]) (vc:=(Zh b)) rfl rfl rfl (jL (vs:=(BL b e)) (cs:=(BL b e)) rfl rfl Bl C7 rfl (by simp[Value.cells]) rfl rfl rfl C (fun x ac ad ae I=>iH I (fun q af ag ah J=>?_)))))
 refine gJ J 5 fun ai D=>?_
 refine mD (vf:=[]) (vc:=(Zh q)) rfl rfl rfl ?_
 have K:=yg [3,4,2,0,1] D
 have L:=yv 0 K rfl (congrArg (fL fR d 3 1) (aaK (es:=es) (n:=n) (f:=f)))
 refine gF D 11 ?_
 refine lp (α:=Nat) (fun k=>[(1,(Zb b)),(2,Zg),(3,Zp),(5,(Zb e)),(6,(Zb q)),(7,(.func (.func 255) #[] (Zi q))),(66,(Za (((fT es n f).p).length:Int))),(67,(Za k))]) (fun k w1=>St [(w,[])] [fL fR d 3 1 (nw es n f (fT es n f).p.length k),blk b 83 (Zr n tl tr tp th ts),blk e 35 [d],blk q 370 [(Z1 x)],row (Z1 x) 247 1 3 ((BL b e))] w1/\k<=(fT es n f).p.length) (fun k=>(fT es n f).p.length-k) 0 ⟨rfl,rfl,rfl,rfl,rfl,rfl,rfl,gm rO,trivial⟩ (⟨L,o_⟩) ?_
 rintro k aj ak ⟨aq,hk⟩
 have aD:=aaI (es:=es) (n:=n) (f:=f) hk
 refine fS aq 2 ?_
 by_cases al:((k:Int):Int)<((((fT es n f).p).length:Int):Int)
 . have ay:k<(fT es n f).p.length:=by omega
   refine fK aq 21 ?_
   refine iO (f:=(fun _=>k)) 0 aq (fun M o=>?_)
   refine fK o 7 ?_
   refine qg (fi:=[]) (ca:=(Zh q)) rfl rfl rfl Xy (ZJ es n f hF hn tl tr tp th ts M (F.to o s_) b (St.at o (i:=1) rfl) e d (fN (nw es n f (fT es n f).p.length k) k (fun _=>k)) (St.at o (i:=2) rfl) (y8 o 0 rfl).any q (Z1 x) (St.at o (i:=3) rfl) (Sl.any (uZ (cf:=Pq) (xs:=(BL b e)) o (i:=4) rfl f_)) k o_ (fun j hj=>Qr hk hj)) ?_
   rintro _ am ⟨rfl,N⟩
   have t:=yq o N
   refine fK t 11 ?_
   by_cases an:((k:Int):Int)≥((n:Int):Int)
   . obtain⟨T,ar⟩:∃ T,k=n+T:=⟨k-n,o_⟩
     obtain⟨e1,_,_,_,_,_,_,e8,_,_⟩:=hF.inner (show T<f.length by omega)
     obtain⟨q1,q2,q3⟩:=hF.v8 (show T<f.length by omega)
     refine gJ t 11 fun ao y=>?_
     refine iK (k:=k) (i:=(k:Int)) rfl rfl rfl yd gr F.l o_ o_ (by rw[ar];exact e1) (jk rfl rfl yf rfl (yw y s_ d_ F.l) (by rw[ar];exact e1) rfl (fK y 3 ?_))
     refine iO (f:=(fun _=>(fJ (fN (nw es n f (fT es n f).p.length k) k (fun _=>k)) (nL es n f T)))) 0 y (fun ap E=>?_)
     refine fQ E 7 ?_
     refine tN (?_)
     have O:=yv 0 E rfl (congrArg (fL fR d 3 1) (aaJ o_ (by rw[iE (Qr hk (show nL es n f T<k by omega)),ar,q3];exact q1)))
     exact again (k+1) ⟨rfl,rfl,rfl,rfl,rfl,rfl,rfl,gm rO,trivial⟩ (⟨O,o_⟩) (by show ((fT es n f).p.length-(k+1):Nat)<(fT es n f).p.length-k;omega)
   . refine fQ t 11 ?_
     refine tN (?_)
     have P:=yv 0 t rfl (congrArg (fL fR d 3 1) (Qs o_ (by unfold gH;rw[if_pos o_])))
     exact again (k+1) ⟨rfl,rfl,rfl,rfl,rfl,rfl,rfl,gm rO,trivial⟩ (⟨P,o_⟩) (by show ((fT es n f).p.length-(k+1):Nat)<(fT es n f).p.length-k;omega)
 . refine fQ aq 18 ?_
   refine iC (v:=d) (v' := Zf) Tryz.results202 rfl rfl ?_
   have Q:=yg [0] aq
   have av:k=n+f.length:=by omega
   have R:=yv 0 Q rfl (congrArg (fL fR d 3 1) ((congrArg (fun z=>nw es n f z k) aw).trans ((congrArg (nw es n f (n+f.length)) av).trans aaH)))
   exact⟨d,rfl,nV R⟩
end
section
open Go Go.Sx
theorem ac2(es:List Ge)(n:Nat)(f:List Nat)(s:gV es n f)(u:n<=4096)(l o m k p:Value)(w:World)(t:mP w es n f l o m k p) :
 CR ya 149 (BG n l o m k p) w (fun r w' => r = .int .i64 0/\gx [] w w'):=by
 refine en Tryz.func149 Tryz.ntmps149 ?_
 have q:=yt w
 refine fS q 2 ?_
 refine ij q (fun e c g h a=>?_)
 refine fK a 7 ?_
 refine cl IG (Jx es n f s u l o m k p c (t.to a s_)) ?_
 rintro _ i ⟨j,rfl,x⟩
 have b:=(jJ a x)
 refine fQ b 22 ?_
 refine gq (v:=Zc) Tryz.results149 rfl ?_
 have d:=yg [] b
 exact⟨rfl,d.gz s_⟩
theorem Sc(es:List Ge)(n:Nat)(f:List Nat)(q:gV es n f)(t:n<=4096)(k m l j o:Value)(w:World)(s:mP w es n f k m l j o) :
 CR ya 150 (BG n k m l j o) w (fun r w' => ∃ (v:Value),v=r/\fZ (gj []) w w' (oJ v ((List.range (n+f.length)).map (gH es n f)))):=by
 refine en Tryz.func150 Tryz.ntmps150 ?_
 have p:=yt w
 refine fS p 2 ?_
 refine ij p (fun e d g h a=>?_)
 refine fK a 6 ?_
 refine cl IG (Jx es n f q t k m l j o d (s.to a s_)) ?_
 rintro _ i ⟨b,rfl,u⟩
 have c:=(jJ a u)
 refine fQ c 24 ?_
 refine gq (v:=b) Tryz.results150 rfl ?_
 exact⟨b,rfl,nV c⟩
theorem Wg(es:List Ge)(n:Nat)(f:List Nat)(hF:gV es n f)(hn:n<=4096)(Z tr F T ts:Value)(w:World)(hR:mP w es n f Z tr F T ts) :
 CR ya 87 (BG n Z tr F T ts) w (fun r w' => ∃ (v:Value),r = .tuple #[v,.int .i64 0]/\fZ (gj []) w w' (fL Mg.cells v 178 5 (nM es n f f.length))):=by
 obtain⟨ag,ah,ai,aj,ak⟩:=lC (es:=es) (n:=n) (f:=f)
 have af:=hF.f.room hF.g
 refine enter (vs:=(D8 n Z tr F T ts)) Tryz.func87 rfl Tryz.ntmps87 rfl ?_
 have ac:=yt w
 refine fS ac 2 ?_
 refine ij ac (fun d H P Q t=>?_)
 refine fK t 8 ?_
 refine jI (vl:=(D8 n Z tr F T ts)) rfl rfl WU (ac2 es n f hF hn Z tr F T ts H (hR.to t s_)) ?_
 rintro _ C ⟨rfl,I⟩
 have y:St _ [blk d 83 (Zr n Z tr F T ts)] C:=yq t I
 refine fK y 15 ?_
 refine jI (vl:=(D8 n Z tr F T ts)) rfl rfl Ot (Sc es n f hF hn Z tr F T ts C (hR.to y s_)) ?_
 rintro _ D ⟨j,rfl,ht⟩
 have E:St _ [fL fR j 3 1 ((List.range (n+f.length)).map (gH es n f)),blk d 83 (Zr n Z tr F T ts)] D:=(jJ (R:=fL fR j 3 1 ((List.range (n+f.length)).map (gH es n f))) y ht)
 have J:St _ [fL Mg.cells Zg 178 5 (nM es n f 0),fL fR j 3 1 ((List.range (n+f.length)).map (gH es n f)),blk d 83 (Zr n Z tr F T ts)] D:=oU E 178 5
 refine gF E 17 ?_
 refine lp (α:=Nat×Value) (fun(i,mv)=>[(1,(Zb d)),(2,Zg),(3,Zc),(5,j),(6,mv),(7,(Za ((n+i:Nat):Int)))]) (fun(i,mv) w1=>St [(w,[])] [fL Mg.cells mv 178 5 (nM es n f i),fL fR j 3 1 ((List.range (n+f.length)).map (gH es n f)),blk d 83 (Zr n Z tr F T ts)] w1/\i<=f.length) (fun(i,mv)=>f.length-i) (0,Zg) ⟨rfl,rfl,rfl,rfl,rfl,gm (by first|rfl|omega),trivial⟩ (⟨J,o_⟩) ?_
 rintro⟨i,mv⟩ S K ⟨aa,hi⟩
 have am:=QI (es:=es) (n:=n) (f:=f) (k:=i)
 refine fS aa 6 ?_
 refine kX (v:=F) rfl rfl yd hR.p ?_
 by_cases U:(((n+i:Nat):Int):Int)<((((fT es n f).p).length:Int):Int)
 . have ab:i<f.length:=by omega
   obtain⟨e1,e2,e3,e4,e5,e6,e7,e8,e9,ae⟩:=hF.inner ab
   obtain⟨q1,q2,q3⟩:=hF.v8 ab
   have al:((List.range (n+f.length)).map (gH es n f)).length=n+f.length:=by simp
   refine gJ aa 14 fun V m=>?_
   refine iK (k:=(n+i)) (i:=((n+i:Nat):Int)) rfl rfl rfl yd gr hR.l o_ o_ e1 (jk (u:=(Za (((nL es n f i):Nat):Int))) rfl rfl yf rfl (yw m s_ d_ hR.l) e1 rfl (fK m 6 ?_))
   refine iK (k:=(n+i)) (i:=((n+i:Nat):Int)) rfl rfl rfl yd gr hR.r o_ o_ e2 (jk (u:=(Za (((nR es n f i):Nat):Int))) rfl rfl yf rfl (yw m s_ d_ hR.r) e2 rfl (fK m 5 ?_))
   refine iK (k:=(n+i)) (i:=((n+i:Nat):Int)) rfl rfl rfl nH ti2 hR.h o_ o_ e3 (jk (u:=(Za ((fJ es (fJ f i)).w))) rfl rfl sX rfl (yw m s_ d_ hR.h) e3 rfl (ja (pvs:=[(0,(Za ((fJ es (fJ f i)).w))),(1,qH)]) (v:=.agg #[(Za ((fJ es (fJ f i)).w)),qH]) rfl rfl (jq [(0,(Ze ((fJ es (fJ f i)).w))),(1,[qH])] K5 aco rfl ⟨rfl,rfl,rfl,rfl,trivial⟩ rfl) (fK m 3 ?_)))
   refine iK (k:=(n+i)) (i:=((n+i:Nat):Int)) rfl rfl rfl yd gr hR.s o_ o_ (gy o_) (jk (u:=(Za (((fJ (fT es n f).s (n+i)):Nat):Int))) rfl rfl yf rfl (yw m s_ d_ hR.s) (gy o_) rfl (ja (pvs:=[(0,(Za (((fJ ((List.range (n+f.length)).map (gH es n f)) (nL es n f i)):Nat):Int))),(1,(Za (((fJ ((List.range (n+f.length)).map (gH es n f)) (nR es n f i)):Nat):Int))),(2,(.agg #[(Za ((fJ es (fJ f i)).w)),qH])),(3,(Za (((fJ (fT es n f).s (n+i)):Nat):Int)))]) (v:=.agg (Mi (((fJ ((List.range (n+f.length)).map (gH es n f)) (nL es n f i)):Nat):Int) (((fJ ((List.range (n+f.length)).map (gH es n f)) (nR es n f i)):Nat):Int) ((fJ es (fJ f i)).w) (((fJ (fT es n f).s (n+i)):Nat):Int))) rfl rfl (jq [(0,(Ze (((fJ ((List.range (n+f.length)).map (gH es n f)) (nL es n f i)):Nat):Int))),(1,(Ze (((fJ ((List.range (n+f.length)).map (gH es n f)) (nR es n f i)):Nat):Int))),(2,[(Za ((fJ es (fJ f i)).w)),qH]),(3,(Ze (((fJ (fT es n f).s (n+i)):Nat):Int)))] F3 acp rfl ⟨rfl,rfl,rfl,rfl,rfl,rfl,rfl,rfl,trivial⟩ rfl) (jL (vs:=[(.agg (Mi (((fJ ((List.range (n+f.length)).map (gH es n f)) (nL es n f i)):Nat):Int) (((fJ ((List.range (n+f.length)).map (gH es n f)) (nR es n f i)):Nat):Int) ((fJ es (fJ f i)).w) (((fJ (fT es n f).s (n+i)):Nat):Int)))]) (cs:=(BV (((fJ ((List.range (n+f.length)).map (gH es n f)) (nL es n f i)):Nat):Int) (((fJ ((List.range (n+f.length)).map (gH es n f)) (nR es n f i)):Nat):Int) ((fJ es (fJ f i)).w) (((fJ (fT es n f).s (n+i)):Nat):Int))) rfl rfl Gv F3 rfl (by simp[Value.cells]) rfl rfl rfl m ?_)))
   intro z L W X q
   have q:St _ (Hi (row (.slice (some ⟨z,0,none⟩) 1 1) 178 5 1 ([(.int .i64 (((fJ ((List.range (n+f.length)).map (gH es n f)) (nL es n f i)):Nat):Int)),(.int .i64 (((fJ ((List.range (n+f.length)).map (gH es n f)) (nR es n f i)):Nat):Int)),(.int .i64 ((fJ es (fJ f i)).w)),(.int .i64 1),(.int .i64 (((fJ (fT es n f).s (n+i)):Nat):Int))])) mv (nM es n f i) j ((List.range (n+f.length)).map (gH es n f)) d n Z tr F T ts) L:=q
   refine lF (cf:=Mg.cells) (ys:=(nM es n f i)) (zs:=[(⟨(fJ ((List.range (n+f.length)).map (gH es n f)) (nL es n f i)),(fJ ((List.range (n+f.length)).map (gH es n f)) (nR es n f i)),(fJ es (fJ f i)).w,(fJ (fT es n f).s (n+i))⟩:Mg)]) (LL:=fun o=>(Hi (row (.slice (some ⟨z,0,none⟩) 1 1) 178 5 1 ([(.int .i64 (((fJ ((List.range (n+f.length)).map (gH es n f)) (nL es n f i)):Nat):Int)),(.int .i64 (((fJ ((List.range (n+f.length)).map (gH es n f)) (nR es n f i)):Nat):Int)),(.int .i64 ((fJ es (fJ f i)).w)),(.int .i64 1),(.int .i64 (((fJ (fT es n f).s (n+i)):Nat):Int))])) o ((nM es n f i)++[(⟨(fJ ((List.range (n+f.length)).map (gH es n f)) (nL es n f i)),(fJ ((List.range (n+f.length)).map (gH es n f)) (nR es n f i)),(fJ es (fJ f i)).w,(fJ (fT es n f).s (n+i))⟩:Mg)]) j ((List.range (n+f.length)).map (gH es n f)) d n Z tr F T ts)) 1 rfl rfl rfl Gv F3 rfl d_ q rfl (kO q (i:=0) rfl) (fun x hx=>zn.1 (show List.all _ _=true from rfl) x hx) (by simp only[ze,zh];omega) (by simp only[ze,zh];omega) f_ ?_
   intro o G A Y
   have A:St _ (Hi (row (.slice (some ⟨z,0,none⟩) 1 1) 178 5 1 ([(.int .i64 (((fJ ((List.range (n+f.length)).map (gH es n f)) (nL es n f i)):Nat):Int)),(.int .i64 (((fJ ((List.range (n+f.length)).map (gH es n f)) (nR es n f i)):Nat):Int)),(.int .i64 ((fJ es (fJ f i)).w)),(.int .i64 1),(.int .i64 (((fJ (fT es n f).s (n+i)):Nat):Int))])) o ((nM es n f i)++[(⟨(fJ ((List.range (n+f.length)).map (gH es n f)) (nL es n f i)),(fJ ((List.range (n+f.length)).map (gH es n f)) (nR es n f i)),(fJ es (fJ f i)).w,(fJ (fT es n f).s (n+i))⟩:Mg)]) j ((List.range (n+f.length)).map (gH es n f)) d n Z tr F T ts) G:=A
   have B:=yg [1,2,3] A
   refine fK B 6 ?_
   refine ar (a:=((n+i:Nat):Int)) (b:=1) (c:=((n+i:Nat):Int)+1) (e:=((n+(i+1):Nat):Int)) rfl rfl rfl rfl (by rw[oT o_];omega) (fQ B 2 ?_)
   refine tN (?_)
   have M:St _ [fL Mg.cells o 178 5 (nM es n f (i+1)),fL fR j 3 1 ((List.range (n+f.length)).map (gH es n f)),blk d 83 (Zr n Z tr F T ts)] G:=yv 0 B rfl (congrArg (fL Mg.cells o 178 5) (show _=(nM es n f (i+1)) by rw[iE (Qt (show nL es n f i<n+f.length by omega)),iE (Qt (show nR es n f i<n+f.length by omega)),q1,q2,abl];rfl))
   exact again ((i+1),o) ⟨rfl,rfl,rfl,rfl,rfl,gm (by first|rfl|omega),trivial⟩ (⟨M,o_⟩) (by show (f.length-(i+1):Nat)<f.length-i;omega)
 . refine fQ aa 17 ?_
   refine iC (v:=mv) (v' := Zc) Tryz.results87 rfl rfl ?_
   have N:=yg [0] aa
   have ad:i=f.length:=by omega
   have O:St _ [fL Mg.cells mv 178 5 (nM es n f f.length)] K:=yv 0 N rfl (congrArg (fL Mg.cells mv 178 5) (show _=(nM es n f f.length) by rw[ad]))
   exact⟨mv,rfl,nV O⟩
end
section
open Go Go.Sx
theorem aar{l:List (Value×List Nat)}{ps:List Int}{k:Nat}(a:∀ i,i<ps.length->(fJ l i).2=jF ps k i)(b:fJ ps k<0):∀ i,i<ps.length->(fJ l i).2=jF ps (k+1) i :=
 fun i hi=>by rw[aaq b];exact a i hi
theorem aat{l:List (Value×List Nat)}{ps:List Int}{k p:Nat}{v:Value}(c:l.length=ps.length)(a:∀ i,i<ps.length->(fJ l i).2=jF ps k i)(hp:p<ps.length)(b:fJ ps k=(p:Int)) :
 ∀ i,i<ps.length->(fJ (fN l p (fun _=>(v,(fJ l p).2++[k]))) i).2=jF ps (k+1) i:=fun i hi=>by
 rw[iS o_,Qd]
 split
 . rename_i h;subst h;rw[if_pos b];show (fJ l p).2++[k]=_;rw[a p hp]
 . rename_i h;rw[if_neg o_];exact a i hi
theorem aas{ps:List Int}{n:Nat}:∀ i,i<ps.length->(fJ (List.replicate n ((.slice none 0 0,[]):Value×List Nat)) i).2=jF ps 0 i:=fun i hi=>by
 have h:jF ps 0 i=[]:=by simp[jF]
 rw[h,fJ,sj]
 split<;>rfl
theorem Wc(v:Value)(ps:List Int)(w:World)(hv:iw 1 fV (fun _=>True) w v ps)(hP:j3 ps)(hn:ps.length<=8192) :
 CR ya 248 #[v] w (fun r w' => ∃ (dv:Value),r = .tuple #[dv,.bool true]/\fZ (gj []) w w' (oJ dv ((List.range ps.length).map (gp ps)))):=by
 refine en Tryz.func248 Tryz.ntmps248 ?_
 have aZ:=yt w
 refine fS aZ 9 ?_
 refine kX (v:=v) rfl rfl yd hv (fK aZ 6 ?_)
 refine qU (cf:=kG) (z0:=((.slice none 0 0,[]):Value×List Nat)) (m:=ps.length) (c:=ps.length) rfl rfl rfl Tryz.underlying287 j6 rfl f_ d_ (zk _) o_ o_ aZ ?_
 intro y K aj ak L
 have o:St _ [fL kG (.slice (some ⟨y,0,none⟩) ps.length ps.length) 35 1 (List.replicate ps.length ((.slice none 0 0,[]):Value×List Nat))] K:=lU (cf:=kG) L (i:=0) rfl f_ (zk _) (by simp only[maxLen];omega)
 generalize (Value.slice (some ⟨y,0,none⟩) ps.length ps.length)=b at o ⊢
 refine fK o 6 ?_
 refine qU (cf:=fR) (z0:=0) (m:=ps.length) (c:=ps.length) rfl rfl rfl yd gr rfl f_ d_ (zk _) o_ o_ o ?_
 intro z q al am M
 have d:St _ [fL fR (.slice (some ⟨z,0,none⟩) ps.length ps.length) 3 1 (List.replicate ps.length 0),fL kG b 35 1 (List.replicate ps.length ((.slice none 0 0,[]):Value×List Nat))] q:=lU (cf:=fR) M (i:=0) rfl f_ (zk _) (by simp only[maxLen];omega)
 generalize (Value.slice (some ⟨z,0,none⟩) ps.length ps.length)=a at d ⊢
 refine fK d 12 ?_
 refine kX (v:=v) rfl rfl yd hv ?_
 have N:St _ [fL fR Zg 3 1 (nQ ps 0),fL fR a 3 1 (List.replicate ps.length 0),fL kG b 35 1 (List.replicate ps.length ((.slice none 0 0,[]):Value×List Nat))] q:=oU d 3 1
 have O:St _ [(xN 3 (List.replicate ps.length ((.slice none 0 0,[]):Value×List Nat))),fL fR Zg 3 1 (nQ ps 0),fL fR a 3 1 (List.replicate ps.length 0),fL kG b 35 1 (List.replicate ps.length ((.slice none 0 0,[]):Value×List Nat))] q:=St.Qe ps.length N
 have P:=yg [3,0,2,1] O
 refine gF d 4 ?_
 refine lp (α:=Nat×List (Value×List Nat)×Value) (fun(k,l,rv)=>[(4,(Za ps.length)),(5,b),(6,a),(7,rv),(20,v),(21,(Za ps.length)),(22,(Za k))]) (fun(k,l,rv) w1=>St [(w,[])] [fL kG b 35 1 l,(xN 3 l),fL fR a 3 1 (List.replicate ps.length 0),fL fR rv 3 1 (nQ ps k)] w1/\l.length=ps.length/\(∀ i,i<ps.length->(fJ l i).2=jF ps k i)/\k<=ps.length) (fun(k,l,rv)=>ps.length-k) (0,(List.replicate ps.length (.slice none 0 0,[])),Zg) ⟨rfl,rfl,rfl,rfl,rfl,rfl,gm rO,trivial⟩ (⟨P,s_,aas,o_⟩) ?_
 rintro⟨k,l,rv⟩ an ao ⟨aS,aY,hl,hk⟩
 have bk:=adu (ps:=ps) (k:=k)
 refine fS aS 2 ?_
 by_cases ap:((k:Int):Int)<((ps.length:Int):Int)
 . obtain⟨s,A⟩:=pK (show k<ps.length by omega)
   refine fK aS 21 ?_
   by_cases aq:(s:Int)<(0:Int)
   . have a4:=iE A
     refine fK aS 7 ?_
     refine jL (vs:=(Ze k)) (cs:=(Ze k)) rfl rfl yd gr rfl (by simp[Value.cells]) rfl rfl rfl aS (fun Q au av aw B=>lF (cf:=fR) (ys:=(nQ ps k)) (zs:=[k]) (LL:=fun g=>[ig .i64 (Z3 Q) 3 ([(k:Int)]),fL kG b 35 1 l,(xN 3 l),fL fR a 3 1 (List.replicate ps.length 0),fL fR g 3 1 ((nQ ps k)++[k])]) 4 rfl rfl rfl yd gr rfl d_ B rfl (kO B (i:=0) rfl) (fun x hx=>zn.1 (show List.all _ _=true from rfl) x hx) (by simp only[ze,zh];omega) (by simp only[ze,zh];omega) f_ ?_)
     intro g ax R ay
     have C:=yg [1,2,3,4] R
     refine fQ C 8 ?_
     refine tN (?_)
     have S:=yv 3 C rfl (congrArg (fL fR g 3 1) ((adx o_).symm))
     exact again ((k+1),l,g) ⟨rfl,rfl,rfl,rfl,rfl,rfl,gm rO,trivial⟩ (⟨S,aY,aar hl o_,o_⟩) (by show (ps.length-(k+1):Nat)<ps.length-k;omega)
   . obtain⟨p,ba⟩:∃ p:Nat,s=(p:Int):=⟨s.toNat,o_⟩
     refine fK aS 1 ?_
     subst ba
     have a4:=iE A
     have a3:p<ps.length:=by have:=hP.up k o_;omega
     have a1:=Qc (ps:=ps) (k:=k) (i:=p)
     rw[<-hl p a3]at a1
     have U:=yg [1,0,2,3] aS
     have D:=St.Co p U o_
     refine fK D 11 ?_
     refine jL (vs:=(Ze k)) (cs:=(Ze k)) rfl rfl yd gr rfl (by simp[Value.cells]) rfl rfl rfl D (fun V az aA aB E=>lF (cf:=fR) (ys:=(fJ l p).2) (zs:=[k]) (LL:=fun h=>(ML V ([(k:Int)]) h (((fJ l p).2)++[k]) (xN 3 (l.eraseIdx p)) (fL kG b 35 1 l) a (List.replicate ps.length 0) rv (nQ ps k))) 1 rfl rfl rfl yd gr rfl d_ E rfl (kO E (i:=0) rfl) (fun x hx=>zn.1 (show List.all _ _=true from rfl) x hx) (by simp only[ze,zh];omega) (by simp only[ze,zh];omega) f_ ?_)
     intro h aC W aD
     have n:=yg [1,2,3,4,5] W
     refine fK n 1 ?_
     refine iO (f:=(fun _=>(h,(fJ l p).2++[k]))) 2 n (fun aE G=>?_) (hvs:=(cells_one (yu n (i:=0) rfl))) (h1:=(ia (yu n (i:=0) rfl) kT))
     refine fQ G 7 ?_
     refine tN (?_)
     have X:=St.Qf G o_
     have Y:=yg [1,0,2,3] X
     have Z:=yv 3 Y rfl (congrArg (fL fR rv 3 1) ((adw o_).symm))
     exact again ((k+1),fN l p (fun _=>(h,(fJ l p).2++[k])),rv) ⟨rfl,rfl,rfl,rfl,rfl,rfl,gm rO,trivial⟩ (⟨Z,(by rw[gC];exact aY),aat aY hl a3 a4,o_⟩) (by show (ps.length-(k+1):Nat)<ps.length-k;omega)
 . have a8:k=ps.length:=by omega
   refine gF aS 17 ?_
   subst a8
   refine lp (α:=Nat×Value×List Nat×List Nat) (fun(i,ov,od,dp)=>[(4,(Za ps.length)),(5,b),(6,a),(7,ov),(10,(Za i))]) (fun(i,ov,od,dp) w1=>St [(w,[])] [fL kG b 35 1 l,(xN 3 l),fL fR a 3 1 dp,fL fR ov 3 1 od] w1/\Bf ps i 0 od dp) (fun(i,ov,od,dp)=>ps.length-i) (0,rv,(nQ ps ps.length),(List.replicate ps.length 0)) ⟨rfl,rfl,rfl,rfl,gm rO,trivial⟩ (⟨aS,Bf.start⟩) ?_
   rintro⟨i,ov,od,dp⟩ aF aG ⟨aR,hB⟩
   have bi:=hB.J7
   have be:=hB.len
   refine fS aR 5 ?_
   refine iL (m:=od.length) 3 rfl rfl yd aR rfl ?_
   by_cases aH:((i:Int):Int)<((od.length:Int):Int)
   . have hi:i<od.length:=by omega
     have a9:=zd (gy hi)
     have a2:=hB.lt _ a9
     have aa:=yg [1,0,2,3] aR
     have ab:=St.Co (fJ od i) aa o_
     have t:=yv 0 ab rfl (congrArg (fL fR ((fJ l (fJ od i)).1) 3 1) (hl _ a2))
     have a1:=Qc (ps:=ps) (k:=ps.length) (i:=fJ od i)
     refine fK aR 23 ?_
     refine iL (m:=(jF ps ps.length (fJ od i)).length) 0 rfl rfl yd t rfl (gF t 4 ?_)
     refine lp (α:=Nat×Value×List Nat×List Nat) (fun(j,aW,T,F)=>[(4,(Za ps.length)),(5,b),(6,a),(7,aW),(10,(Za i)),(11,(Za (((fJ od i):Nat):Int))),(57,((fJ l (fJ od i)).1)),(58,(Za ((jF ps ps.length (fJ od i)).length:Int))),(59,(Za j))]) (fun(j,aW,T,F) w1=>St [(w,[])] [fL fR ((fJ l (fJ od i)).1) 3 1 (jF ps ps.length (fJ od i)),(xN 3 (l.eraseIdx (fJ od i))),fL kG b 35 1 l,fL fR a 3 1 F,fL fR aW 3 1 T] w1/\Bf ps i j T F/\i<T.length/\fJ T i=fJ od i/\j<=(jF ps ps.length (fJ od i)).length) (fun(j,aW,T,F)=>(jF ps ps.length (fJ od i)).length-j) (0,ov,od,dp) ⟨rfl,rfl,rfl,rfl,rfl,rfl,rfl,rfl,gm rO,trivial⟩ (⟨t,hB,hi,rfl,o_⟩) ?_
     rintro⟨j,aW,T,F⟩ aI aJ ⟨aV,aT,aU,aX,hj⟩
     have bj:=aT.J7
     have bf:=aT.len
     refine fS aV 2 ?_
     by_cases aK:((j:Int):Int)<(((jF ps ps.length (fJ od i)).length:Int):Int)
     . have a7:j<(jF ps ps.length (fJ od i)).length:=by omega
       have a0:(jF ps ps.length (fJ T i))[j]? = some (fJ (jF ps ps.length (fJ od i)) j):=by rw[aX];exact gy a7
       obtain⟨bb,bc,bd⟩:=aT.new aU a0
       have bg:fJ F (fJ od i)<=ps.length:=by rw[<-aX,aT.dep _ (zd (gy aU))];exact kS Ik (Nat.sub_le _ _)
       refine fK aV 24 ?_
       refine ar (e:=(((fJ F (fJ od i))+1:Nat):Int)) rfl rfl rfl rfl iT (fK aV 1 ?_)
       refine iO (f:=(fun _=>((fJ F (fJ od i))+1))) 3 aV (fun aL H=>?_)
       refine fK H 5 ?_
       refine jL (vs:=(Ze (((fJ (jF ps ps.length (fJ od i)) j):Nat):Int))) (cs:=(Ze (((fJ (jF ps ps.length (fJ od i)) j):Nat):Int))) rfl rfl yd gr rfl (by simp[Value.cells]) rfl rfl rfl H (fun ac aM aN aO I=>lF (cf:=fR) (ys:=T) (zs:=[(fJ (jF ps ps.length (fJ od i)) j)]) (LL:=fun u=>(ML ac ([(((fJ (jF ps ps.length (fJ od i)) j):Nat):Int)]) ((fJ l (fJ od i)).1) (jF ps ps.length (fJ od i)) (xN 3 (l.eraseIdx (fJ od i))) (fL kG b 35 1 l) a (fN F (fJ (jF ps ps.length (fJ od i)) j) (fun _=>((fJ F (fJ od i))+1))) u (T++[(fJ (jF ps ps.length (fJ od i)) j)]))) 5 rfl rfl rfl yd gr rfl d_ I rfl (kO I (i:=0) rfl) (fun x hx=>zn.1 (show List.all _ _=true from rfl) x hx) (by simp only[ze,zh];omega) (by simp only[ze,zh];omega) f_ ?_)
       intro u aP ad aQ
       have J:=yg [1,2,3,4,5] ad
       refine fQ J 8 ?_
       refine tN (?_)
       exact again ((j+1),u,T++[(fJ (jF ps ps.length (fJ od i)) j)],fN F (fJ (jF ps ps.length (fJ od i)) j) (fun _=>((fJ F (fJ od i))+1))) ⟨rfl,rfl,rfl,rfl,rfl,rfl,rfl,rfl,gm rO,trivial⟩ (⟨J,by have h9:=aT.v8 hP aU a0;rw[aX]at h9;exact h9,by rw[zq];omega,(iE (by rw[rm aU];exact gy aU)).trans aX,o_⟩) (by show ((jF ps ps.length (fJ od i)).length-(j+1):Nat)<(jF ps ps.length (fJ od i)).length-j;omega)
     . refine fQ aV 16 ?_
       refine tN (?_)
       have ae:=yv 0 aV rfl (congrArg (fL fR ((fJ l (fJ od i)).1) 3 1) ((hl _ a2).symm))
       have af:=St.Jr ae o_
       have ag:=yg [1,0,2,3] af
       exact again ((i+1),aW,T,F) ⟨rfl,rfl,rfl,rfl,gm rO,trivial⟩ (⟨ag,aT.next aU (by rw[aX];omega)⟩) (by show (ps.length-(i+1):Nat)<ps.length-i;omega)
   . have a6:i=od.length:=by have:=hB.Jd;omega
     refine fK aR 1 ?_
     subst a6
     obtain⟨bh,a5⟩:=hB.fin hP
     refine fK aR 12 ?_
     refine iL (m:=od.length) 3 rfl rfl yd aR rfl (fK aR 1 ?_)
     refine cmp rfl rfl rfl (oM o_) (fQ aR 5 ?_)
     refine iC (v:=a) (v' := Zf) Tryz.results248 rfl rfl ?_
     have ah:=yg [2] aR
     have ai:=yv 0 ah rfl (congrArg (fL fR a 3 1) (a5))
     exact⟨a,rfl,nV ai⟩
end
end Go.Proofs.YtoceanggliccgaaGreatDoor
