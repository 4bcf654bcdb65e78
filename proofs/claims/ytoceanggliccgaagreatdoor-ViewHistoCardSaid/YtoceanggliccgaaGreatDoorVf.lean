/- What the functions that the statements reach do: walks through the code of the program and of the references, one theorem a function; under what is said of its arguments. -/
import Derived.Test.YtoceanggliccgaaGreatDoorFb
import Derived.Test.YtoceanggliccgaaGreatDoorVa
import Derived.Test.YtoceanggliccgaaGreatDoorFc
import Derived.Test.YtoceanggliccgaaGreatDoorVe
import Derived.Test.YtoceanggliccgaaGreatDoorFd
import Derived.Shelf.SlSortCmp.Whole1
set_option linter.unusedVariables false
set_option linter.unusedSimpArgs false
set_option maxRecDepth 100000
set_option maxHeartbeats 4000000
namespace Go.Proofs.YtoceanggliccgaaGreatDoor
section
open Go Go.Sx
theorem U7(v:Value)(xs:List Ge)(w:World)(hv:gU 3 Ge.cells (fun _=>True) w v xs)(m:xs.length<=1000000) :
 CR ya 33 #[v] w (fun r w' => oC 3 Ge.cells w w' r 91 xs/\gw [] w w'):=by
 refine en Tryz.func33 Tryz.ntmps33 ?_
 have l:=yu w
 refine fR l 9 ?_
 refine Au (v:=v) rfl rfl rfl pM hv (gE l 2 ?_)
 cases e:(uG v:Bool)
 . skip
   refine fR l 5 ?_
   refine jF (vs:=[]) (cs:=[]) rfl rfl pM yH rfl (by intro v hv;simp at hv) rfl rfl rfl l ?_
   intro f g h i c
   have d:=c
   refine fK c 1 ?_
   refine lE (cf:=Ge.cells) (ys:=[]) (zs:=xs) (LL:=fun a=>[fL Ge.cells a 91 3 xs]) 0 rfl rfl rfl pM yH rfl d_ d rfl (gU.src (yx d s_ d_ hv) f_) (vJ f_ _) (by simp only[zh];omega) (by simp only[zh];omega) f_ (fun a j b k=>fQ b 4 ?_)
   refine gq (v:=a) Tryz.results33 rfl ?_
   exact⟨By b s_,b.gy s_⟩
 . skip
   refine iH l 8 ?_
   refine gq (v:=Zg) Tryz.results33 rfl ?_
   obtain rfl:=AQ e hv
   exact⟨oC.AP, l.gy s_⟩
def Gr.R(a n:Nat)(r:Gr)(es:List Ge):fT:=gj (G4 a r.ev r.sv r.lv es (Bg n es) (lsF n es))
abbrev RJ:List (List Nat):=[[],[],[1],[1,2],[],[4],[4,5],[4,5,6],[0,1,2,3,4,5,6,7],[0,1,2,3,4,5,6,7,8],[0,1,2,3,4,5,6,7,8,9]]
theorem YE(v:Value)(n:Nat)(es:List Ge)(w:World)(hO:Own (BU v es) w)(hg:pS n es)(hn:n<=65536)(hm:es.length<=65536) :
 CR ya 32 #[(Za n),v] w (fun r w' => ∃ (gb:Nat) (q:Gr),r = .pointer (some ⟨gb,0,none⟩)/\fZ (BU v es) w w' (Gr.R gb n q es)):=by
 refine en Tryz.func32 Tryz.ntmps32 ?_
 have a3:=yt hO
 refine qg a3 6 ?_
 have y:AK RJ [3,7,9] [(7,fun d=>blk d 3 ((List.replicate (2*es.length) 0).flatMap fV)),(3,fun j=>blk j 3 ((List.replicate (n+1) 0).flatMap fV))] 9:=JC (is:=[7,3]) rfl d_
 refine Kf mixed RJ [3,7,9] [(7,fun d=>blk d 3 ((List.replicate (2*es.length) 0).flatMap fV)),(3,fun j=>blk j 3 ((List.replicate (n+1) 0).flatMap fV))] 9 k_ rfl [fun g=>v,fun g=>(Za n),fun g=>(Za ((n+1:Nat):Int)),fun g=>(Zd (g 3) (n+1)),fun g=>v,fun g=>(Za es.length),fun g=>(Za ((2*es.length:Nat):Int)),fun g=>(Zd (g 7) (2*es.length)),fun g=>(Hs v (g 3) (n+1) (g 7) (2*es.length)),fun g=>(Zb (g 9)),fun g=>(Zb (g 9))] (fun g=>[blk (g 9) 95 (LY v (g 3) (n+1) (g 7) (2*es.length)),blk (g 7) 3 ((List.replicate (2*es.length) 0).flatMap fV),blk (g 3) 3 ((List.replicate (n+1) 0).flatMap fV),fL Ge.cells v 91 3 es]) (fun g=>(5,(Zb (g 9))) :: (23,(Zb (g 9))) :: (22,(Hs v (g 3) (n+1) (g 7) (2*es.length))) :: (21,(Zd (g 7) (2*es.length))) :: (20,(Za ((2*es.length:Nat):Int))) :: (19,(Za es.length)) :: (18,v) :: (17,(Zd (g 3) (n+1))) :: (16,(Za ((n+1:Nat):Int))) :: (15,(Za n)) :: (14,v) :: _) a3 ?_ f_ ?_
 . skip
   refine mC rfl (fun g _ _=>qv rfl rfl (kC (v:=v) rfl)) (mC rfl (fun g _ _=>qv rfl rfl (kC (v:=(Za n)) rfl)) (mC rfl (fun g _ _=>qv rfl rfl (B4 (e:=((n+1:Nat):Int)) rfl rfl rfl iT)) (sB y (R:=fun j=>blk j 3 ((List.replicate (n+1) 0).flatMap fV)) (val:=fun j=>(Zd j (n+1))) s_ (fun _ _=>rfl) (fun g wq L hM N kM=>p7 (cf:=fV) (z0:=0) (m:=(n+1)) (c:=(n+1)) rfl rfl rfl yd gr rfl f_ d_ (zj _) o_ o_ hM (fun a7 _ h=>kM a7 _ h)) (fun _ _=>j7 rfl sT) (mC rfl (fun g _ _=>qv rfl rfl (kC (v:=v) rfl)) (mC rfl (fun g _ _=>qv rfl rfl (E3 (v:=v) rfl pM (y0 (cf:=Ge.cells) a3 0 rfl))) (mC rfl (fun g _ _=>qv rfl rfl (B4 (e:=((2*es.length:Nat):Int)) rfl rfl rfl iT)) (sB y (R:=fun d=>blk d 3 ((List.replicate (2*es.length) 0).flatMap fV)) (val:=fun d=>(Zd d (2*es.length))) s_ (fun _ _=>rfl) (fun g wq L hM N kM=>p7 (cf:=fV) (z0:=0) (m:=(2*es.length)) (c:=(2*es.length)) rfl rfl rfl yd gr rfl f_ d_ (zj _) o_ o_ hM (fun a8 _ h=>kM a8 _ h)) (fun _ _=>j7 rfl sT) ?_)))))))
   refine mC rfl (fun g _ _=>qv rfl rfl (Ag (pvs:=[(1,v),(2,(Zd (g 3) (n+1))),(3,(Zd (g 7) (2*es.length)))]) (v:=.agg #[Zt,v,(Zd (g 3) (n+1)),(Zd (g 7) (2*es.length))]) rfl (jk [(1,[v]),(2,(o5 (g 3) (n+1))),(3,(o5 (g 7) (2*es.length)))] Ti acv rfl ⟨rfl,(cells_one (yw a3 (i:=0) rfl)),rfl,rfl,rfl,rfl,trivial⟩ rfl))) (JQ y (val:=fun b=>(Zb b)) (fun _ _=>rfl) (fun g wq hM N kM=>E8 (v:=(Hs v (g 3) (n+1) (g 7) (2*es.length))) (cs:=(LY v (g 3) (n+1) (g 7) (2*es.length))) rfl rfl rfl hM (fun a9 _ h=>kM a9 _ h)) (fun _ _=>j7 rfl sT) (mC rfl (fun g _ _=>qv rfl rfl (sW (v:=(Zb (g 9))) rfl)) ?_))
   exact JR
 intro A K p
 generalize A 3=j at p ⊢
 generalize A 7=d at p ⊢
 generalize A 9=b at p ⊢
 have M:St _ [blk b 95 [(.pointer none),v,(.slice (some ⟨j,0,none⟩) (n+1) (n+1)),(.slice (some ⟨d,0,none⟩) (2*es.length) (2*es.length))],blk d 3 ((List.replicate (2*es.length) 0).flatMap fV),fL fV (.slice (some ⟨j,0,none⟩) (n+1) (n+1)) 3 1 (List.replicate (n+1) 0),fL Ge.cells v 91 3 es] K:=lR (cf:=fV) p (i:=2) rfl f_ (zj _) (by simp only[maxLen];omega)
 generalize (Value.slice (some ⟨j,0,none⟩) (n+1) (n+1))=a at M ⊢
 have O:St _ [blk b 95 [(.pointer none),v,a,(.slice (some ⟨d,0,none⟩) (2*es.length) (2*es.length))],fL fV (.slice (some ⟨d,0,none⟩) (2*es.length) (2*es.length)) 3 1 (List.replicate (2*es.length) 0),fL fV a 3 1 (List.replicate (n+1) 0),fL Ge.cells v 91 3 es] K:=lR (cf:=fV) M (i:=1) rfl f_ (zj _) (by simp only[maxLen];omega)
 generalize (Value.slice (some ⟨d,0,none⟩) (2*es.length) (2*es.length))=l at O ⊢
 refine Kq tt none O 14 fun av B=>?_
 refine jb (m:=es.length) 3 rfl rfl pM B rfl ?_
 have U:=yg [0,3,2,1] B
 have V:=yv 2 U rfl (congrArg (fL fV a 3 1) (adU))
 refine gE B 4 ?_
 refine lp (α:=Nat) (fun i=>[(0,(Za n)),(1,v),(4,Zt),(5,(Zb b)),(28,v),(29,(Za es.length)),(30,(Za i))]) (fun i w1=>St [(w,(BU v es).gG)] (G4 b v a l es (nJ n (iV (es.take i))) (List.replicate (2*es.length) 0)) w1/\i<=es.length) (fun i=>es.length-i) 0 ⟨rfl,rfl,rfl,rfl,rfl,rfl,gp rO,trivial⟩ (⟨V,o_⟩) ?_
 rintro i aw ax ⟨aZ,hi⟩
 have bj:(iV (es.take i)).length<=2*i:=by rw[xo,zy];omega
 have bp:=wo (n:=n) (E:=iV (es.take i))
 refine fR aZ 2 ?_
 by_cases ay:((i:Int):Int)<((es.length:Int):Int)
 . have a5:i<es.length:=by omega
   have a4:=hg.at a5
   have bn:=Sp (E:=iV (es.take i)) (show (fJ es i).u+1<=n by omega)
   refine fK aZ 13 ?_
   refine iM aZ (fun az aA aB aC W=>?_)
   refine gI W 11 fun aD C=>?_
   refine ar (e:=((((fJ es i).u)+1:Nat):Int)) rfl rfl rfl rfl iT (fK C 2 ?_)
   refine ar (e:=(((fJ (nJ n (iV (es.take i))) (((fJ es i).u)+1))+1:Nat):Int)) rfl rfl rfl rfl iT (fK C 1 ?_)
   refine iK (f:=(fun _=>((fJ (nJ n (iV (es.take i))) (((fJ es i).u)+1))+1))) 3 C (fun aE P=>?_)
   have X:=yv 3 P rfl (congrArg (fL fV a 3 1) (Sn a4.1))
   have ba:=Sp (E:=iV (es.take i)++[(fJ es i).u]) (show (fJ es i).v+1<=n by omega)
   refine gE P 2 ?_
   rw[zq,LJ]at ba
   have bs:=wo (n:=n) (E:=iV (es.take i)++[(fJ es i).u])
   refine nI X 7 fun aF D=>?_
   refine ar (e:=((((fJ es i).v)+1:Nat):Int)) rfl rfl rfl rfl iT (fK D 2 ?_)
   refine ar (e:=(((fJ (nJ n (iV (es.take i)++[(fJ es i).u])) (((fJ es i).v)+1))+1:Nat):Int)) rfl rfl rfl rfl iT (fK D 1 ?_)
   refine iK (f:=(fun _=>((fJ (nJ n (iV (es.take i)++[(fJ es i).u])) (((fJ es i).v)+1))+1))) 3 D (fun aG Q=>?_)
   refine fQ Q 7 ?_
   refine tN (?_)
   have Y:=yg [1,2,3,4] Q
   have Z:=yv 2 Y rfl (congrArg (fL fV a 3 1) ((Sn a4.2.1).trans (congrArg (nJ n) (show iV (es.take i)++[(fJ es i).u]++[(fJ es i).v]=iV (es.take (i+1)) by rw[V2 a5];simp))))
   exact again (i+1) ⟨rfl,rfl,rfl,rfl,rfl,rfl,gp rO,trivial⟩ (⟨Z,o_⟩) (by show (es.length-(i+1):Nat)<es.length-i;omega)
 . have bc:i=es.length:=by omega
   have bi:es.take i=es:=by rw[bc,tU]
   have aa:=yv 2 aZ rfl (congrArg (fL fV a 3 1) ((congrArg (fun z=>nJ n (iV z)) bi).trans adW))
   refine gE aZ 18 ?_
   refine lp (α:=Nat) (fun k=>[(0,(Za n)),(1,v),(4,Zt),(5,(Zb b)),(57,(Za n)),(58,(Za k))]) (fun k w1=>St [(w,(BU v es).gG)] (G4 b v a l es (mD n (iV es) k) (List.replicate (2*es.length) 0)) w1/\k<=n) (fun k=>n-k) 0 ⟨rfl,rfl,rfl,rfl,rfl,gp rO,trivial⟩ (⟨aa,o_⟩) ?_
   rintro k aH ab ⟨a0,hk⟩
   have bk:=xo es
   have bt:=yA (n:=n) (k:=k) (E:=iV es)
   refine fR a0 2 ?_
   by_cases aI:((k:Int):Int)<((n:Int):Int)
   . have bd:k<n:=by omega
     have bm:=Sq (E:=iV es) (k:=k) (show k+1<=n by omega)
     have bl:=Sq (E:=iV es) (k:=k) (show k<=n by omega)
     refine gI a0 21 fun aJ G=>?_
     refine ar (e:=((k+1:Nat):Int)) rfl rfl rfl rfl iT (fK G 9 ?_)
     refine ar (e:=(((fJ (mD n (iV es) k) (k+1))+(fJ (mD n (iV es) k) k):Nat):Int)) rfl rfl rfl rfl iT (fK G 1 ?_)
     refine iK (f:=(fun _=>((fJ (mD n (iV es) k) (k+1))+(fJ (mD n (iV es) k) k)))) 2 G (fun aK S=>?_)
     refine fQ S 7 ?_
     refine tN (?_)
     have ac:=yv 2 S rfl (congrArg (fL fV a 3 1) (adV bd))
     exact again (k+1) ⟨rfl,rfl,rfl,rfl,rfl,gp rO,trivial⟩ (⟨ac,o_⟩) (by show (n-(k+1):Nat)<n-k;omega)
   . refine fK a0 16 ?_
     refine cl Cj (Ca a (mD n (iV es) k) ab (y0 a0 2 rfl).any (by first|omega|(simp;omega))) ?_
     rintro o ad hz
     have s:St _ [fL fV o 3 1 (mD n (iV es) k),blk b 95 [(Zb b),v,a,l],fL Ge.cells v 91 3 es,fL fV a 3 1 (mD n (iV es) k),fL fV l 3 1 (List.replicate (2*es.length) 0)] ad:=qV a0 hz.2 hz.1
     refine fK s 7 ?_
     refine jb (m:=es.length) 2 rfl rfl pM s rfl ?_
     have ae:=yg [1,2,3,4,0] s
     have a6:k=n:=by omega
     have af:=yv 2 ae rfl (congrArg (fL fV a 3 1) (congrArg (mD n (iV es)) a6))
     have ag:=yv 4 af rfl (congrArg (fL fV o 3 1) ((congrArg (mD n (iV es)) a6).trans abJ))
     have ah:=yv 3 ag rfl (congrArg (fL fV l 3 1) (congrArg (fun z=>List.replicate z 0) (xo es).symm))
     refine gE s 4 ?_
     refine lp (α:=Nat) (fun F=>[(0,(Za n)),(4,Zt),(5,(Zb b)),(9,o),(84,v),(85,(Za es.length)),(86,(Za F))]) (fun F w1=>St [(w,(BU v es).gG)] [blk b 95 [(Zb b),v,a,l],fL Ge.cells v 91 3 es,fL fV a 3 1 (Bg n es),fL fV l 3 1 (qL n (iV es) (2*F)),fL fV o 3 1 (og n (iV es) (2*F))] w1/\F<=es.length) (fun F=>es.length-F) 0 ⟨rfl,rfl,rfl,rfl,rfl,rfl,gp rO,trivial⟩ (⟨ah,o_⟩) ?_
     rintro F aL aM ⟨a1,bo⟩
     have bf:=Jo (n:=n) (E:=iV es) (2*F)
     have br:=xM (n:=n) (E:=iV es) (k:=2*F)
     rw[xo]at bf
     refine fR a1 2 ?_
     by_cases aN:((F:Int):Int)<((es.length:Int):Int)
     . have T:F<es.length:=by omega
       have a2:=hg.at T
       refine fK a1 14 ?_
       refine iM a1 (fun aO aP aQ aR ai=>?_)
       refine gI ai 10 fun aS t=>?_
       refine i7 (pvs:=[(0,(Za ((fJ es F).u:Int))),(1,(Za ((fJ es F).v:Int)))]) (v:=.agg (Zx ((fJ es F).u:Int) ((fJ es F).v:Int))) rfl rfl (uk [(0,(Ze ((fJ es F).u:Int))),(1,(Ze ((fJ es F).v:Int)))] FM yq gr rfl ⟨rfl,rfl,rfl,rfl,trivial⟩ rfl s_) (gE t 4 ?_)
       refine qi 3 (iz (fR t 13 ?_))
       refine mw (i:=0) rfl rfl rfl yq ye rfl gr d_ rfl ?_
       have bh:=Q3 a2.1 (Aj T).1
       refine gE t 4 ?_
       rw[xo]at bh
       refine nI t 11 fun aT aj=>?_
       refine iK (f:=(fun _=>F)) 4 aj (fun aU H=>?_)
       refine fK H 7 ?_
       refine ar (e:=(((fJ (og n (iV es) (2*F)) ((fJ es F).u))+1:Nat):Int)) rfl rfl rfl rfl iT (fK H 1 ?_)
       refine iK (f:=(fun _=>((fJ (og n (iV es) (2*F)) ((fJ es F).u))+1))) 5 H (fun aV x=>?_)
       refine fQ x 7 ?_
       refine tN (?_)
       refine iz (fR x 13 ?_)
       refine mw (i:=1) rfl rfl rfl yq ye rfl gr d_ rfl ?_
       have ak:=yv 5 x rfl (congrArg (fL fV o 3 1) (Q4 a2.1 (Aj T).1))
       have al:=yv 4 ak rfl (congrArg (fL fV l 3 1) ((aaS T).symm))
       have bg:=Q3 a2.2.1 (Aj T).2
       refine gE x 4 ?_
       rw[xo]at bg
       have be:=Jo (n:=n) (E:=iV es) (2*F+1)
       rw[xo]at be
       have bq:=xM (n:=n) (E:=iV es) (k:=2*F+1)
       refine nI al 11 fun aW am=>?_
       refine iK (f:=(fun _=>F)) 4 am (fun aX I=>?_)
       refine fK I 7 ?_
       refine ar (e:=(((fJ (og n (iV es) (2*F+1)) ((fJ es F).v))+1:Nat):Int)) rfl rfl rfl rfl iT (fK I 1 ?_)
       refine iK (f:=(fun _=>((fJ (og n (iV es) (2*F+1)) ((fJ es F).v))+1))) 5 I (fun aY J=>?_)
       refine fQ J 7 ?_
       refine tN (?_)
       refine iz (iH J 17 ?_)
       refine tN (?_)
       have an:=yg [1,2,3,4,5] J
       have ao:=yv 4 an rfl (congrArg (fL fV o 3 1) (Q4 a2.2.1 (Aj T).2))
       have ap:=yv 3 ao rfl (congrArg (fL fV l 3 1) ((aaT T).symm))
       exact again (F+1) ⟨rfl,rfl,rfl,rfl,rfl,rfl,gp rO,trivial⟩ (⟨ap,o_⟩) (by show (es.length-(F+1):Nat)<es.length-F;omega)
     . refine fQ a1 17 ?_
       refine gq (v:=(Zb b)) Tryz.results32 rfl ?_
       have aq:=yg [0,1,2,3] a1
       have bb:F=es.length:=by omega
       have au:=yv 3 aq rfl (congrArg (fL fV l 3 1) (congrArg (fun z=>qL n (iV es) (2*z)) bb))
       exact⟨b,(⟨v,a,l⟩:Gr),rfl,yj (yc [_,_,_,_] _ au)⟩
theorem YL(v:Value)(n:Nat)(es:List Ge)(w:World)(hv:gU 3 Ge.cells (fun _=>True) w v es)(G:pS n es)(N:n<=4096)(hm:es.length<=16384) :
 CR ya 8 #[(Za n),v] w (fun r w' => ∃ (F:Nat) (q:Gr),r = .tuple (Zy F)/\fZ (gj []) w w' (Gr.R F n q es)):=by
 refine enter (vs:=[(Za n),v]) Tryz.func8 rfl Tryz.ntmps8 rfl ?_
 have C:=yu w
 refine fR C 10 ?_
 refine cmp (a:=(n:Int)) (b:=0) rfl rfl rfl (kT o_) (fK C 2 ?_)
 refine cmp (a:=(n:Int)) (b:=4096) rfl rfl rfl (nX o_) (fK C 3 ?_)
 refine jX (v:=v) rfl rfl pM hv (cmp (a:=(es.length:Int)) (b:=16384) rfl rfl rfl (nX o_) (fK C 10 ?_))
 refine jX (v:=v) rfl rfl pM hv (gE C 4 ?_)
 refine lp (α:=Nat) (fun i=>[(0,(Za n)),(1,v),(4,Zt),(5,Zc),(19,v),(20,(Za es.length)),(21,(Za i))]) (fun i w1=>St [(w,[])] [] w1/\i<=es.length) (fun i=>es.length-i) 0 ⟨rfl,rfl,rfl,rfl,rfl,rfl,gp (by first|rfl|omega),trivial⟩ (⟨C,o_⟩) ?_
 rintro i p k ⟨D,hi⟩
 refine fR D 2 ?_
 by_cases s:((i:Int):Int)<((es.length:Int):Int)
 . obtain⟨B,I⟩:=oI (show i<es.length by omega)
   have E:=G _ (zg I)
   have K:=E.1
   have L:=E.2.1
   have M:=E.2.2
   refine fK D 13 ?_
   refine iM D (fun t x y z l=>?_)
   refine gI l 8 fun A c=>?_
   refine cmp (a:=(B.u:Int)) (b:=0) rfl rfl rfl (kT o_) (fK c 4 ?_)
   refine cmp (a:=(B.u:Int)) (b:=(n:Int)) rfl rfl rfl (oG o_) (fK c 4 ?_)
   refine cmp (a:=(B.v:Int)) (b:=0) rfl rfl rfl (kT o_) (fK c 5 ?_)
   refine cmp (a:=(B.v:Int)) (b:=(n:Int)) rfl rfl rfl (oG o_) (fK c 12 ?_)
   refine cmp (a:=(B.u:Int)) (b:=(B.v:Int)) rfl rfl rfl (uo o_) (fQ c 10 ?_)
   refine tN (?_)
   have m:=St.sub (L' := []) c (List.Sublist.cons _ (List.Sublist.refl _))
   exact again (i+1) ⟨rfl,rfl,rfl,rfl,rfl,rfl,gp (by first|rfl|omega),trivial⟩ (⟨m,o_⟩) (by show (es.length-(i+1):Nat)<es.length-i;omega)
 . refine fK D 14 ?_
   refine jK (vl:=[v]) rfl rfl Xu (U7 v es k ((yx D s_ d_ hv)).any (by first|omega|(simp;omega))) ?_
   rintro f g H
   have h:St _ [fL Ge.cells f 91 3 es] g:=qV D H.2 H.1
   refine jK (vl:=[(Za n),f]) rfl rfl Xt (YE f n es g (lq h (i:=0) rfl) G o_ o_) ?_
   rintro _ o ⟨d,e,rfl,J⟩
   have j:St _ [(Gr.R d n e es)] o:=l9 (R' := (Gr.R d n e es)) 0 h rfl J rfl
   refine fQ j 5 ?_
   refine iw (v:=(Zb d)) (v' := Zc) Tryz.results8 rfl rfl ?_
   exact⟨d,e,rfl,tL (R:=(Gr.R d n e es)) j s_⟩
end
section
open Go Go.Sx
open Go.Lib Go.Sort Go.RowKit in
theorem abu(x:Int)(w:World):Calls ya 295 (Z8 x) w fun e w' => e = .returned Zp/\w' = w:=by
 go_enter Tryz.func295,Tryz.ntmps295
 go_wp2
 go_ret
 exact⟨s_,rfl⟩
open Go.Lib Go.Sort Go.RowKit in
theorem Vq(x y:Int)(w:World):CR ya 282 (Zx x y) w (fun r w' => r = .int .i64 (ja x y)/\w' = w):=by
 have h:Calls ya 282 (Zx x y) w fun e w' => e = .returned (Za (ja x y))/\w' = w:=by
  go_enter Tryz.func282,Tryz.ntmps282
  go_wp2_with (go_at_call 295;refine(abu _ _).mono ?_;rintro e w' ⟨rfl,a⟩;rw[a])
  all_goals (go_ret;refine⟨?_,rfl⟩;unfold ja;(repeat' split)<;>first|rfl|(exfalso;omega))
 exact h.mono fun e w' h=>⟨_,h.1,rfl,h.2⟩
open Go.Lib Go.Sort Go.RowKit in
theorem abt(x:Int)(w:World):Calls ya 224 (Z8 x) w fun e w' => e = .returned Zp/\w' = w:=by
 go_enter Tryz.func224,Tryz.ntmps224
 go_wp2
 go_ret
 exact⟨s_,rfl⟩
open Go.Lib Go.Sort Go.RowKit in
theorem Vp(x y:Int)(w:World):CR ya 283 (Zx x y) w (fun r w' => r = .int .i64 (ja x y)/\w' = w):=by
 have h:Calls ya 283 (Zx x y) w fun e w' => e = .returned (Za (ja x y))/\w' = w:=by
  go_enter Tryz.func283,Tryz.ntmps283
  go_wp2_with (go_at_call 224;refine(abt _ _).mono ?_;rintro e w' ⟨rfl,a⟩;rw[a])
  all_goals (go_ret;refine⟨?_,rfl⟩;unfold ja;(repeat' split)<;>first|rfl|(exfalso;omega))
 exact h.mono fun e w' h=>⟨_,h.1,rfl,h.2⟩
theorem abU(v:Value)(xs:List Int)(w:World)(hv:Ints .i64 (fun _=>True) w v xs) :
 CR ya 281 #[v] w (fun r w' => r = .int .i64 (l7 xs)/\w' = w):=by
 have y:=hv.len
 refine en Tryz.func281 Tryz.ntmps281 ?_
 have p:=yu w
 refine fR p 14 ?_
 refine jX (v:=v) rfl rfl yd hv (gE p 4 ?_)
 refine lp (α:=Nat) (fun k=>[(3,Zc),(6,v),(7,(Za xs.length)),(8,(Za k))]) (fun k w1=>St [(w,[])] [] w1/\w1=w/\k<=xs.length/\∀ j x,j<k->xs[j]? = some x->x=0) (fun k=>xs.length-k) 0 ⟨rfl,rfl,rfl,gp rO,trivial⟩ (⟨p,rfl,o_,fun j x h=>absurd h o_⟩) ?_
 rintro k c d ⟨o,q,u,t⟩
 refine fR o 2 ?_
 by_cases e:((k:Int):Int)<((xs.length:Int):Int)
 . obtain⟨x,s⟩:=oI (show k<xs.length by omega)
   refine fK o 11 ?_
   refine Cp (i:=(k:Int)) (el:=x) rfl rfl rfl yd gr (St.ET o s_ hv) o_ (by rw[show ((k:Nat):Int).toNat=k by omega];exact s) ?_
   intro f g a b l
   have m:=b.i64
   refine ld rfl rfl ye rfl a (fK o 7 ?_)
   by_cases n:(x:Int)=(0:Int)
   . refine fQ o 11 ?_
     refine tN (?_)
     exact again (k+1) ⟨rfl,rfl,rfl,gp rO,trivial⟩ (⟨o,q,o_,Re t s o_⟩) (by show (xs.length-(k+1):Nat)<xs.length-k;omega)
   . refine fQ o 16 ?_
     refine gq (v:=(Za x)) Gc rfl ?_
     exact⟨gp (Ra t s o_).symm,q⟩
 . refine fQ o 17 ?_
   refine gq (v:=Zc) Gc rfl ?_
   exact⟨gp (Rb t o_).symm,q⟩
theorem abS(es:List Ge)(lb:Nat)(ev:Value)(i j:Nat)(w:World)(hb:(blk lb 28 [ev]).holds w)(hv:gU 3 Ge.cells (fun _=>True) w ev es)(hi:i<es.length)(m:j<es.length)(hm:es.length<=16384) :
 CR ya 280 #[(Za i),(Za j),(Zb lb)] w (fun r w' => r = .int .i64 (qd (⟨i,(fJ es i).w⟩:gF) (⟨j,(fJ es j).w⟩:gF))/\Gw w w'):=by
 refine en Tryz.func280 Tryz.ntmps280 ?_
 have o:=yu w
 refine qg o 6 ?_
 refine adh (Γ:=Nat) mixed [[],[],[0,1],[0,1,2],[0,1,2,3],[],[],[5,6],[5,6,7],[5,6,7,8],[0,1,2,3,4,5,6,7,8,9],[],[],[0,1,2,3,4,5,6,7,8,9,10,11,12],[0,1,2,3,4,5,6,7,8,9,10,11,12,13],[0,1,2,3,4,5,6,7,8,9,10,11,12,13,14],[0,1,2,3,4,5,6,7,8,9,10,11,12,13,14,15]] [14] d_ [fun _=>ev,fun _=>(Za i),fun _=>(jP 3 ev i 0),fun _=>(jP 3 ev i 2),fun _=>(Za ((fJ es i).w)),fun _=>ev,fun _=>(Za j),fun _=>(jP 3 ev j 0),fun _=>(jP 3 ev j 2),fun _=>(Za ((fJ es j).w)),fun _=>(Za (ja ((fJ es i).w) ((fJ es j).w))),fun _=>(Za i),fun _=>(Za j),fun _=>(Za (ja (i:Int) (j:Int))),fun a=>(uf a),fun _=>(Za (l7 [ja ((fJ es i).w) ((fJ es j).w),ja (i:Int) (j:Int)])),fun _=>(Za (l7 [ja ((fJ es i).w) ((fJ es j).w),ja (i:Int) (j:Int)]))] [(fun a=>[],fun _ n=>Gw w n),(fun a=>[ic .i64 (uf a) 3 ([ja ((fJ es i).w) ((fJ es j).w),ja (i:Int) (j:Int)])],fun _ n=>Gw w n)] 0 (fun a=>(5,(Za (l7 [ja ((fJ es i).w) ((fJ es j).w),ja (i:Int) (j:Int)]))) :: (21,(Za (l7 [ja ((fJ es i).w) ((fJ es j).w),ja (i:Int) (j:Int)]))) :: (20,(uf a)) :: (19,(Za (ja (i:Int) (j:Int)))) :: (18,(Za j)) :: (17,(Za i)) :: (16,(Za (ja ((fJ es i).w) ((fJ es j).w)))) :: (15,(Za ((fJ es j).w))) :: (14,(jP 3 ev j 2)) :: (13,(jP 3 ev j 0)) :: (12,(Za j)) :: (11,ev) :: (10,(Za ((fJ es i).w))) :: (9,(jP 3 ev i 2)) :: (8,(jP 3 ev i 0)) :: (7,(Za i)) :: (6,ev) :: _) rfl o (Gw.drew _) ?_ (fun a=>rfl) rfl ?_
 . skip
   refine uK rfl rfl rfl rfl (fun a l f g=>qv rfl rfl (kU rfl pM rfl (j9 f s_ hb rfl))) (pI (fun a _=>kC (v:=(Za i)) rfl) ?_)
   refine pI (fun a _=>xA (k:=i) (i:=(i:Int)) rfl rfl pM yH hv o_ o_ (gB hi)) ?_
   refine pI (fun a _=>EH (off:=0) (off' := 2) rfl Ga rfl ti2 rfl hv (gB hi)) ?_
   refine uK rfl rfl rfl rfl (fun a l f g=>qv rfl rfl (uB (u:=(Za ((fJ es i).w))) rfl pN rfl (yx f s_ d_ hv) (gB hi) rfl)) (uK rfl rfl rfl rfl (fun a l f g=>qv rfl rfl (kU rfl pM rfl (j9 f s_ hb rfl))) (pI (fun a _=>kC (v:=(Za j)) rfl) ?_))
   refine pI (fun a _=>xA (k:=j) (i:=(j:Int)) rfl rfl pM yH hv o_ o_ (gB m)) ?_
   refine pI (fun a _=>EH (off:=0) (off' := 2) rfl Ga rfl ti2 rfl hv (gB m)) ?_
   refine uK rfl rfl rfl rfl (fun a l f g=>qv rfl rfl (uB (u:=(Za ((fJ es j).w))) rfl pN rfl (yx f s_ d_ hv) (gB m) rfl)) (uK rfl rfl rfl rfl (fun a l f g=>qc rfl rfl (nD rfl OR) (CR.mono (Vq ((fJ es i).w) ((fJ es j).w) l) fun _ _ h=>⟨h.1,(by obtain rfl:=h.2;exact⟨f,g⟩)⟩)) (pI (fun a _=>kC (v:=(Za i)) rfl) ?_))
   refine pI (fun a _=>kC (v:=(Za j)) rfl) ?_
   refine uK rfl rfl rfl rfl (fun a l f g=>qc rfl rfl (nD rfl OS) (CR.mono (Vp (i:Int) (j:Int) l) fun _ _ h=>⟨h.1,(by obtain rfl:=h.2;exact⟨f,g⟩)⟩)) (CM rfl rfl rfl rfl (fun a l f g=>aa0 (vs:=(Zo (ja ((fJ es i).w) ((fJ es j).w)) (ja (i:Int) (j:Int)))) (cs:=(Zo (ja ((fJ es i).w) ((fJ es j).w)) (ja (i:Int) (j:Int)))) g rfl rfl yd gr rfl (by simp[Value.cells]) rfl rfl rfl f (fun b _ h q=>⟨b,⟨h,q⟩,rfl,j7 rfl sT⟩)) (uK rfl rfl rfl rfl (fun a l f g=>qc rfl rfl (nD rfl OQ) (CR.mono (abU (uf a) [ja ((fJ es i).w) ((fJ es j).w),ja (i:Int) (j:Int)] l (wG f (i:=0) rfl (fun y p=>by simp only[zb,oB,or_false]at p;rcases p with rfl|rfl<;>exact NS _ _)).any) fun _ _ h=>⟨h.1,(by obtain rfl:=h.2;exact⟨f,g⟩)⟩)) (pI (fun a _=>sW (v:=(Za (l7 [ja ((fJ es i).w) ((fJ es j).w),ja (i:Int) (j:Int)]))) rfl) ?_)))
   exact JS
 rintro a e c d
 refine qO tt none c 2 ?_
 refine gq (v:=(Za (l7 [ja ((fJ es i).w) ((fJ es j).w),ja (i:Int) (j:Int)]))) Tryz.results280 rfl ?_
 exact⟨gp (Rg (⟨i,(fJ es i).w⟩:gF) (⟨j,(fJ es j).w⟩:gF)),d⟩
end
end Go.Proofs.YtoceanggliccgaaGreatDoor
namespace Go.Proofs
open Go.Shelf Go.Lib Go.Sort Go.RowKit in
def Tryz.ad9:Go.Shelf.Ren:=⟨fun|6=>279|15=>100|14=>294|28=>166|29=>167|20=>301|21=>302|22=>303|23=>304|24=>305|25=>306|26=>307|27=>308|46=>311|47=>220|48=>221|49=>312|50=>313|57=>314|n=>n,fun|22=>35|24=>3|25=>353|3=>3|39=>202|0=>0|53=>285|55=>40|4=>4|46=>279|45=>278|50=>137|5=>5|9=>9|66=>338|70=>341|76=>378|77=>206|n=>n,fun|n=>n⟩
open Go.Shelf Go.Lib Go.Sort Go.RowKit in
theorem Tryz.ad7:Go.Proofs.SlLaysF.n6 Proofs.Tryz.prog Tryz.ad9 where
 mixed:=by kernel_rfl
 f6:=⟨Proofs.Tryz.f279.name,by(decide),Proofs.Tryz.func279.trans (congrArg some<|by kernel_rfl)⟩
 f14:=⟨Proofs.Tryz.f294.name,by(decide),Proofs.Tryz.func294.trans (congrArg some<|by kernel_rfl)⟩
 f15:=Proofs.Tryz.func100.trans (congrArg some<|by kernel_rfl)
 f20:=⟨Proofs.Tryz.f301.name,by(decide),Proofs.Tryz.func301.trans (congrArg some<|by kernel_rfl)⟩
 f21:=⟨Proofs.Tryz.f302.name,by(decide),Proofs.Tryz.func302.trans (congrArg some<|by kernel_rfl)⟩
 f22:=⟨Proofs.Tryz.f303.name,by(decide),Proofs.Tryz.func303.trans (congrArg some<|by kernel_rfl)⟩
 f23:=⟨Proofs.Tryz.f304.name,by(decide),Proofs.Tryz.func304.trans (congrArg some<|by kernel_rfl)⟩
 f24:=⟨Proofs.Tryz.f305.name,by(decide),Proofs.Tryz.func305.trans (congrArg some<|by kernel_rfl)⟩
 f25:=⟨Proofs.Tryz.f306.name,by(decide),Proofs.Tryz.func306.trans (congrArg some<|by kernel_rfl)⟩
 f26:=⟨Proofs.Tryz.f307.name,by(decide),Proofs.Tryz.func307.trans (congrArg some<|by kernel_rfl)⟩
 f27:=⟨Proofs.Tryz.f308.name,by(decide),Proofs.Tryz.func308.trans (congrArg some<|by kernel_rfl)⟩
 f28:=Proofs.Tryz.func166.trans (congrArg some<|by kernel_rfl)
 f29:=Proofs.Tryz.func167.trans (congrArg some<|by kernel_rfl)
 f46:=⟨Proofs.Tryz.f311.name,by(decide),Proofs.Tryz.func311.trans (congrArg some<|by kernel_rfl)⟩
 f47:=Proofs.Tryz.func220.trans (congrArg some<|by kernel_rfl)
 f48:=Proofs.Tryz.func221.trans (congrArg some<|by kernel_rfl)
 f49:=⟨Proofs.Tryz.f312.name,by(decide),Proofs.Tryz.func312.trans (congrArg some<|by kernel_rfl)⟩
 f50:=⟨Proofs.Tryz.f313.name,by(decide),Proofs.Tryz.func313.trans (congrArg some<|by kernel_rfl)⟩
 f57:=⟨Proofs.Tryz.f314.name,by(decide),Proofs.Tryz.func314.trans (congrArg some<|by kernel_rfl)⟩
 t0:=Proofs.Tryz.underlying0
 a0:=Proofs.Tryz.isAgg0
 z0:=Proofs.Tryz.sizeOf0
 v0:=Proofs.Tryz.zeroValue0
 t3:=Proofs.Tryz.underlying3
 a3:=Proofs.Tryz.isAgg3
 z3:=Proofs.Tryz.sizeOf3
 v3:=Proofs.Tryz.zeroValue3
 t4:=Proofs.Tryz.underlying4
 a4:=Proofs.Tryz.isAgg4
 z4:=Proofs.Tryz.sizeOf4
 v4:=Proofs.Tryz.zeroValue4
 t5:=Proofs.Tryz.underlying5
 a5:=Proofs.Tryz.isAgg5
 z5:=Proofs.Tryz.sizeOf5
 v5:=Proofs.Tryz.zeroValue5
 t9:=Proofs.Tryz.underlying9
 a9:=Proofs.Tryz.isAgg9
 z9:=Proofs.Tryz.sizeOf9
 v9:=Proofs.Tryz.zeroValue9
 t22:=Proofs.Tryz.underlying35
 a22:=Proofs.Tryz.isAgg35
 z22:=Proofs.Tryz.sizeOf35
 v22:=Proofs.Tryz.zeroValue35
 a24:=Proofs.Tryz.isAgg3
 z24:=Proofs.Tryz.sizeOf3
 t25:=Proofs.Tryz.underlying353
 a25:=Proofs.Tryz.isAgg353
 z25:=Proofs.Tryz.sizeOf353
 v25:=Proofs.Tryz.zeroValue353
 t39:=Proofs.Tryz.underlying202
 a39:=Proofs.Tryz.isAgg202
 z39:=Proofs.Tryz.sizeOf202
 v39:=Proofs.Tryz.zeroValue202
 t45:=Proofs.Tryz.underlying278
 a45:=Proofs.Tryz.isAgg278
 z45:=Proofs.Tryz.sizeOf278
 v45:=Proofs.Tryz.zeroValue278
 t46:=Proofs.Tryz.underlying279
 a46:=Proofs.Tryz.isAgg279
 z46:=Proofs.Tryz.sizeOf279
 v46:=Proofs.Tryz.zeroValue279
 t50:=Proofs.Tryz.underlying137
 a50:=Proofs.Tryz.isAgg137
 z50:=Proofs.Tryz.sizeOf137
 v50:=Proofs.Tryz.zeroValue137
 t53:=Proofs.Tryz.underlying285
 a53:=Proofs.Tryz.isAgg285
 z53:=Proofs.Tryz.sizeOf285
 v53:=Proofs.Tryz.zeroValue285
 t55:=Proofs.Tryz.underlying40
 a55:=Proofs.Tryz.isAgg40
 z55:=Proofs.Tryz.sizeOf40
 v55:=Proofs.Tryz.zeroValue40
 t66:=Proofs.Tryz.underlying338
 a66:=Proofs.Tryz.isAgg338
 z66:=Proofs.Tryz.sizeOf338
 v66:=Proofs.Tryz.zeroValue338
 t70:=Proofs.Tryz.underlying341
 a70:=Proofs.Tryz.isAgg341
 z70:=Proofs.Tryz.sizeOf341
 v70:=Proofs.Tryz.zeroValue341
 t76:=Proofs.Tryz.underlying378
 a76:=Proofs.Tryz.isAgg378
 z76:=Proofs.Tryz.sizeOf378
 v76:=Proofs.Tryz.zeroValue378
 t77:=Proofs.Tryz.underlying206
 a77:=Proofs.Tryz.isAgg206
 z77:=Proofs.Tryz.sizeOf206
 v77:=Proofs.Tryz.zeroValue206
end Go.Proofs
namespace Go.Proofs.YtoceanggliccgaaGreatDoor
section
open Go Go.Sx Go.Lib Go.Sort Go.RowKit
theorem aey(es:List Ge)(n:Nat):SWO (ltOf fun x y:Fin n=>qd ⟨x.val,(fJ es x.val).w⟩ ⟨y.val,(fJ es y.val).w⟩) where
 irrefl x:=by unfold ltOf;rw[decide_eq_false_iff_not,nF];exact CE _
 trans x y z h1 h2:=by unfold ltOf at *;rw[decide_eq_true_iff,nF]at *;exact Jp h1 h2
 ntrans x y z h1 h2:=by unfold ltOf at *;rw[decide_eq_false_iff_not,nF]at *;exact Fk h1 h2
theorem aeb(es:List Ge)(lb:Nat)(ev v:Value)(w:World)(s:Own (o7 v (List.range es.length)) w)(hb:(blk lb 28 [ev]).holds w)(C:lb<w.heap.size)(n:lb∉(o7 v (List.range es.length)).gG)(hv:gU 3 Ge.cells (fun b=>b∉(o7 v (List.range es.length)).gG) w ev es)(D:0<es.length)(hm:es.length<=16384) :
 CR ya 279 #[v,.func (.func 280) #[] (Zi lb)] w (fun r w' => ∃ o:List Nat,r = .tuple #[]/\r6 es o/\fZ (o7 v (List.range es.length)) w w' (o7 v o)):=by
 refine CR.mono (aee (P:=ya) D (fun i j=>decide (qd ⟨i,(fJ es i).w⟩ ⟨j,(fJ es j).w⟩<0)) s o_ fun K f p d A q u G=>?_) ?_
 . rw[A]at n hv
   refine Any.slices_SortFunc (P:=ya) Tryz.ad7 qI f_ (fun x y=>qd ⟨x.val,(fJ es x.val).w⟩ ⟨y.val,(fJ es y.val).w⟩) (aey es es.length) 280 (Zi lb) f 0 p d w (enters_of Tryz.func280 k_ rfl) (fun k os m hs x y=>?_) q u G
   have t:=(blk lb 28 [ev]).loc _ (sortWorld qI w f 0 k m os) (fun b h=>by simp[blk]at h;subst h;exact Sv C (by simpa using n)) hb
   have I:=hv.to (w' := sortWorld qI w f 0 k m os) d_ fun b c g=>Sv g (by simpa using c)
   exact Calls.mono (abS es lb ev x.val y.val _ t I.any x.2 y.2 hm) fun e w' ⟨r,z,F,B⟩=>⟨by rw[z,F],B⟩
 . rintro r w' ⟨rfl,ys,c,g,H⟩
   have E:ys.Nodup:=(c.nodup_iff).2 u5
   refine⟨ys,rfl,⟨c,(g.and E).imp fun {a b} h=>?_⟩,H⟩
   have l:=of_decide_eq_false h.1
   rw[nF]at l
   have J:=h.2
   unfold iE at l
   unfold sj
   dsimp only at l
   omega
theorem ZQ(v fv:Value)(n:Nat)(w:World)(b:n=0) :
 CR ya 301 #[v,Zc,(Za n),fv] w (fun r w' => r = .tuple #[]/\gw [] w w'):=by
 refine en Tryz.func301 Tryz.ntmps301 ?_
 have a:=yu w
 refine qg a 8 ?_
 refine qi 1 (iz (fR a 5 ?_))
 refine cmp rfl rfl rfl (kT o_) (fQ a 7 ?_)
 refine iO Tryz.results301 ?_
 exact⟨rfl,a.gy s_⟩
theorem ab1(v fv:Value)(n:Nat)(z:Int)(w:World)(e:n=0) :
 CR ya 294 #[v,Zc,(Za n),(Za z),fv] w (fun r w' => r = .tuple #[]/\gw [] w w'):=by
 refine en Tryz.func294 Tryz.ntmps294 ?_
 have d:=yu w
 refine qg d 11 ?_
 refine qi 1 (iz (fR d 13 ?_))
 refine cmp rfl rfl rfl (um o_) (fK d 9 ?_)
 refine cl Xr (ZQ v fv n w e) ?_
 rintro _ c ⟨rfl,b⟩
 have a:=yo d b
 refine fQ a 7 ?_
 refine xW Tryz.results294 ?_
 exact⟨rfl,a.gy s_⟩
theorem ad6(v fv:Value)(xs:List Int)(w:World)(hv:Ints .i64 (fun _=>True) w v xs)(i:xs.length=0) :
 CR ya 279 #[v,fv] w (fun r w' => r = .tuple #[]/\gw [] w w'):=by
 refine en Tryz.func279 Tryz.ntmps279 ?_
 have h:=yu w
 refine fR h 3 ?_
 refine jX (v:=v) rfl rfl yd hv (fK h 8 ?_)
 refine cl H9 (HC xs.length w o_) ?_
 rintro _ c ⟨d,rfl,e⟩
 have a:=yo h e
 refine fK a 1 ?_
 refine cl Xn (ab1 v fv xs.length d c i) ?_
 rintro _ g ⟨rfl,f⟩
 have b:=yo a f
 refine fQ b 1 ?_
 refine iO Tryz.results279 ?_
 exact⟨rfl,b.gy s_⟩
theorem aea(es:List Ge)(lb:Nat)(ev v:Value)(w:World)(d:Own (o7 v (List.range es.length)) w)(hb:(blk lb 28 [ev]).holds w)(l:lb<w.heap.size)(k:lb∉(o7 v (List.range es.length)).gG)(hv:gU 3 Ge.cells (fun b=>b∉(o7 v (List.range es.length)).gG) w ev es)(hm:es.length<=16384) :
 CR ya 279 #[v,.func (.func 280) #[] (Zi lb)] w (fun r w' => ∃ o:List Nat,r = .tuple #[]/\r6 es o/\fZ (o7 v (List.range es.length)) w w' (o7 v o)):=by
 rcases yQ es.length with c|c
 . obtain rfl:=Gy.1 c
   have f:=uV (yt d) (i:=0) rfl f_
   obtain⟨a,e,rfl,g,j,n⟩:=f
   refine CR.mono (ad6 _ _ [] w ⟨a,e,rfl,g,j,fun i y m=>by simp at m⟩ rfl) fun r w' h=>⟨[],h.1,⟨List.Perm.refl _,List.Pairwise.nil⟩,yp ((yt d).grow h.2) za⟩
 . exact aeb es lb ev v w d hb l k hv c hm
theorem abT(v:Value)(es:List Ge)(w:World)(hv:gU 3 Ge.cells (fun _=>True) w v es)(hm:es.length<=16384) :
 CR ya 247 #[v] w (fun r w' => ∃ (K:Value) (o:List Nat),K=r/\r6 es o/\fZ (gj []) w w' (o7 K o)):=by
 refine en Tryz.func247 Tryz.ntmps247 ?_
 have J:=yu w
 refine fR J 2 ?_
 refine gW J (fun d z A B g=>?_) (hcs:=(cells_one (Sl.Q9 hv)))
 refine fK g 6 ?_
 refine jX (v:=v) rfl rfl pM hv (rF (cf:=fV) (z0:=0) (m:=es.length) (c:=es.length) rfl rfl rfl yd gr rfl f_ d_ (zj _) o_ o_ g ?_)
 intro h n C D p
 have e:St _ [fL fV (.slice (some ⟨h,0,none⟩) es.length es.length) 3 1 (List.replicate es.length 0),blk d 28 [v]] n:=lR (cf:=fV) p (i:=0) rfl f_ (zj _) (by simp only[maxLen];omega)
 generalize (Value.slice (some ⟨h,0,none⟩) es.length es.length)=a at e ⊢
 refine fK e 7 ?_
 refine jb (m:=(List.replicate es.length 0).length) 0 rfl rfl yd e rfl ?_
 have O:(List.replicate es.length 0).length=es.length:=tO
 have q:=yv 0 e rfl (congrArg (fL fV a 3 1) (adf))
 refine gE e 4 ?_
 refine lp (α:=Nat) (fun k=>[(1,(Zb d)),(2,Zg),(3,a),(9,(Za ((List.replicate es.length 0).length:Int))),(10,(Za k))]) (fun k w1=>St [(w,[])] [fL fV a 3 1 (rI es.length k),blk d 28 [v]] w1/\k<=es.length) (fun k=>es.length-k) 0 ⟨rfl,rfl,rfl,rfl,gp rO,trivial⟩ (⟨q,o_⟩) ?_
 rintro k E s ⟨F,L⟩
 have P:=adb L
 refine fR F 2 ?_
 by_cases G:((k:Int):Int)<(((List.replicate es.length 0).length:Int):Int)
 . refine fK F 20 ?_
   refine iK (f:=(fun _=>k)) 0 F (fun H j=>?_)
   refine fQ j 7 ?_
   refine tN (?_)
   have t:=yv 0 j rfl (congrArg (fL fV a 3 1) (ade o_))
   exact again (k+1) ⟨rfl,rfl,rfl,rfl,gp rO,trivial⟩ (⟨t,o_⟩) (by show (es.length-(k+1):Nat)<es.length-k;omega)
 . refine fK F 13 ?_
   refine lW (vf:=[]) (vc:=(Zh d)) rfl rfl rfl ?_
   have M:k=es.length:=by omega
   have b:=yv 0 F rfl (congrArg (fL fV a 3 1) ((congrArg (rI es.length) M).trans ada))
   refine cl Xj (aea es d v a s (yf b 0 rfl) (St.at b (i:=1) rfl) b.ZJ b.abH (b.acX s_ d_ hv) hm) ?_
   rintro _ I ⟨u,rfl,x,N⟩
   have l:=yn 0 b N
   refine fQ l 9 ?_
   refine gq (v:=a) Tryz.results247 rfl ?_
   have y:=yg [0] l
   exact⟨a,u,rfl,x,nO y⟩
theorem Pt(v:Value)(n:Nat)(es:List Ge)(w:World)(hv:gU 3 Ge.cells (fun _=>True) w v es)(hg:pS n es)(hn:n<=4096)(hm:es.length<=16384) :
 CR ya 199 #[(Za n),v] w (fun r w' => ∃ (fv:Value) (f:List Nat),r = .tuple #[fv,.int .i64 0]/\nT es n f/\fZ (gj []) w w' (o7 fv f)):=by
 refine enter (vs:=[(Za n),v]) Tryz.func199 rfl Tryz.ntmps199 rfl ?_
 have aj:=yu w
 refine fR aj 11 ?_
 refine jK (vl:=[(Za n),v]) rfl rfl XU (YL v n es w hv hg o_ hm) ?_
 rintro _ B ⟨g,h,rfl,F⟩
 have C:St _ [(Gr.R g n h es)] B:=(jN (R:=(Gr.R g n h es)) aj F)
 refine fK C 19 ?_
 refine jK (vl:=(Ze n)) rfl rfl XN (VS n B o_) ?_
 rintro _ D ⟨a,j,rfl,N,F⟩
 have t:St _ [(Ds.R a n j),(Gr.R g n h es)] D:=(jN (R:=(Ds.R a n j)) C F)
 refine fK t 26 ?_
 refine jK (vl:=[v]) rfl rfl W6 (abT v es D (yx t s_ d_ hv).any hm) ?_
 rintro _ E ⟨b,d,rfl,p,F⟩
 have x:St _ [fL fV b 3 1 d,(Ds.R a n j),(Gr.R g n h es)] E:=(jN (R:=fL fV b 3 1 d) t F)
 refine jb (m:=d.length) 0 rfl rfl yd x rfl ?_
 have am:=p.len
 have O:St _ [ic .i64 Zg 3 (gx []),fL fV b 3 1 d,(Ds.R a n j),(Gr.R g n h es)] E:=pO x 3 1
 have G:=yg [2,1,0] O
 obtain⟨o,ai⟩:∃ o,o=d:=⟨_,rfl⟩
 refine gE x 4 ?_
 rw[<-ai]at G p am
 have aq:d.length=o.length:=by rw[ai]
 refine lp (α:=Nat×Ds×Value) (fun(k,s,fv)=>[(0,(Za n)),(1,v),(4,Zg),(5,Zc),(8,(Zb a)),(10,fv),(33,b),(34,(Za d.length)),(35,(Za k))]) (fun(k,s,fv) w1=>St [(w,[])] (DV a n s b o fv (gx (jI es n (o.take k)))) w1/\k<=o.length/\s.lb=ir es n (jI es n (o.take k))) (fun(k,s,fv)=>o.length-k) (0,j,Zg) ⟨rfl,rfl,rfl,rfl,rfl,rfl,rfl,rfl,gp (by first|rfl|omega),trivial⟩ (⟨G,o_,N⟩) ?_
 rintro⟨k,s,fv⟩ Y P ⟨ae,hk,ad⟩
 have an:(jI es n (o.take k)).length<=k:=by have h7:=(EL (es:=es) (n:=n) (o.take k)).length_le;rw[zy]at h7;omega
 refine fR ae 2 ?_
 by_cases Z:((k:Int):Int)<((d.length:Int):Int)
 . have af:=p
   have T:k<o.length:=by omega
   have al:fJ o k<es.length:=af.lt (zg (gB T))
   have ah:=hg.at al
   have ao:=ah.1
   have ap:=ah.2.1
   refine gI ae 29 fun Q H=>?_
   refine jK (vl:=(zS a ((fJ es (fJ o k)).u:Int) ((fJ es (fJ o k)).v:Int))) rfl rfl XO (V0 a n s Q (lq H (i:=0) rfl) o_ ((fJ es (fJ o k)).u) ((fJ es (fJ o k)).v) o_ o_) ?_
   rintro _ I ⟨c,rfl,J,F⟩
   have l:St _ (DV a n c b o fv (gx (jI es n (o.take k)))) I:=l9 (R' := (Ds.R a n c)) 0 H rfl F rfl
   refine gE l 12 ?_
   cases K:(decide (fJ s.lb (fJ es (fJ o k)).u≠fJ s.lb (fJ es (fJ o k)).v):Bool)
   . skip
     refine iH l 8 ?_
     refine tN (?_)
     have ag:=J
     have S:St _ (DV a n c b o fv (gx (jI es n (o.take (k+1))))) I:=yv 2 l rfl (congrArg (ic .i64 fv 3) (by rw[EM T,if_neg (by unfold mo;rw[<-ad];exact of_decide_eq_false K)]))
     exact again ((k+1),c,fv) ⟨rfl,rfl,rfl,rfl,rfl,rfl,rfl,rfl,gp (by first|rfl|omega),trivial⟩ (⟨S,o_,ag.trans (by rw[EM T,Ql,ad])⟩) (by show (o.length-(k+1):Nat)<o.length-k;omega)
   . skip
     refine fR l 4 ?_
     refine jF (vs:=(Ze (((fJ o k):Nat):Int))) (cs:=(Ze (((fJ o k):Nat):Int))) rfl rfl yd gr rfl (by simp[Value.cells]) rfl rfl rfl l ?_
     intro y U aa ab q
     have q:St _ (G5 y ([(((fJ o k):Nat):Int)]) a n c b o fv (gx (jI es n (o.take k)))) U:=q
     refine vt (k:=.i64) (ys:=gx (jI es n (o.take k))) (zs:=[(((fJ o k):Nat):Int)]) (LL:=fun e=>(G5 y ([(((fJ o k):Nat):Int)]) a n c b o e ((gx (jI es n (o.take k)))++([(((fJ o k):Nat):Int)])))) 3 rfl rfl rfl yd gr rfl q rfl (kX q (i:=0) rfl) (by simp only[gx,zn,zd,zh,zq,maxLen];omega) (by simp only[gx,zn,zd,zh,zq,maxLen];omega) f_ ?_
     intro e L A ac
     have A:St _ (G5 y ([(((fJ o k):Nat):Int)]) a n c b o e ((gx (jI es n (o.take k)))++([(((fJ o k):Nat):Int)]))) L:=A
     have M:=yg [1,2,3] A
     refine fQ M 8 ?_
     refine tN (?_)
     have ag:=J
     have V:St _ (DV a n c b o e (gx (jI es n (o.take (k+1))))) L:=yv 2 M rfl (congrArg (ic .i64 e 3) (by rw[EM T,if_pos (by unfold mo;rw[<-ad];exact of_decide_eq_true K),CH]))
     exact again ((k+1),c,e) ⟨rfl,rfl,rfl,rfl,rfl,rfl,rfl,rfl,gp (by first|rfl|omega),trivial⟩ (⟨V,o_,ag.trans (by rw[EM T,Ql,ad])⟩) (by show (o.length-(k+1):Nat)<o.length-k;omega)
 . have af:=p
   refine fQ ae 18 ?_
   refine iw (v:=fv) (v' := Zc) Tryz.results199 rfl rfl ?_
   have ak:k=o.length:=by omega
   have W:=yg [2] ae
   have X:St _ [fL fV fv 3 1 (jI es n o)] P:=yv 0 W rfl (((congrArg (fun z=>ic .i64 fv 3 (gx (jI es n z))) (by rw[ak,tU])).trans (CX f_ _).symm))
   exact⟨fv,jI es n o,rfl,⟨o,af,rfl⟩,nO X⟩
end
section
open Go Go.Sx
theorem agH(uv:Value)(n:Nat)(lb:List Nat)(p:List iU)(w:World)(t:Own (BV uv p) w)(u:Un n lb p)(B:n<=1000000)(a0:Nat)(y:a0<n) :
 CR ya 200 #[uv,(Za a0)] w (fun r w' => ∃ xs:List iU,r = .int .i64 ((fJ lb a0:Nat):Int)/\(Un n lb xs/\∀ j,(fJ xs j).b=(fJ p j).b)/\fZ (BV uv p) w w' (BV uv xs)):=by
 refine en Tryz.func200 Tryz.ntmps200 ?_
 have s:=yt t
 refine qg s 7 ?_
 refine lp (α:=Nat×List iU) (fun(i,xs)=>[(0,uv),(1,(Za i)),(4,Zc)]) (fun(i,xs) w1=>St [(w,(BV uv p).gG)] [fL iU.cells uv 143 2 xs] w1/\tZ n lb p a0 xs i) (fun(i,xs)=>i) (a0,p) ⟨rfl,gp rO,rfl,trivial⟩ (⟨s,tZ.start u y⟩) ?_
 rintro⟨i,xs⟩ e g ⟨q,o⟩
 have D:=o.un.len
 have A:=o.lt
 have C:=o.un.le i A
 refine fR q 6 ?_
 refine uz (cf:=iU.cells) (k:=i) (off:=0) (off' := 0) (i:=0) rfl rfl rfl yq gr d_ rfl (y0 q 0 rfl) (gB om) (fK q 2 ?_)
 by_cases h:(((fJ xs i).a:Int):Int)=((i:Int):Int)
 . refine fQ q 16 ?_
   refine gq (v:=(Za i)) Tryz.results200 rfl ?_
   have z:=o.fin o_
   exact⟨xs,by rw[<-z],⟨o.un,o.nd⟩,yj q⟩
 . refine gI q 15 fun l c=>?_
   refine uz (cf:=iU.cells) (k:=i) (off:=0) (off' := 0) (i:=0) rfl rfl rfl yq gr d_ rfl (y0 c 0 rfl) (gB om) (fK c 2 ?_)
   refine uz (cf:=iU.cells) (k:=((fJ xs i).a)) (off:=0) (off' := 0) (i:=0) rfl rfl rfl yq gr d_ rfl (y0 c 0 rfl) (gB om) (fK c 2 ?_)
   refine uz (cf:=iU.cells) (k:=i) (off:=0) (off' := 0) (i:=0) rfl rfl rfl yq gr d_ rfl (y0 c 0 rfl) (gB om) (iK (f:=(fun x:iU=>{ x with a:=((fJ xs ((fJ xs i).a)).a) })) 0 c (fun m d=>?_))
   refine fK d 6 ?_
   refine uz (cf:=iU.cells) (k:=i) (off:=0) (off' := 0) (i:=0) rfl rfl rfl yq gr d_ rfl (y0 d 0 rfl) (gB om) (fQ d 4 ?_)
   refine tN (?_)
   exact again (((fJ (fN xs i (fun x=>{ x with a:=((fJ xs ((fJ xs i).a)).a) })) i).a),fN xs i (fun x=>{ x with a:=((fJ xs ((fJ xs i).a)).a) })) ⟨rfl,gp rO,rfl,trivial⟩ (⟨d,(o.half (us2:=fN xs i (fun x=>{ x with a:=((fJ xs ((fJ xs i).a)).a) })) o_ rfl).1⟩) (o.half (us2:=fN xs i (fun x=>{ x with a:=((fJ xs ((fJ xs i).a)).a) })) o_ rfl).2
def Un.R(uv:Value)(n:Nat)(lb d:List Nat)(a:List iU):fT:=j3 (Un n lb a/\∀ j,j<n->(fJ a j).b=fJ d j) (BV uv a)
theorem agG(uv:Value)(n:Nat)(lb d:List Nat)(b:List iU)(w:World)(a:Own (Un.R uv n lb d b) w)(h:n<=1000000)(a0:Nat)(f:a0<n) :
 CR ya 200 #[uv,.int .i64 (a0:Int)] w (fun r w' => ∃ xs:List iU,r = .int .i64 ((fJ lb a0:Nat):Int)/\fZ (Un.R uv n lb d b) w w' (Un.R uv n lb d xs)) :=
 CR.mono (agH uv n lb b w a.un a.fact.1 h a0 f) fun r w' ⟨xs,e,c,i⟩=>⟨xs,e,i.pL ⟨c.1,fun j g=>(c.2 j).trans (a.fact.2 j g)⟩⟩
theorem Tm(uv:Value)(n:Nat)(lb d:List Nat)(a:List iU)(w:World)(b:Own (Un.R uv n lb d a) w)(e:n<=1000000)(a0:Nat)(c:a0<n){x:Nat}(f:fJ lb a0=x) :
 CR ya 200 #[uv,.int .i64 (a0:Int)] w (fun r w' => ∃ xs:List iU,r = .int .i64 (x:Int)/\fZ (Un.R uv n lb d a) w w' (Un.R uv n lb d xs)):=by
 subst f
 exact agG uv n lb d a w b e a0 c
abbrev RI:List (List Nat):=[[],[],[1],[],[3],[],[5],[],[7],[],[9],[0,1,2,3,4,5,6,7,8,9,10],[],[0,1,2,3,4,5,6,7,8,9,10,11,12]]
theorem J5(v:Value)(n:Nat)(es:List Ge)(w:World)(hv:gU 3 Ge.cells (fun _=>True) w v es)(hg:pS n es)(hn:n<=4096)(hm:es.length<=16384) :
 CR ya 132 #[(Za n),v] w (fun r w' => ∃ (f:List Nat) (lv rv pv cb sv:Value),r = .tuple #[.agg #[.int .i64 (n:Int),lv,rv,pv,cb,sv],.int .i64 0]/\nT es n f/\fZ (gj []) w w' (BT lv (fU es n f) rv pv cb sv)):=by
 refine en Tryz.func132 Tryz.ntmps132 ?_
 have ca:=yu w
 refine fR ca 2 ?_
 refine iM ca (fun E aC bo bp Z=>?_)
 refine fK Z 7 ?_
 refine cl Ow (Pt v n es aC (yx Z s_ d_ hv).any hg hn hm) ?_
 rintro _ bq ⟨fv,f,rfl,aD,ht⟩
 have Y:=(jN Z ht)
 have bY:=aD
 have cr:=bY.len
 refine fK Y 21 ?_
 refine jb (m:=f.length) 0 rfl rfl yd Y rfl (ar (e:=((n+f.length:Nat):Int)) rfl rfl rfl rfl iT (gE Y 4 ?_))
 have K:AK RI [2,4,6,8,10,12,13] [(12,fun z=>blk z 83 ue),(10,fun A=>blk A 3 ((List.replicate (n+f.length) 0).flatMap fV)),(8,fun D=>blk D 2 ((List.replicate (n+f.length) 0).flatMap fS)),(6,fun G=>blk G 3 ((List.replicate (n+f.length) 0).flatMap fS)),(4,fun H=>blk H 3 ((List.replicate (n+f.length) 0).flatMap fS)),(2,fun J=>blk J 3 ((List.replicate (n+f.length) 0).flatMap fS))] 13:=JC (is:=[12,10,8,6,4,2]) rfl d_
 refine Kf mixed RI [2,4,6,8,10,12,13] [(12,fun z=>blk z 83 ue),(10,fun A=>blk A 3 ((List.replicate (n+f.length) 0).flatMap fV)),(8,fun D=>blk D 2 ((List.replicate (n+f.length) 0).flatMap fS)),(6,fun G=>blk G 3 ((List.replicate (n+f.length) 0).flatMap fS)),(4,fun H=>blk H 3 ((List.replicate (n+f.length) 0).flatMap fS)),(2,fun J=>blk J 3 ((List.replicate (n+f.length) 0).flatMap fS))] 13 k_ rfl [fun g=>(Za n),fun g=>(Za ((n+f.length:Nat):Int)),fun g=>(Zd (g 2) (n+f.length)),fun g=>(Za ((n+f.length:Nat):Int)),fun g=>(Zd (g 4) (n+f.length)),fun g=>(Za ((n+f.length:Nat):Int)),fun g=>(Zd (g 6) (n+f.length)),fun g=>(Za ((n+f.length:Nat):Int)),fun g=>(Zd (g 8) (n+f.length)),fun g=>(Za ((n+f.length:Nat):Int)),fun g=>(Zd (g 10) (n+f.length)),fun g=>(M3 n (g 2) (n+f.length) (g 4) (g 6) (g 8) (g 10)),fun g=>(Zb (g 12)),fun g=>undef] (fun g=>(MH (g 12) n (g 2) (n+f.length) (g 4) (g 6) (g 8) (g 10) ((List.replicate (n+f.length) 0).flatMap fV) ((List.replicate (n+f.length) 0).flatMap fS) fv f E)) (fun g=>(9,(Zb (g 12))) :: (45,(M3 n (g 2) (n+f.length) (g 4) (g 6) (g 8) (g 10))) :: (44,(Zd (g 10) (n+f.length))) :: (43,(Za ((n+f.length:Nat):Int))) :: (42,(Zd (g 8) (n+f.length))) :: (41,(Za ((n+f.length:Nat):Int))) :: (40,(Zd (g 6) (n+f.length))) :: (39,(Za ((n+f.length:Nat):Int))) :: (38,(Zd (g 4) (n+f.length))) :: (37,(Za ((n+f.length:Nat):Int))) :: (36,(Zd (g 2) (n+f.length))) :: (35,(Za ((n+f.length:Nat):Int))) :: (34,(Za n)) :: _) Y ?_ f_ ?_
 . skip
   refine mC rfl (fun g _ _=>qv rfl rfl (kC (v:=(Za n)) rfl)) (mC rfl (fun g _ _=>qv rfl rfl (kC (v:=(Za ((n+f.length:Nat):Int))) rfl)) (sB K (R:=fun J=>blk J 3 ((List.replicate (n+f.length) 0).flatMap fS)) (val:=fun J=>(Zd J (n+f.length))) s_ (fun _ _=>rfl) (fun g wq L hM N kM=>p7 (cf:=fS) (z0:=0) (m:=(n+f.length)) (c:=(n+f.length)) rfl rfl rfl yd gr rfl f_ d_ (zj _) o_ o_ hM (fun cc _ h=>kM cc _ h)) (fun _ _=>j7 rfl sT) (mC rfl (fun g _ _=>qv rfl rfl (kC (v:=(Za ((n+f.length:Nat):Int))) rfl)) (sB K (R:=fun H=>blk H 3 ((List.replicate (n+f.length) 0).flatMap fS)) (val:=fun H=>(Zd H (n+f.length))) s_ (fun _ _=>rfl) (fun g wq L hM N kM=>p7 (cf:=fS) (z0:=0) (m:=(n+f.length)) (c:=(n+f.length)) rfl rfl rfl yd gr rfl f_ d_ (zj _) o_ o_ hM (fun cd _ h=>kM cd _ h)) (fun _ _=>j7 rfl sT) (mC rfl (fun g _ _=>qv rfl rfl (kC (v:=(Za ((n+f.length:Nat):Int))) rfl)) (sB K (R:=fun G=>blk G 3 ((List.replicate (n+f.length) 0).flatMap fS)) (val:=fun G=>(Zd G (n+f.length))) s_ (fun _ _=>rfl) (fun g wq L hM N kM=>p7 (cf:=fS) (z0:=0) (m:=(n+f.length)) (c:=(n+f.length)) rfl rfl rfl yd gr rfl f_ d_ (zj _) o_ o_ hM (fun ce _ h=>kM ce _ h)) (fun _ _=>j7 rfl sT) (mC rfl (fun g _ _=>qv rfl rfl (kC (v:=(Za ((n+f.length:Nat):Int))) rfl)) ?_)))))))
   refine sB K (R:=fun D=>blk D 2 ((List.replicate (n+f.length) 0).flatMap fS)) (val:=fun D=>(Zd D (n+f.length))) s_ (fun _ _=>rfl) (fun g wq L hM N kM=>p7 (cf:=fS) (z0:=0) (m:=(n+f.length)) (c:=(n+f.length)) rfl rfl rfl yk ti2 rfl f_ d_ (zj _) o_ o_ hM (fun cg _ h=>kM cg _ h)) (fun _ _=>j7 rfl sT) (mC rfl (fun g _ _=>qv rfl rfl (kC (v:=(Za ((n+f.length:Nat):Int))) rfl)) (sB K (R:=fun A=>blk A 3 ((List.replicate (n+f.length) 0).flatMap fV)) (val:=fun A=>(Zd A (n+f.length))) s_ (fun _ _=>rfl) (fun g wq L hM N kM=>p7 (cf:=fV) (z0:=0) (m:=(n+f.length)) (c:=(n+f.length)) rfl rfl rfl yd gr rfl f_ d_ (zj _) o_ o_ hM (fun ch _ h=>kM ch _ h)) (fun _ _=>j7 rfl sT) (mC rfl (fun g _ _=>qv rfl rfl (Ag (pvs:=[(0,(Za n)),(1,(Zd (g 2) (n+f.length))),(2,(Zd (g 4) (n+f.length))),(3,(Zd (g 6) (n+f.length))),(4,(Zd (g 8) (n+f.length))),(5,(Zd (g 10) (n+f.length)))]) (v:=.agg (M9 n (g 2) (n+f.length) (g 4) (g 6) (g 8) (g 10))) rfl (jk [(0,(Ze n)),(1,(o5 (g 2) (n+f.length))),(2,(o5 (g 4) (n+f.length))),(3,(o5 (g 6) (n+f.length))),(4,(o5 (g 8) (n+f.length))),(5,(o5 (g 10) (n+f.length)))] wz acq rfl ⟨rfl,rfl,rfl,rfl,rfl,rfl,rfl,rfl,rfl,rfl,rfl,rfl,trivial⟩ rfl))) (sB K (R:=fun z=>blk z 83 ue) (val:=fun z=>(Zb z)) s_ (fun _ _=>rfl) (fun g wq L hM N kM=>E7 (cs:=ue) rfl wz rfl hM (fun ci _ h=>kM ci _ h)) (fun _ _=>j7 rfl sT) (JQ K (val:=fun b9=>undef) (fun _ _=>rfl) (fun g wq hM N kM=>Jr (L' := (MH (g 12) n (g 2) (n+f.length) (g 4) (g 6) (g 8) (g 10) ((List.replicate (n+f.length) 0).flatMap fV) ((List.replicate (n+f.length) 0).flatMap fS) fv f E)) 0 rfl rfl rfl rfl wz rfl rfl hM rfl rfl rfl rfl (fun _ h=>kM 0 _ h)) (fun _ _=>j7 rfl sT) ?_)))))
   exact JR
 intro P Q M
 generalize P 2=J at M ⊢
 generalize P 4=H at M ⊢
 generalize P 6=G at M ⊢
 generalize P 8=D at M ⊢
 generalize P 10=A at M ⊢
 generalize P 12=z at M ⊢
 have al:St _ [blk z 83 [(.int .i64 n),(.slice (some ⟨J,0,none⟩) (n+f.length) (n+f.length)),(.slice (some ⟨H,0,none⟩) (n+f.length) (n+f.length)),(.slice (some ⟨G,0,none⟩) (n+f.length) (n+f.length)),(.slice (some ⟨D,0,none⟩) (n+f.length) (n+f.length)),(.slice (some ⟨A,0,none⟩) (n+f.length) (n+f.length))],blk A 3 ((List.replicate (n+f.length) 0).flatMap fV),blk D 2 ((List.replicate (n+f.length) 0).flatMap fS),blk G 3 ((List.replicate (n+f.length) 0).flatMap fS),blk H 3 ((List.replicate (n+f.length) 0).flatMap fS),fL fS (.slice (some ⟨J,0,none⟩) (n+f.length) (n+f.length)) 3 1 (List.replicate (n+f.length) 0),fL fV fv 3 1 f,blk E 83 [(.int .i64 0),(.slice none 0 0),(.slice none 0 0),(.slice none 0 0),(.slice none 0 0),(.slice none 0 0)]] Q:=lR (cf:=fS) M (i:=5) rfl f_ (zj _) (by simp only[maxLen];omega)
 generalize (Value.slice (some ⟨J,0,none⟩) (n+f.length) (n+f.length))=j at al ⊢
 have am:St _ [blk z 83 [(.int .i64 n),j,(.slice (some ⟨H,0,none⟩) (n+f.length) (n+f.length)),(.slice (some ⟨G,0,none⟩) (n+f.length) (n+f.length)),(.slice (some ⟨D,0,none⟩) (n+f.length) (n+f.length)),(.slice (some ⟨A,0,none⟩) (n+f.length) (n+f.length))],blk A 3 ((List.replicate (n+f.length) 0).flatMap fV),blk D 2 ((List.replicate (n+f.length) 0).flatMap fS),blk G 3 ((List.replicate (n+f.length) 0).flatMap fS),fL fS (.slice (some ⟨H,0,none⟩) (n+f.length) (n+f.length)) 3 1 (List.replicate (n+f.length) 0),fL fS j 3 1 (List.replicate (n+f.length) 0),fL fV fv 3 1 f,blk E 83 [(.int .i64 0),(.slice none 0 0),(.slice none 0 0),(.slice none 0 0),(.slice none 0 0),(.slice none 0 0)]] Q:=lR (cf:=fS) al (i:=4) rfl f_ (zj _) (by simp only[maxLen];omega)
 generalize (Value.slice (some ⟨H,0,none⟩) (n+f.length) (n+f.length))=q at am ⊢
 have an:St _ [blk z 83 [(.int .i64 n),j,q,(.slice (some ⟨G,0,none⟩) (n+f.length) (n+f.length)),(.slice (some ⟨D,0,none⟩) (n+f.length) (n+f.length)),(.slice (some ⟨A,0,none⟩) (n+f.length) (n+f.length))],blk A 3 ((List.replicate (n+f.length) 0).flatMap fV),blk D 2 ((List.replicate (n+f.length) 0).flatMap fS),fL fS (.slice (some ⟨G,0,none⟩) (n+f.length) (n+f.length)) 3 1 (List.replicate (n+f.length) 0),fL fS q 3 1 (List.replicate (n+f.length) 0),fL fS j 3 1 (List.replicate (n+f.length) 0),fL fV fv 3 1 f,blk E 83 [(.int .i64 0),(.slice none 0 0),(.slice none 0 0),(.slice none 0 0),(.slice none 0 0),(.slice none 0 0)]] Q:=lR (cf:=fS) am (i:=3) rfl f_ (zj _) (by simp only[maxLen];omega)
 generalize (Value.slice (some ⟨G,0,none⟩) (n+f.length) (n+f.length))=t at an ⊢
 have ao:St _ [blk z 83 [(.int .i64 n),j,q,t,(.slice (some ⟨D,0,none⟩) (n+f.length) (n+f.length)),(.slice (some ⟨A,0,none⟩) (n+f.length) (n+f.length))],blk A 3 ((List.replicate (n+f.length) 0).flatMap fV),fL fS (.slice (some ⟨D,0,none⟩) (n+f.length) (n+f.length)) 2 1 (List.replicate (n+f.length) 0),fL fS t 3 1 (List.replicate (n+f.length) 0),fL fS q 3 1 (List.replicate (n+f.length) 0),fL fS j 3 1 (List.replicate (n+f.length) 0),fL fV fv 3 1 f,blk E 83 [(.int .i64 0),(.slice none 0 0),(.slice none 0 0),(.slice none 0 0),(.slice none 0 0),(.slice none 0 0)]] Q:=lR (cf:=fS) an (i:=2) rfl f_ (zj _) (by simp only[maxLen];omega)
 generalize (Value.slice (some ⟨D,0,none⟩) (n+f.length) (n+f.length))=B at ao ⊢
 have aa:St _ [blk z 83 [(.int .i64 n),j,q,t,B,(.slice (some ⟨A,0,none⟩) (n+f.length) (n+f.length))],fL fV (.slice (some ⟨A,0,none⟩) (n+f.length) (n+f.length)) 3 1 (List.replicate (n+f.length) 0),fL fS B 2 1 (List.replicate (n+f.length) 0),fL fS t 3 1 (List.replicate (n+f.length) 0),fL fS q 3 1 (List.replicate (n+f.length) 0),fL fS j 3 1 (List.replicate (n+f.length) 0),fL fV fv 3 1 f,blk E 83 [(.int .i64 0),(.slice none 0 0),(.slice none 0 0),(.slice none 0 0),(.slice none 0 0),(.slice none 0 0)]] Q:=lR (cf:=fV) ao (i:=1) rfl f_ (zj _) (by simp only[maxLen];omega)
 generalize (Value.slice (some ⟨A,0,none⟩) (n+f.length) (n+f.length))=C at aa ⊢
 refine CP tt none aa 4 ?_
 refine rF (cf:=iU.cells) (z0:=(⟨0,0⟩:iU)) (m:=n) (c:=n) rfl rfl rfl Tryz.underlying319 FM rfl f_ d_ (zj _) o_ o_ aa ?_
 intro ap aE br bs aF
 have ab:St _ [fL iU.cells (.slice (some ⟨ap,0,none⟩) n n) 143 2 (List.replicate n (⟨0,0⟩:iU)),blk z 83 [(.int .i64 n),j,q,t,B,C],fL fV C 3 1 (List.replicate (n+f.length) 0),fL fS B 2 1 (List.replicate (n+f.length) 0),fL fS t 3 1 (List.replicate (n+f.length) 0),fL fS q 3 1 (List.replicate (n+f.length) 0),fL fS j 3 1 (List.replicate (n+f.length) 0),fL fV fv 3 1 f,blk E 83 [(.int .i64 0),(.slice none 0 0),(.slice none 0 0),(.slice none 0 0),(.slice none 0 0),(.slice none 0 0)]] aE:=lR (cf:=iU.cells) aF (i:=0) rfl f_ (zj _) (by simp only[maxLen];omega)
 generalize (Value.slice (some ⟨ap,0,none⟩) n n)=I at ab ⊢
 have aG:=yg [1,6,5,4,3,2,0,7,8] ab
 have aH:=yv 1 aG rfl (congrArg (fL fS j 3 1) (FD (x := -1)))
 have aI:=yv 2 aH rfl (congrArg (fL fS q 3 1) (FD (x := -1)))
 have aJ:=yv 3 aI rfl (congrArg (fL fS t 3 1) (FD (x := -1)))
 refine gE ab 11 ?_
 refine lp (α:=Nat) (fun k=>[(0,(Za n)),(1,v),(4,(Zb E)),(5,Zc),(6,fv),(8,(Za ((n+f.length:Nat):Int))),(9,(Zb z)),(10,I),(48,(Za ((n+f.length:Nat):Int))),(49,(Za k))]) (fun k w1=>St [(w,[])] [blk z 83 (Zr n j q t B C),fL fS j 3 1 (nt (-1) 0 (n+f.length) k),fL fS q 3 1 (nt (-1) 0 (n+f.length) k),fL fS t 3 1 (nt (-1) 0 (n+f.length) k),fL fS B 2 1 (List.replicate (n+f.length) 0),fL fV C 3 1 (List.replicate (n+f.length) 0),fL iU.cells I 143 2 (List.replicate n (⟨0,0⟩:iU)),fL fV fv 3 1 f,blk E 83 ue] w1/\k<=n+f.length) (fun k=>n+f.length-k) 0 ⟨rfl,rfl,rfl,rfl,rfl,rfl,rfl,rfl,rfl,gp rO,trivial⟩ (⟨aJ,o_⟩) ?_
 rintro k bt bu ⟨b4,hk⟩
 have cA:=Sb (x:=(-1:Int)) (y:=0) hk
 refine fR b4 2 ?_
 by_cases bv:((k:Int):Int)<(((n+f.length:Nat):Int):Int)
 . refine gE b4 15 ?_
   refine kV mixed [([0,1,2,3,4,5,6,7,8,9,10],[4,7]),([11,12],[7])] [13,14] b4 (fun bw aq=>jM ?_)
   refine fK aq 10 ?_
   refine iK (f:=(fun _ => -1)) (cf:=fS) 1 aq (fun bx ac=>?_)
   refine fQ ac 1 ?_
   refine kL (jM ?_)
   refine fK ac 1 ?_
   refine iK (f:=(fun _ => -1)) (cf:=fS) 2 ac (fun bz ad=>?_)
   refine fQ ad 1 ?_
   refine kL (kW ?_)
   refine fK ad 1 ?_
   refine iK (f:=(fun _ => -1)) (cf:=fS) 3 ad (fun bA au=>?_)
   refine fQ au 7 ?_
   refine tN (?_)
   have aK:=yv 1 au rfl (congrArg (fL fS j 3 1) (FC o_))
   have aL:=yv 2 aK rfl (congrArg (fL fS q 3 1) (FC o_))
   have aM:=yv 3 aL rfl (congrArg (fL fS t 3 1) (FC o_))
   exact again (k+1) ⟨rfl,rfl,rfl,rfl,rfl,rfl,rfl,rfl,rfl,gp rO,trivial⟩ (⟨aM,o_⟩) (by show (n+f.length-(k+1):Nat)<n+f.length-k;omega)
 . have b5:k=n+f.length:=by omega
   have aN:=yv 1 b4 rfl (congrArg (fL fS j 3 1) ((congrArg (nt (-1) 0 (n+f.length)) b5).trans Km))
   have aO:=yv 2 aN rfl (congrArg (fL fS q 3 1) ((congrArg (nt (-1) 0 (n+f.length)) b5).trans Km))
   have aP:=yv 3 aO rfl (congrArg (fL fS t 3 1) ((congrArg (nt (-1) 0 (n+f.length)) b5).trans Km))
   have aQ:=yv 5 aP rfl (congrArg (fL fV C 3 1) (FD (x:=1)))
   have aR:=yv 6 aQ rfl (congrArg (fL iU.cells I 143 2) (agU))
   refine gE b4 18 ?_
   refine lp (α:=Nat) (fun F=>[(0,(Za n)),(1,v),(4,(Zb E)),(5,Zc),(6,fv),(8,(Za ((n+f.length:Nat):Int))),(9,(Zb z)),(10,I),(65,(Za n)),(66,(Za F))]) (fun F w1=>St [(w,[])] [blk z 83 (Zr n j q t B C),fL fS j 3 1 (List.replicate (n+f.length) (-1)),fL fS q 3 1 (List.replicate (n+f.length) (-1)),fL fS t 3 1 (List.replicate (n+f.length) (-1)),fL fS B 2 1 (List.replicate (n+f.length) 0),fL fV C 3 1 (nt 1 0 (n+f.length) F),fL iU.cells I 143 2 (rM n F),fL fV fv 3 1 f,blk E 83 ue] w1/\F<=n) (fun F=>n-F) 0 ⟨rfl,rfl,rfl,rfl,rfl,rfl,rfl,rfl,rfl,gp rO,trivial⟩ (⟨aR,o_⟩) ?_
   rintro F bB bC ⟨b2,co⟩
   have cB:=Sb (x:=(1:Nat)) (y:=0) (show F<=n+f.length by omega)
   have cD:=agS co
   refine fR b2 2 ?_
   by_cases bD:((F:Int):Int)<((n:Int):Int)
   . refine fK b2 21 ?_
     refine iK (f:=(fun _=>1)) (cf:=fV) 5 b2 (fun bE ae=>?_)
     refine fK ae 7 ?_
     refine i7 (pvs:=[(0,(Za F)),(1,(Za F))]) (v:=.agg #[(Za F),(Za F)]) rfl rfl (uk [(0,(Ze F)),(1,(Ze F))] FM yq gr rfl ⟨rfl,rfl,rfl,rfl,trivial⟩ rfl s_) (fK ae 1 ?_)
     refine iK (f:=(fun _=>(⟨F,F⟩:iU))) 6 ae (fun bF av=>?_)
     refine fQ av 7 ?_
     refine tN (?_)
     have aS:=yv 5 av rfl (congrArg (fL fV C 3 1) (FC o_))
     have aT:=yv 6 aS rfl (congrArg (fL iU.cells I 143 2) (agT o_))
     exact again (F+1) ⟨rfl,rfl,rfl,rfl,rfl,rfl,rfl,rfl,rfl,gp rO,trivial⟩ (⟨aT,o_⟩) (by show (n-(F+1):Nat)<n-F;omega)
   . refine fK b2 14 ?_
     refine jb (m:=f.length) 7 rfl rfl yd b2 rfl ?_
     have b8:F=n:=by omega
     have aU:=yv 5 b2 rfl (congrArg (fL fV C 3 1) (((congrArg (nt 1 0 (n+f.length)) b8).trans (by unfold nt;rfl))))
     have aV:=yv 6 aU rfl (congrArg (fL iU.cells I 143 2) ((congrArg (rM n) b8).trans agR))
     have aW:=yv 1 aV rfl (congrArg (fL fS j 3 1) (rfl))
     have aX:=yv 2 aW rfl (congrArg (fL fS q 3 1) (rfl))
     have aY:=yv 3 aX rfl (congrArg (fL fS t 3 1) (rfl))
     have aZ:=yv 4 aY rfl (congrArg (fL fS B 2 1) (rfl))
     refine gE b2 4 ?_
     refine lp (α:=Nat×List iU) (fun(i,us)=>[(0,(Za n)),(1,v),(4,(Zb E)),(5,Zc),(6,fv),(9,(Zb z)),(10,I),(80,fv),(81,(Za f.length)),(82,(Za i))]) (fun(i,us) w1=>St [(w,[])] [blk z 83 (Zr n j q t B C),fL fS j 3 1 ((gL es n f i).l),fL fS q 3 1 ((gL es n f i).r),fL fS t 3 1 ((gL es n f i).p),fL fS B 2 1 ((gL es n f i).h),fL fV C 3 1 ((gL es n f i).s),fL iU.cells I 143 2 us,fL fV fv 3 1 f,blk E 83 ue] w1/\i<=f.length/\qy es n f i us) (fun(i,us)=>f.length-i) (0,((List.range n).map fun i=>⟨i,i⟩)) ⟨rfl,rfl,rfl,rfl,rfl,rfl,rfl,rfl,rfl,gp rO,trivial⟩ (⟨aZ,o_,qy.start⟩) ?_
     rintro⟨i,us⟩ bG a0 ⟨bk,hi,hT⟩
     obtain⟨ct,cu,cv,cw,cx,cy⟩:=Bk (es:=es) (n:=n) (f:=f) i
     have cC:=hT.un.len
     refine fR bk 2 ?_
     by_cases bH:((i:Int):Int)<((f.length:Int):Int)
     . have b1:i<f.length:=by omega
       have cz:fJ f i<es.length:=bY.lt (zg (gB b1))
       obtain⟨cp,cq,cj,ck,b6⟩:=hT.at hg b1 (fun k hk=>bY.lt hk) (bY.mo b1)
       obtain⟨T,bZ⟩:∃ x,(fJ (ir es n (f.take i)) (fJ es (fJ f i)).u)=x:=⟨_,rfl⟩
       obtain⟨y7,b0⟩:∃ x,(fJ (ir es n (f.take i)) (fJ es (fJ f i)).v)=x:=⟨_,rfl⟩
       refine fK bk 1 ?_
       rw[bZ]at cj b6
       rw[b0]at ck b6
       obtain⟨cm,cn,b7⟩:=hT.two hg b1 (fun k hk=>bY.lt hk) (bY.mo b1) bZ b0
       refine fK bk 21 ?_
       refine ar (e:=((n+i:Nat):Int)) rfl rfl rfl rfl iT (gE bk 4 ?_)
       have a1:=yg [6,0,1,2,3,4,5,7,8] bk
       have a2:St _ [(Un.R I n (ir es n (f.take i)) (gL es n f i).d us),blk z 83 (Zr n j q t B C),fL fS j 3 1 ((gL es n f i).l),fL fS q 3 1 ((gL es n f i).r),fL fS t 3 1 ((gL es n f i).p),fL fS B 2 1 ((gL es n f i).h),fL fV C 3 1 ((gL es n f i).s),fL fV fv 3 1 f,blk E 83 ue] a0:=yr a1 ⟨hT.un,hT.dd⟩
       refine kV mixed [([0,1,2,3,4,5,7,8,9,10,11,12,6],[12])] [13,14,15] a2 (fun a3 af=>jM ?_)
       refine fK af 12 ?_
       refine cl Ox (Tm I n (ir es n (f.take i)) (gL es n f i).d us a3 (yf af 0 rfl) o_ ((fJ es (fJ f i)).u) o_ bZ) ?_
       rintro _ a4 ⟨a5,rfl,ht⟩
       have ag:=yn 0 af ht
       refine fQ ag 1 ?_
       refine kL (kW ?_)
       refine cl Ox (Tm I n (ir es n (f.take i)) (gL es n f i).d a5 a4 (yf ag 0 rfl) o_ ((fJ es (fJ f i)).v) o_ b0) ?_
       rintro _ bI ⟨O,rfl,ht⟩
       have S:=yn 0 ag ht
       refine fK S 8 ?_
       refine min2 (a:=(T:Int)) (b:=(y7:Int)) (c:=((min T y7:Nat):Int)) rfl rfl rfl Fg (fK S 2 ?_)
       refine max2 (a:=(T:Int)) (b:=(y7:Int)) (c:=((max T y7:Nat):Int)) rfl rfl rfl aa4 ?_
       have U:=pP S
       have a6:=jO S
       have V:=U.2 (min T y7) o_
       have W:=U.2 (max T y7) o_
       have cE:=U.1.len
       refine gE S 5 ?_
       rw[<-V]at cm b7
       rw[<-W]at cn b7
       refine nI a6 4 fun bJ X=>?_
       refine uz (cf:=iU.cells) (k:=(min T y7)) (off:=0) (off' := 1) (i:=1) rfl rfl rfl yq gr d_ rfl (y0 X 0 rfl) (gB om) (fK X 4 ?_)
       refine uz (cf:=iU.cells) (k:=(max T y7)) (off:=0) (off' := 1) (i:=1) rfl rfl rfl yq gr d_ rfl (y0 X 0 rfl) (gB om) (gE X 6 ?_)
       refine kV mixed [([0,1,2,3,4,5,6,7,8,9],[4])] [10,11] X (fun bK aw=>jM ?_)
       refine fK aw 9 ?_
       refine iK (f:=(fun _=>((fJ O (min T y7)).b:Int))) 2 aw (fun bL ah=>?_)
       refine fQ ah 1 ?_
       refine kL (kW ?_)
       refine fK ah 1 ?_
       refine iK (f:=(fun _=>((fJ O (max T y7)).b:Int))) 3 ah (fun bM ax=>?_)
       refine gE ax 3 ?_
       refine kV mixed [([0,1,2,3,4,5,6,7,8,9],[4])] [10,11] ax (fun bN ay=>jM ?_)
       refine fK ay 9 ?_
       refine iK (f:=(fun _=>((n+i:Nat):Int))) 4 ay (fun bO ai=>?_)
       refine fQ ai 1 ?_
       refine kL (kW ?_)
       refine fK ai 1 ?_
       refine iK (f:=(fun _=>((n+i:Nat):Int))) 4 ai (fun bP a7=>?_)
       refine gI a7 13 fun bQ a8=>?_
       refine iK (f:=(fun _=>(fJ es (fJ f i)).w)) 5 a8 (fun bR a9=>?_)
       refine gI a9 17 fun bS az=>?_
       refine ar (e:=(((fJ ((gL es n f i).s) ((fJ O (min T y7)).b))+(fJ ((gL es n f i).s) ((fJ O (max T y7)).b)):Nat):Int)) rfl rfl rfl rfl iT (fK az 1 ?_)
       refine iK (f:=(fun _=>((fJ ((gL es n f i).s) ((fJ O (min T y7)).b))+(fJ ((gL es n f i).s) ((fJ O (max T y7)).b))))) 6 az (fun bT ba=>?_)
       refine gI ba 10 fun bU aA=>?_
       refine uz (cf:=iU.cells) (k:=(max T y7)) (off:=0) (off' := 0) (i:=0) rfl rfl rfl yq gr d_ rfl (y0 aA 0 rfl) (gB om) (iK (f:=(fun x:iU=>{ x with a:=(min T y7) })) 0 aA (fun bV aj=>?_))
       refine fK aj 1 ?_
       refine uz (cf:=iU.cells) (k:=(min T y7)) (off:=0) (off' := 1) (i:=1) rfl rfl rfl yq gr d_ rfl (y0 aj 0 rfl) (gB om) (iK (f:=(fun x:iU=>{ x with b:=(n+i) })) 0 aj (fun bW aB=>?_))
       refine fQ aB 7 ?_
       refine tN (?_)
       have bb:=yg [1,2,3,4,5,6,0,7,8] aB
       have bc:=yv 1 bb rfl (congrArg (fL fS j 3 1) (by subst bZ b0;simp only[V,W];rfl))
       have bd:=yv 2 bc rfl (congrArg (fL fS q 3 1) (by subst bZ b0;simp only[V,W];rfl))
       have be:=yv 3 bd rfl (congrArg (fL fS t 3 1) (by subst bZ b0;simp only[V,W];rfl))
       have bf:=yv 4 be rfl (congrArg (fL fS B 2 1) (rfl))
       have bg:=yv 5 bf rfl (congrArg (fL fV C 3 1) (by subst bZ b0;simp only[V,W];rfl))
       exact again ((i+1),fN (fN O (max T y7) (fun x=>{ x with a:=(min T y7) })) (min T y7) (fun x=>{ x with b:=(n+i) })) ⟨rfl,rfl,rfl,rfl,rfl,rfl,rfl,rfl,rfl,gp rO,trivial⟩ (⟨bg,o_,hT.next hg b1 (fun k hk=>bY.lt hk) (bY.mo b1) U.1 U.2 (by subst bZ b0;rfl)⟩) (by show (f.length-(i+1):Nat)<f.length-i;omega)
     . refine fK bk 13 ?_
       refine jV 8 bk (fun bX ak=>?_) (h1:=(ia rfl (ia (yw bk (i:=1) rfl) (ia (yw bk (i:=2) rfl) (ia (yw bk (i:=3) rfl) (ia (yw bk (i:=4) rfl) (ia (yw bk (i:=5) rfl) kR)))))))
       refine fQ ak 4 ?_
       refine oh (v:=(zK n j q t B C)) (v' := Zc) Tryz.results132 (nH (cs:=(Zr n j q t B C)) rfl Tryz.underlying83 rfl wz rfl (lQ ak (i:=8) (o:=0) (vs:=(Zr n j q t B C)) rfl rfl)) (oN rfl) ?_
       have b3:i=f.length:=by omega
       have bh:=yv 1 ak rfl (congrArg (fL fS j 3 1) (by rw[b3]<;>rfl))
       have bi:=yv 2 bh rfl (congrArg (fL fS q 3 1) (by rw[b3]<;>rfl))
       have bj:=yv 3 bi rfl (congrArg (fL fS t 3 1) (by rw[b3]<;>rfl))
       have bl:=yv 4 bj rfl (congrArg (fL fS B 2 1) (by rw[b3]<;>rfl))
       have bm:=yv 5 bl rfl (congrArg (fL fV C 3 1) (by rw[b3]<;>rfl))
       have bn:=yg [1,2,3,4,5] bm
       exact⟨f,j,q,t,B,C,rfl,bY,nO (yc [_,_,_,_,_] _ bn)⟩
end
section
open Go Go.Sx
structure mK (w:World) (es:List Ge) (n:Nat) (f:List Nat) (tl tr tp th ts:Value):Prop where
 l:gU 1 fS (fun _=>True) w tl (fU es n f).l
 r:gU 1 fS (fun _=>True) w tr (fU es n f).r
 p:gU 1 fS (fun _=>True) w tp (fU es n f).p
 h:gU 1 fS (fun _=>True) w th (fU es n f).h
 s:gU 1 fV (fun _=>True) w ts (fU es n f).s
theorem mK.to{bs:List (World×List Nat)}{L:List fT}{w w0:World}{es:List Ge}{n:Nat}{f:List Nat}{b d c a e:Value}(h:mK w0 es n f b d c a e)(hs:St bs L w)(hb:(w0,[])∈bs):mK w es n f b d c a e :=
 ⟨yx hs hb d_ h.l,yx hs hb d_ h.r,yx hs hb d_ h.p,yx hs hb d_ h.h,yx hs hb d_ h.s⟩
theorem aaC(es:List Ge)(n:Nat)(f:List Nat)(o:iA es n f)(I:n<=4096)(t y u q z:Value)(w:World)(m:mK w es n f t y u q z)(x:Nat)(A:x<n) :
 CR ya 250 (zP n t y u q z x) w (fun r w' => r = .bool true/\gw [] w w'):=by
 obtain⟨D,E,F,G,H⟩:=lJ (es:=es) (n:=n) (f:=f)
 have C:=o.f.room o.g
 refine en Tryz.func250 Tryz.ntmps250 ?_
 have p:=yu w
 obtain⟨a1,a2,a3,B⟩:fJ (fU es n f).l x = -1/\fJ (fU es n f).r x = -1/\fJ (fU es n f).h x=0/\fJ (fU es n f).s x=1:=o.v.a x A
 refine fR p 2 ?_
 refine gW p (fun c d e j b=>?_)
 refine fK b 8 ?_
 refine iD (k:=x) (i:=(x:Int)) rfl rfl rfl yd gr m.l o_ o_ (gB o_) (iY rfl rfl ye rfl (yx b s_ d_ m.l) (gB o_) rfl (cmp rfl rfl rfl (qH o_) (fK b 4 ?_)))
 refine iD (k:=x) (i:=(x:Int)) rfl rfl rfl yd gr m.r o_ o_ (gB o_) (iY rfl rfl ye rfl (yx b s_ d_ m.r) (gB o_) rfl (cmp rfl rfl rfl (qH o_) (fK b 5 ?_)))
 refine iD (k:=x) (i:=(x:Int)) rfl rfl rfl yk ti2 m.h o_ o_ (gB o_) (iY rfl rfl pN rfl (yx b s_ d_ m.h) (gB o_) rfl (cmp rfl rfl rfl (qH o_) (fK b 5 ?_)))
 refine iD (k:=x) (i:=(x:Int)) rfl rfl rfl yd gr m.s o_ o_ (gB o_) (iY rfl rfl ye rfl (yx b s_ d_ m.s) (gB o_) rfl (cmp rfl rfl rfl (qH o_) (fQ b 5 ?_)))
 refine gq (v:=Zf) Tryz.results250 rfl ?_
 exact⟨rfl,b.gy s_⟩
theorem ZO(es:List Ge)(n:Nat)(f:List Nat)(D:iA es n f)(hn:n<=4096)(L N M K O:Value)(w:World)(C:mK w es n f L N M K O)(i:Nat)(hi:i<f.length)(ev:Value)(le:List Nat)(Z:gU 1 fV (fun _=>True) w ev le)(Q:le[nL es n f i]? = some (gH es n f (nL es n f i)))(R:le[nR es n f i]? = some (gH es n f (nR es n f i))) :
 CR ya 252 #[(zK n L N M K O),ev,(Za ((n+i:Nat):Int))] w (fun r w' => r = .bool true/\gw [] w w'):=by
 obtain⟨ab,ac,ad,ae,af⟩:=lJ (es:=es) (n:=n) (f:=f)
 have aa:=D.f.room D.g
 refine en Tryz.func252 Tryz.ntmps252 ?_
 have J:=yu w
 obtain⟨e1,F,G,H,I,U,V,W,X,S⟩:=D.inner hi
 obtain⟨k1,k2,k3⟩:=D.vP hi
 have s1:=(D.st hi).1
 have ag:fJ (fU es n f).s (nL es n f i)<=n:=by omega
 have ah:fJ (fU es n f).s (nR es n f i)<=n:=by omega
 refine fR J 2 ?_
 refine gW J (fun o q t u j=>?_)
 refine gI j 8 fun x a=>?_
 refine iD (k:=(n+i)) (i:=((n+i:Nat):Int)) rfl rfl rfl yd gr C.l o_ o_ e1 (iY rfl rfl ye rfl (yx a s_ d_ C.l) e1 rfl (fK a 3 ?_))
 refine iD (k:=(n+i)) (i:=((n+i:Nat):Int)) rfl rfl rfl yd gr C.r o_ o_ F (iY rfl rfl ye rfl (yx a s_ d_ C.r) F rfl (fK a 8 ?_))
 refine cmp rfl rfl rfl (kT o_) (fK a 3 ?_)
 refine cmp rfl rfl rfl (oG o_) (fK a 3 ?_)
 refine cmp rfl rfl rfl (kT o_) (fK a 4 ?_)
 refine cmp rfl rfl rfl (oG o_) (fK a 4 ?_)
 refine cmp rfl rfl rfl (uo o_) (gI a 12 fun z c=>?_)
 refine iD (k:=(nL es n f i)) (i:=(((nL es n f i):Nat):Int)) rfl rfl rfl yd gr C.p o_ o_ H (iY rfl rfl ye rfl (yx c s_ d_ C.p) H rfl (fK c 1 ?_))
 refine cmp rfl rfl rfl (oH o_) (fK c 4 ?_)
 refine iD (k:=(nR es n f i)) (i:=(((nR es n f i):Nat):Int)) rfl rfl rfl yd gr C.p o_ o_ I (iY rfl rfl ye rfl (yx c s_ d_ C.p) I rfl (fK c 1 ?_))
 refine cmp rfl rfl rfl (oH o_) (fK c 10 ?_)
 refine cmp rfl rfl rfl (oG o_) (gI c 12 fun A d=>?_)
 refine iD (k:=(n+i)) (i:=((n+i:Nat):Int)) rfl rfl rfl yd gr C.s o_ o_ (gB o_) (iY rfl rfl ye rfl (yx d s_ d_ C.s) (gB o_) rfl (fK d 3 ?_))
 refine iD (k:=(nL es n f i)) (i:=(((nL es n f i):Nat):Int)) rfl rfl rfl yd gr C.s o_ o_ (gB o_) (iY rfl rfl ye rfl (yx d s_ d_ C.s) (gB o_) rfl (fK d 3 ?_))
 refine iD (k:=(nR es n f i)) (i:=(((nR es n f i):Nat):Int)) rfl rfl rfl yd gr C.s o_ o_ (gB o_) (iY rfl rfl ye rfl (yx d s_ d_ C.s) (gB o_) rfl (ar (e:=(((fJ (fU es n f).s (nL es n f i))+(fJ (fU es n f).s (nR es n f i)):Nat):Int)) rfl rfl rfl rfl iT (cmp rfl rfl rfl (oH o_) ?_)))
 have P:¬ ((n+i:Nat):Int)=(n:Int)->∃ y,(fU es n f).h[n+i-1]? = some y/\y<=(fJ es (fJ f i)).w:=fun Y=>⟨_,by have e:=(D.inner (show i-1<f.length by omega)).2.2.1;rwa [show n+(i-1)=n+i-1 by omega]at e,by have e:=D.f.kj (i:=i-1) o_;rwa [show i-1+1=i by omega]at e⟩
 refine gI d 10 fun B b=>?_
 by_cases m:(((n+i:Nat):Int):Int)=((n:Int):Int)
 . refine fQ b 19 ?_
   refine gq (v:=Zf) Tryz.results252 rfl ?_
   exact⟨rfl,b.gy s_⟩
 . obtain⟨ai,E,T⟩:=P m
   refine fK b 5 ?_
   refine iD (k:=(n+i)) (i:=((n+i:Nat):Int)) rfl rfl rfl yk ti2 C.h o_ o_ G (iY rfl rfl pN rfl (yx b s_ d_ C.h) G rfl (fK b 3 ?_))
   refine ar (e:=((n+i-1:Nat):Int)) rfl rfl rfl rfl iT (iD (k:=(n+i-1)) (i:=((n+i-1:Nat):Int)) rfl rfl rfl yk ti2 C.h o_ o_ E (iY rfl rfl pN rfl (yx b s_ d_ C.h) E rfl (cmp rfl rfl rfl (nk o_) (fQ b 5 ?_))))
   refine gq (v:=Zf) Tryz.results252 rfl ?_
   exact⟨rfl,b.gy s_⟩
theorem Uy(es:List Ge)(n:Nat)(f:List Nat)(h:iA es n f)(D:n<=4096)(o s q m t:Value)(w:World)(j:mK w es n f o s q m t)(y:Nat)(E:y<n+f.length)(h1:(fU es n f).p[y]? = some (-1)) :
 CR ya 254 (zP n o s q m t y) w (fun r w' => r = .bool true/\gw [] w w'):=by
 obtain⟨x,z,A,B,C⟩:=lJ (es:=es) (n:=n) (f:=f)
 have u:=h.f.room h.g
 refine en Tryz.func254 Tryz.ntmps254 ?_
 have l:=yu w
 refine fR l 2 ?_
 refine gW l (fun b c d e a=>?_)
 refine fK a 8 ?_
 refine iD (k:=y) (i:=(y:Int)) rfl rfl rfl yd gr j.p o_ o_ h1 (iY rfl rfl ye rfl (yx a s_ d_ j.p) h1 rfl (fK a 7 ?_))
 refine cmp rfl rfl rfl (qH o_) (fQ a 10 ?_)
 refine gq (v:=Zf) Tryz.results254 rfl ?_
 exact⟨rfl,a.gy s_⟩
theorem UB(es:List Ge)(n:Nat)(f:List Nat)(j:iA es n f)(O:n<=4096)(s t m q u:Value)(w:World)(h:mK w es n f s t m q u)(y i:Nat)(hi:i<f.length)(h1:(fU es n f).p[y]? = some ((n+i:Nat):Int))(H:y=nL es n f i) :
 CR ya 254 (zP n s t m q u y) w (fun r w' => r = .bool true/\gw [] w w'):=by
 obtain⟨J,K,L,M,N⟩:=lJ (es:=es) (n:=n) (f:=f)
 have I:=j.f.room j.g
 have P:y<n+f.length:=by obtain⟨_,_,_,_,_,_,_,x,z,_⟩:=j.inner hi;omega
 refine en Tryz.func254 Tryz.ntmps254 ?_
 have o:=yu w
 obtain⟨e1,B,C,D,E,F,G,x,z,A⟩:=j.inner hi
 refine fR o 2 ?_
 refine gW o (fun b c d e a=>?_)
 refine fK a 8 ?_
 refine iD (k:=y) (i:=(y:Int)) rfl rfl rfl yd gr h.p o_ o_ h1 (iY rfl rfl ye rfl (yx a s_ d_ h.p) h1 rfl (fK a 7 ?_))
 refine cmp rfl rfl rfl (uo o_) (fK a 8 ?_)
 refine cmp rfl rfl rfl (nk o_) (fK a 4 ?_)
 refine jX (v:=m) rfl rfl yd h.p (cmp rfl rfl rfl (oF o_) (fK a 5 ?_))
 refine iD (k:=(n+i)) (i:=((n+i:Nat):Int)) rfl rfl rfl yd gr h.l o_ o_ e1 (iY rfl rfl ye rfl (yx a s_ d_ h.l) e1 rfl (fK a 1 ?_))
 refine cmp rfl rfl rfl (qH o_) (fQ a 14 ?_)
 refine gq (v:=Zf) Tryz.results254 rfl ?_
 exact⟨rfl,a.gy s_⟩
theorem UC(es:List Ge)(n:Nat)(f:List Nat)(j:iA es n f)(O:n<=4096)(t u m s x:Value)(w:World)(h:mK w es n f t u m s x)(y i:Nat)(hi:i<f.length)(h1:(fU es n f).p[y]? = some ((n+i:Nat):Int))(H:y=nR es n f i) :
 CR ya 254 (zP n t u m s x y) w (fun r w' => r = .bool true/\gw [] w w'):=by
 obtain⟨J,K,L,M,N⟩:=lJ (es:=es) (n:=n) (f:=f)
 have I:=j.f.room j.g
 have P:y<n+f.length:=by obtain⟨_,_,_,_,_,_,_,z,A,_⟩:=j.inner hi;omega
 refine en Tryz.func254 Tryz.ntmps254 ?_
 have q:=yu w
 obtain⟨e1,o,C,D,E,F,G,z,A,B⟩:=j.inner hi
 refine fR q 2 ?_
 refine gW q (fun b c d e a=>?_)
 refine fK a 8 ?_
 refine iD (k:=y) (i:=(y:Int)) rfl rfl rfl yd gr h.p o_ o_ h1 (iY rfl rfl ye rfl (yx a s_ d_ h.p) h1 rfl (fK a 7 ?_))
 refine cmp rfl rfl rfl (uo o_) (fK a 8 ?_)
 refine cmp rfl rfl rfl (nk o_) (fK a 4 ?_)
 refine jX (v:=m) rfl rfl yd h.p (cmp rfl rfl rfl (oF o_) (fK a 5 ?_))
 refine iD (k:=(n+i)) (i:=((n+i:Nat):Int)) rfl rfl rfl yd gr h.l o_ o_ e1 (iY rfl rfl ye rfl (yx a s_ d_ h.l) e1 rfl (fK a 1 ?_))
 refine cmp rfl rfl rfl (uo o_) (fK a 4 ?_)
 refine iD (k:=(n+i)) (i:=((n+i:Nat):Int)) rfl rfl rfl yd gr h.r o_ o_ o (iY rfl rfl ye rfl (yx a s_ d_ h.r) o rfl (fK a 1 ?_))
 refine cmp rfl rfl rfl (qH o_) (fQ a 6 ?_)
 refine gq (v:=Zf) Tryz.results254 rfl ?_
 exact⟨rfl,a.gy s_⟩
theorem UD(es:List Ge)(n:Nat)(f:List Nat)(h:iA es n f)(l:n<=4096)(b d c a e:Value)(w:World)(k:mK w es n f b d c a e)(y:Nat)(o:y<n+f.length) :
 CR ya 254 (zP n b d c a e y) w (fun r w' => r = .bool true/\gw [] w w'):=by
 rcases h.par o with g|⟨i,g,m,j|j⟩
 . exact Uy es n f h l b d c a e w k y o g
 . exact UB es n f h l b d c a e w k y i g m j
 . exact UC es n f h l b d c a e w k y i g m j
theorem ZN(es:List Ge)(n:Nat)(f:List Nat)(g:iA es n f)(p:n<=4096)(b d c a e:Value)(w:World)(m:mK w es n f b d c a e)(x:Nat)(q:n<=x)(s:x<n+f.length)(ev:Value)(le:List Nat)(o:gU 1 fV (fun _=>True) w ev le)(h:∀ k,k<x->le[k]? = some (gH es n f k)) :
 CR ya 252 #[(zK n b d c a e),ev,(Za x)] w (fun r w' => r = .bool true/\gw [] w w'):=by
 obtain⟨i,rfl⟩:∃ i,x=n+i:=⟨x-n,o_⟩
 obtain⟨_,_,_,_,_,_,_,j,l,_⟩:=g.inner (show i<f.length by omega)
 exact ZO es n f g p b d c a e w m i o_ ev le o (h _ j) (h _ l)
theorem VA(es:List Ge)(n:Nat)(f:List Nat)(l:iA es n f)(o:n<=4096)(h j i g k:Value)(w:World)(m:mK w es n f h j i g k)(tb:Nat) (hb:(blk tb 83 (Zr n h j i g k)).holds w) (x:Nat) (p:x<n+f.length) :
 CR ya 249 (BO x tb) w (fun r w' => r = .bool true/\gw [] w w'):=by
 refine en Tryz.func249 Tryz.ntmps249 ?_
 have e:=yu w
 refine fR e 10 ?_
 by_cases c:((x:Int):Int)≥((n:Int):Int)
 . refine fQ e 10 ?_
   refine gq (v:=Zf) Tryz.results249 rfl ?_
   exact⟨rfl,e.gy s_⟩
 . refine fK e 4 ?_
   refine cl W9 (aaC es n f l o h j i g k w m x o_) ?_
   rintro _ d ⟨rfl,b⟩
   have a:=yo e b
   refine fQ a 5 ?_
   refine gq (v:=Zf) Tryz.results249 rfl ?_
   exact⟨rfl,a.gy s_⟩
theorem VB(es:List Ge)(n:Nat)(f:List Nat)(m:iA es n f)(s:n<=4096)(h j i g l:Value)(w:World)(o:mK w es n f h j i g l)(tb:Nat) (hb:(blk tb 83 (Zr n h j i g l)).holds w)(lb:Nat) (ev:Value) (le:List Nat) (u:(blk lb 35 [ev]).holds w) (p:gU 1 fV (fun _=>True) w ev le) (x:Nat) (t:x<n+f.length) (q:∀ k,k<x->le[k]? = some (gH es n f k)) :
 CR ya 251 (Mj x tb lb) w (fun r w' => r = .bool true/\gw [] w w'):=by
 refine en Tryz.func251 Tryz.ntmps251 ?_
 have e:=yu w
 refine fR e 10 ?_
 by_cases c:((x:Int):Int)<((n:Int):Int)
 . refine fQ e 11 ?_
   refine gq (v:=Zf) Tryz.results251 rfl ?_
   exact⟨rfl,e.gy s_⟩
 . refine fK e 5 ?_
   refine cl Xb (ZN es n f m s h j i g l w o x o_ t ev le p q) ?_
   rintro _ d ⟨rfl,b⟩
   have a:=yo e b
   refine fQ a 5 ?_
   refine gq (v:=Zf) Tryz.results251 rfl ?_
   exact⟨rfl,a.gy s_⟩
theorem VC(es:List Ge)(n:Nat)(f:List Nat)(k:iA es n f)(m:n<=4096)(e h g d i:Value)(w:World)(l:mK w es n f e h g d i)(tb:Nat) (hb:(blk tb 83 (Zr n e h g d i)).holds w) (x:Nat) (o:x<n+f.length) :
 CR ya 253 (BO x tb) w (fun r w' => r = .bool true/\gw [] w w'):=by
 refine en Tryz.func253 Tryz.ntmps253 ?_
 have j:=yu w
 refine fR j 9 ?_
 refine cl Xd (UD es n f k m e h g d i w l x o) ?_
 rintro _ c ⟨rfl,b⟩
 have a:=yo j b
 refine fQ a 4 ?_
 refine gq (v:=Zf) Tryz.results253 rfl ?_
 exact⟨rfl,a.gy s_⟩
theorem Y9(es:List Ge)(n:Nat)(f:List Nat)(y:iA es n f)(A:n<=4096)(q t s p u:Value)(w:World)(z:mK w es n f q t s p u)(tb:Nat) (hb:(blk tb 83 (Zr n q t s p u)).holds w)(lb:Nat) (ev:Value) (le:List Nat) (D:(blk lb 35 [ev]).holds w) (C:gU 1 fV (fun _=>True) w ev le)(cb:Nat) (cv:Value) (F:(blk cb 370 [cv]).holds w) (m:gU 1 Pg (fun _=>True) w cv (BR tb lb)) (x:Nat) (B:x<n+f.length) (E:∀ k,k<x->le[k]? = some (gH es n f k)) :
 CR ya 255 (BO x cb) w (fun r w' => r = .bool true/\gw [] w w'):=by
 refine en Tryz.func255 Tryz.ntmps255 ?_
 have o:=yu w
 refine fR o 9 ?_
 refine jX (v:=cv) rfl rfl Bu m (gE o 4 ?_)
 refine qi 4 (iz (fR o 2 ?_))
 refine cmp rfl rfl rfl (oF s_) (fK o 10 ?_)
 refine iD (k:=0) (i:=0) rfl rfl rfl Bu C4 m o_ o_ rfl (iY rfl rfl Tryz.underlying247 rfl m rfl rfl (fK o 7 ?_))
 refine pq (fi:=[]) (ca:=(Zh tb)) rfl rfl rfl W8 (VA es n f y A q t s p u w z tb hb x B) ?_
 rintro _ d ⟨rfl,e⟩
 have a:=yo o e
 refine fQ a 11 ?_
 refine tN (?_)
 refine iz (fR a 2 ?_)
 refine cmp rfl rfl rfl (oF s_) (fK a 10 ?_)
 refine iD (k:=1) (i:=1) rfl rfl rfl Bu C4 m o_ o_ rfl (iY rfl rfl Tryz.underlying247 rfl (yx a s_ d_ m) rfl rfl (fK a 7 ?_))
 refine pq (fi:=[]) (ca:=(Z5 tb lb)) rfl rfl rfl Xa (VB es n f y A q t s p u d (z.to a s_) tb (tM a s_ hb) lb ev le (tM a s_ D) (yx a s_ d_ C) x B E) ?_
 rintro _ g ⟨rfl,h⟩
 have b:=yo a h
 refine fQ b 11 ?_
 refine tN (?_)
 refine iz (fR b 2 ?_)
 refine cmp rfl rfl rfl (oF s_) (fK b 10 ?_)
 refine iD (k:=2) (i:=2) rfl rfl rfl Bu C4 m o_ o_ rfl (iY rfl rfl Tryz.underlying247 rfl (yx b s_ d_ m) rfl rfl (fK b 7 ?_))
 refine pq (fi:=[]) (ca:=(Zh tb)) rfl rfl rfl Xc (VC es n f y A q t s p u g (z.to b s_) tb (tM b s_ hb) x B) ?_
 rintro _ l ⟨rfl,j⟩
 have c:=yo b j
 refine fQ c 11 ?_
 refine tN (?_)
 refine iz (fR c 2 ?_)
 refine cmp rfl rfl rfl (kT s_) (fQ c 15 ?_)
 refine gq (v:=Zf) Tryz.results255 rfl ?_
 exact⟨rfl,c.gy s_⟩
theorem Jl(es:List Ge)(n:Nat)(f:List Nat)(hF:iA es n f)(hn:n<=4096)(tl tr tp th ts:Value)(w:World)(F:mK w es n f tl tr tp th ts) :
 CR ya 202 (BM n tl tr tp th ts) w (fun r w' => ∃ (v:Value),r = .tuple #[v,.bool true]/\fZ (gj []) w w' (o7 v ((List.range (n+f.length)).map (gH es n f)))):=by
 obtain⟨az,aA,aw,aB,aC⟩:=lJ (es:=es) (n:=n) (f:=f)
 have ax:=hF.f.room hF.g
 refine en Tryz.func202 Tryz.ntmps202 ?_
 have au:=yu w
 refine fR au 2 ?_
 refine gW au (fun b S U V a=>?_)
 refine fK a 8 ?_
 refine jX (v:=tp) rfl rfl yd F.p (fK a 8 ?_)
 refine cmp rfl rfl rfl (kT o_) (fK a 3 ?_)
 refine cmp rfl rfl rfl (nX o_) (fK a 5 ?_)
 refine cmp rfl rfl rfl (kT o_) (fK a 6 ?_)
 refine cmp rfl rfl rfl (nX o_) (fK a 11 ?_)
 refine jX (v:=tl) rfl rfl yd F.l (fK a 1 ?_)
 refine cmp rfl rfl rfl (oH o_) (fK a 3 ?_)
 refine jX (v:=tr) rfl rfl yd F.r (fK a 1 ?_)
 refine cmp rfl rfl rfl (oH o_) (fK a 4 ?_)
 refine jX (v:=th) rfl rfl yk F.h (fK a 1 ?_)
 refine cmp rfl rfl rfl (oH o_) (fK a 4 ?_)
 refine jX (v:=ts) rfl rfl yd F.s (fK a 1 ?_)
 refine cmp rfl rfl rfl (oH o_) (fK a 9 ?_)
 refine rF (cf:=fV) (z0:=0) (m:=((fU es n f).p.length)) (c:=((fU es n f).p.length)) rfl rfl rfl yd gr rfl f_ d_ (zj _) o_ o_ a ?_
 intro A G W X H
 have B:St _ [fL fV (.slice (some ⟨A,0,none⟩) ((fU es n f).p.length) ((fU es n f).p.length)) 3 1 (List.replicate ((fU es n f).p.length) 0),blk b 83 [(.int .i64 n),tl,tr,tp,th,ts]] G:=lR (cf:=fV) H (i:=0) rfl f_ (zj _) (by simp only[maxLen];omega)
 generalize (Value.slice (some ⟨A,0,none⟩) ((fU es n f).p.length) ((fU es n f).p.length))=d at B ⊢
 refine iM B (fun e Y Z aa u=>?_)
 refine jV 0 u (fun ab C=>?_) (hvs:=(cells_one (yw u (i:=1) rfl))) (h1:=(ia (yw u (i:=1) rfl) kR))
 refine fK C 4 ?_
 refine lW (vf:=[]) (vc:=(Zh b)) rfl rfl rfl (lW (vf:=[]) (vc:=(Z5 b e)) rfl rfl rfl (lW (vf:=[]) (vc:=(Zh b)) rfl rfl rfl (jF (vs:=(BR b e)) (cs:=(BR b e)) rfl rfl Bu C4 rfl (by simp[Value.cells]) rfl rfl rfl C (fun x ac ad ae I=>iM I (fun q af ag ah J=>?_)))))
 refine gI J 5 fun ai D=>?_
 refine lW (vf:=[]) (vc:=(Zh q)) rfl rfl rfl ?_
 have K:=yg [3,4,2,0,1] D
 have L:=yv 0 K rfl (congrArg (fL fV d 3 1) (aaB (es:=es) (n:=n) (f:=f)))
 refine gE D 11 ?_
 refine lp (α:=Nat) (fun k=>[(1,(Zb b)),(2,Zg),(3,Zp),(5,(Zb e)),(6,(Zb q)),(7,(.func (.func 255) #[] (Zi q))),(66,(Za (((fU es n f).p).length:Int))),(67,(Za k))]) (fun k w1=>St [(w,[])] [fL fV d 3 1 (nq es n f (fU es n f).p.length k),blk b 83 (Zr n tl tr tp th ts),blk e 35 [d],blk q 370 [(Z1 x)],row (Z1 x) 247 1 3 ((BR b e))] w1/\k<=(fU es n f).p.length) (fun k=>(fU es n f).p.length-k) 0 ⟨rfl,rfl,rfl,rfl,rfl,rfl,rfl,gp rO,trivial⟩ (⟨L,o_⟩) ?_
 rintro k aj ak ⟨aq,hk⟩
 have aD:=aaz (es:=es) (n:=n) (f:=f) hk
 refine fR aq 2 ?_
 by_cases al:((k:Int):Int)<((((fU es n f).p).length:Int):Int)
 . have ay:k<(fU es n f).p.length:=by omega
   refine fK aq 21 ?_
   refine iK (f:=(fun _=>k)) 0 aq (fun M o=>?_)
   refine fK o 7 ?_
   refine pq (fi:=[]) (ca:=(Zh q)) rfl rfl rfl Xe (Y9 es n f hF hn tl tr tp th ts M (F.to o s_) b (St.at o (i:=1) rfl) e d (fN (nq es n f (fU es n f).p.length k) k (fun _=>k)) (St.at o (i:=2) rfl) (y0 o 0 rfl).any q (Z1 x) (St.at o (i:=3) rfl) (Sl.any (uV (cf:=Pg) (xs:=(BR b e)) o (i:=4) rfl f_)) k o_ (fun j hj=>Qo hk hj)) ?_
   rintro _ am ⟨rfl,N⟩
   have t:=yo o N
   refine fK t 11 ?_
   by_cases an:((k:Int):Int)≥((n:Int):Int)
   . obtain⟨T,ar⟩:∃ T,k=n+T:=⟨k-n,o_⟩
     obtain⟨e1,_,_,_,_,_,_,e8,_,_⟩:=hF.inner (show T<f.length by omega)
     obtain⟨q1,q2,q3⟩:=hF.vP (show T<f.length by omega)
     refine gI t 11 fun ao y=>?_
     refine iD (k:=k) (i:=(k:Int)) rfl rfl rfl yd gr F.l o_ o_ (by rw[ar];exact e1) (iY rfl rfl ye rfl (yx y s_ d_ F.l) (by rw[ar];exact e1) rfl (fK y 3 ?_))
     refine iK (f:=(fun _=>(fJ (fN (nq es n f (fU es n f).p.length k) k (fun _=>k)) (nL es n f T)))) 0 y (fun ap E=>?_)
     refine fQ E 7 ?_
     refine tN (?_)
     have O:=yv 0 E rfl (congrArg (fL fV d 3 1) (aaA o_ (by rw[jf (Qo hk (show nL es n f T<k by omega)),ar,q3];exact q1)))
     exact again (k+1) ⟨rfl,rfl,rfl,rfl,rfl,rfl,rfl,gp rO,trivial⟩ (⟨O,o_⟩) (by show ((fU es n f).p.length-(k+1):Nat)<(fU es n f).p.length-k;omega)
   . refine fQ t 11 ?_
     refine tN (?_)
     have P:=yv 0 t rfl (congrArg (fL fV d 3 1) (Qp o_ (by unfold gH;rw[if_pos o_])))
     exact again (k+1) ⟨rfl,rfl,rfl,rfl,rfl,rfl,rfl,gp rO,trivial⟩ (⟨P,o_⟩) (by show ((fU es n f).p.length-(k+1):Nat)<(fU es n f).p.length-k;omega)
 . refine fQ aq 18 ?_
   refine iw (v:=d) (v' := Zf) Tryz.results202 rfl rfl ?_
   have Q:=yg [0] aq
   have av:k=n+f.length:=by omega
   have R:=yv 0 Q rfl (congrArg (fL fV d 3 1) ((congrArg (fun z=>nq es n f z k) aw).trans ((congrArg (nq es n f (n+f.length)) av).trans aay)))
   exact⟨d,rfl,nO R⟩
end
section
open Go Go.Sx
theorem acU(es:List Ge)(n:Nat)(f:List Nat)(s:iA es n f)(u:n<=4096)(l o m k p:Value)(w:World)(t:mK w es n f l o m k p) :
 CR ya 149 (BM n l o m k p) w (fun r w' => r = .int .i64 0/\gw [] w w'):=by
 refine en Tryz.func149 Tryz.ntmps149 ?_
 have q:=yu w
 refine fR q 2 ?_
 refine gW q (fun e c g h a=>?_)
 refine fK a 7 ?_
 refine cl Ip (Jl es n f s u l o m k p c (t.to a s_)) ?_
 rintro _ i ⟨j,rfl,x⟩
 have b:=(jN a x)
 refine fQ b 22 ?_
 refine gq (v:=Zc) Tryz.results149 rfl ?_
 have d:=yg [] b
 exact⟨rfl,d.gy s_⟩
theorem R4(es:List Ge)(n:Nat)(f:List Nat)(q:iA es n f)(t:n<=4096)(k m l j o:Value)(w:World)(s:mK w es n f k m l j o) :
 CR ya 150 (BM n k m l j o) w (fun r w' => ∃ (v:Value),v=r/\fZ (gj []) w w' (o7 v ((List.range (n+f.length)).map (gH es n f)))):=by
 refine en Tryz.func150 Tryz.ntmps150 ?_
 have p:=yu w
 refine fR p 2 ?_
 refine gW p (fun e d g h a=>?_)
 refine fK a 6 ?_
 refine cl Ip (Jl es n f q t k m l j o d (s.to a s_)) ?_
 rintro _ i ⟨b,rfl,u⟩
 have c:=(jN a u)
 refine fQ c 24 ?_
 refine gq (v:=b) Tryz.results150 rfl ?_
 exact⟨b,rfl,nO c⟩
theorem VR(es:List Ge)(n:Nat)(f:List Nat)(hF:iA es n f)(hn:n<=4096)(Z tr F T ts:Value)(w:World)(hR:mK w es n f Z tr F T ts) :
 CR ya 87 (BM n Z tr F T ts) w (fun r w' => ∃ (v:Value),r = .tuple #[v,.int .i64 0]/\fZ (gj []) w w' (fL Mg.cells v 178 5 (nE es n f f.length))):=by
 obtain⟨ag,ah,ai,aj,ak⟩:=lJ (es:=es) (n:=n) (f:=f)
 have af:=hF.f.room hF.g
 refine enter (vs:=(DZ n Z tr F T ts)) Tryz.func87 rfl Tryz.ntmps87 rfl ?_
 have ac:=yu w
 refine fR ac 2 ?_
 refine gW ac (fun d H P Q t=>?_)
 refine fK t 8 ?_
 refine jK (vl:=(DZ n Z tr F T ts)) rfl rfl Ws (acU es n f hF hn Z tr F T ts H (hR.to t s_)) ?_
 rintro _ C ⟨rfl,I⟩
 have y:St _ [blk d 83 (Zr n Z tr F T ts)] C:=yo t I
 refine fK y 15 ?_
 refine jK (vl:=(DZ n Z tr F T ts)) rfl rfl Oj (R4 es n f hF hn Z tr F T ts C (hR.to y s_)) ?_
 rintro _ D ⟨j,rfl,ht⟩
 have E:St _ [fL fV j 3 1 ((List.range (n+f.length)).map (gH es n f)),blk d 83 (Zr n Z tr F T ts)] D:=(jN (R:=fL fV j 3 1 ((List.range (n+f.length)).map (gH es n f))) y ht)
 have J:St _ [fL Mg.cells Zg 178 5 (nE es n f 0),fL fV j 3 1 ((List.range (n+f.length)).map (gH es n f)),blk d 83 (Zr n Z tr F T ts)] D:=pO E 178 5
 refine gE E 17 ?_
 refine lp (α:=Nat×Value) (fun(i,mv)=>[(1,(Zb d)),(2,Zg),(3,Zc),(5,j),(6,mv),(7,(Za ((n+i:Nat):Int)))]) (fun(i,mv) w1=>St [(w,[])] [fL Mg.cells mv 178 5 (nE es n f i),fL fV j 3 1 ((List.range (n+f.length)).map (gH es n f)),blk d 83 (Zr n Z tr F T ts)] w1/\i<=f.length) (fun(i,mv)=>f.length-i) (0,Zg) ⟨rfl,rfl,rfl,rfl,rfl,gp (by first|rfl|omega),trivial⟩ (⟨J,o_⟩) ?_
 rintro⟨i,mv⟩ S K ⟨aa,hi⟩
 have am:=QE (es:=es) (n:=n) (f:=f) (k:=i)
 refine fR aa 6 ?_
 refine jX (v:=F) rfl rfl yd hR.p ?_
 by_cases U:(((n+i:Nat):Int):Int)<((((fU es n f).p).length:Int):Int)
 . have ab:i<f.length:=by omega
   obtain⟨e1,e2,e3,e4,e5,e6,e7,e8,e9,ae⟩:=hF.inner ab
   obtain⟨q1,q2,q3⟩:=hF.vP ab
   have al:((List.range (n+f.length)).map (gH es n f)).length=n+f.length:=by simp
   refine gI aa 14 fun V m=>?_
   refine iD (k:=(n+i)) (i:=((n+i:Nat):Int)) rfl rfl rfl yd gr hR.l o_ o_ e1 (iY (u:=(Za (((nL es n f i):Nat):Int))) rfl rfl ye rfl (yx m s_ d_ hR.l) e1 rfl (fK m 6 ?_))
   refine iD (k:=(n+i)) (i:=((n+i:Nat):Int)) rfl rfl rfl yd gr hR.r o_ o_ e2 (iY (u:=(Za (((nR es n f i):Nat):Int))) rfl rfl ye rfl (yx m s_ d_ hR.r) e2 rfl (fK m 5 ?_))
   refine iD (k:=(n+i)) (i:=((n+i:Nat):Int)) rfl rfl rfl yk ti2 hR.h o_ o_ e3 (iY (u:=(Za ((fJ es (fJ f i)).w))) rfl rfl pN rfl (yx m s_ d_ hR.h) e3 rfl (i7 (pvs:=[(0,(Za ((fJ es (fJ f i)).w))),(1,pX)]) (v:=.agg #[(Za ((fJ es (fJ f i)).w)),pX]) rfl rfl (jk [(0,(Ze ((fJ es (fJ f i)).w))),(1,[pX])] KU ace rfl ⟨rfl,rfl,rfl,rfl,trivial⟩ rfl) (fK m 3 ?_)))
   refine iD (k:=(n+i)) (i:=((n+i:Nat):Int)) rfl rfl rfl yd gr hR.s o_ o_ (gB o_) (iY (u:=(Za (((fJ (fU es n f).s (n+i)):Nat):Int))) rfl rfl ye rfl (yx m s_ d_ hR.s) (gB o_) rfl (i7 (pvs:=[(0,(Za (((fJ ((List.range (n+f.length)).map (gH es n f)) (nL es n f i)):Nat):Int))),(1,(Za (((fJ ((List.range (n+f.length)).map (gH es n f)) (nR es n f i)):Nat):Int))),(2,(.agg #[(Za ((fJ es (fJ f i)).w)),pX])),(3,(Za (((fJ (fU es n f).s (n+i)):Nat):Int)))]) (v:=.agg (Mi (((fJ ((List.range (n+f.length)).map (gH es n f)) (nL es n f i)):Nat):Int) (((fJ ((List.range (n+f.length)).map (gH es n f)) (nR es n f i)):Nat):Int) ((fJ es (fJ f i)).w) (((fJ (fU es n f).s (n+i)):Nat):Int))) rfl rfl (jk [(0,(Ze (((fJ ((List.range (n+f.length)).map (gH es n f)) (nL es n f i)):Nat):Int))),(1,(Ze (((fJ ((List.range (n+f.length)).map (gH es n f)) (nR es n f i)):Nat):Int))),(2,[(Za ((fJ es (fJ f i)).w)),pX]),(3,(Ze (((fJ (fU es n f).s (n+i)):Nat):Int)))] FO acf rfl ⟨rfl,rfl,rfl,rfl,rfl,rfl,rfl,rfl,trivial⟩ rfl) (jF (vs:=[(.agg (Mi (((fJ ((List.range (n+f.length)).map (gH es n f)) (nL es n f i)):Nat):Int) (((fJ ((List.range (n+f.length)).map (gH es n f)) (nR es n f i)):Nat):Int) ((fJ es (fJ f i)).w) (((fJ (fU es n f).s (n+i)):Nat):Int)))]) (cs:=(B0 (((fJ ((List.range (n+f.length)).map (gH es n f)) (nL es n f i)):Nat):Int) (((fJ ((List.range (n+f.length)).map (gH es n f)) (nR es n f i)):Nat):Int) ((fJ es (fJ f i)).w) (((fJ (fU es n f).s (n+i)):Nat):Int))) rfl rfl Gj FO rfl (by simp[Value.cells]) rfl rfl rfl m ?_)))
   intro z L W X q
   have q:St _ (G2 (row (.slice (some ⟨z,0,none⟩) 1 1) 178 5 1 ([(.int .i64 (((fJ ((List.range (n+f.length)).map (gH es n f)) (nL es n f i)):Nat):Int)),(.int .i64 (((fJ ((List.range (n+f.length)).map (gH es n f)) (nR es n f i)):Nat):Int)),(.int .i64 ((fJ es (fJ f i)).w)),(.int .i64 1),(.int .i64 (((fJ (fU es n f).s (n+i)):Nat):Int))])) mv (nE es n f i) j ((List.range (n+f.length)).map (gH es n f)) d n Z tr F T ts) L:=q
   refine lE (cf:=Mg.cells) (ys:=(nE es n f i)) (zs:=[(⟨(fJ ((List.range (n+f.length)).map (gH es n f)) (nL es n f i)),(fJ ((List.range (n+f.length)).map (gH es n f)) (nR es n f i)),(fJ es (fJ f i)).w,(fJ (fU es n f).s (n+i))⟩:Mg)]) (LL:=fun o=>(G2 (row (.slice (some ⟨z,0,none⟩) 1 1) 178 5 1 ([(.int .i64 (((fJ ((List.range (n+f.length)).map (gH es n f)) (nL es n f i)):Nat):Int)),(.int .i64 (((fJ ((List.range (n+f.length)).map (gH es n f)) (nR es n f i)):Nat):Int)),(.int .i64 ((fJ es (fJ f i)).w)),(.int .i64 1),(.int .i64 (((fJ (fU es n f).s (n+i)):Nat):Int))])) o ((nE es n f i)++[(⟨(fJ ((List.range (n+f.length)).map (gH es n f)) (nL es n f i)),(fJ ((List.range (n+f.length)).map (gH es n f)) (nR es n f i)),(fJ es (fJ f i)).w,(fJ (fU es n f).s (n+i))⟩:Mg)]) j ((List.range (n+f.length)).map (gH es n f)) d n Z tr F T ts)) 1 rfl rfl rfl Gj FO rfl d_ q rfl (kX q (i:=0) rfl) (fun x hx=>zm.1 (show List.all _ _=true from rfl) x hx) (by simp only[zd,zh];omega) (by simp only[zd,zh];omega) f_ ?_
   intro o G A Y
   have A:St _ (G2 (row (.slice (some ⟨z,0,none⟩) 1 1) 178 5 1 ([(.int .i64 (((fJ ((List.range (n+f.length)).map (gH es n f)) (nL es n f i)):Nat):Int)),(.int .i64 (((fJ ((List.range (n+f.length)).map (gH es n f)) (nR es n f i)):Nat):Int)),(.int .i64 ((fJ es (fJ f i)).w)),(.int .i64 1),(.int .i64 (((fJ (fU es n f).s (n+i)):Nat):Int))])) o ((nE es n f i)++[(⟨(fJ ((List.range (n+f.length)).map (gH es n f)) (nL es n f i)),(fJ ((List.range (n+f.length)).map (gH es n f)) (nR es n f i)),(fJ es (fJ f i)).w,(fJ (fU es n f).s (n+i))⟩:Mg)]) j ((List.range (n+f.length)).map (gH es n f)) d n Z tr F T ts) G:=A
   have B:=yg [1,2,3] A
   refine fK B 6 ?_
   refine ar (a:=((n+i:Nat):Int)) (b:=1) (c:=((n+i:Nat):Int)+1) (e:=((n+(i+1):Nat):Int)) rfl rfl rfl rfl (by rw[ot o_];omega) (fQ B 2 ?_)
   refine tN (?_)
   have M:St _ [fL Mg.cells o 178 5 (nE es n f (i+1)),fL fV j 3 1 ((List.range (n+f.length)).map (gH es n f)),blk d 83 (Zr n Z tr F T ts)] G:=yv 0 B rfl (congrArg (fL Mg.cells o 178 5) (show _=(nE es n f (i+1)) by rw[jf (Qq (show nL es n f i<n+f.length by omega)),jf (Qq (show nR es n f i<n+f.length by omega)),q1,q2,abc];rfl))
   exact again ((i+1),o) ⟨rfl,rfl,rfl,rfl,rfl,gp (by first|rfl|omega),trivial⟩ (⟨M,o_⟩) (by show (f.length-(i+1):Nat)<f.length-i;omega)
 . refine fQ aa 17 ?_
   refine iw (v:=mv) (v' := Zc) Tryz.results87 rfl rfl ?_
   have N:=yg [0] aa
   have ad:i=f.length:=by omega
   have O:St _ [fL Mg.cells mv 178 5 (nE es n f f.length)] K:=yv 0 N rfl (congrArg (fL Mg.cells mv 178 5) (show _=(nE es n f f.length) by rw[ad]))
   exact⟨mv,rfl,nO O⟩
end
section
open Go Go.Sx
theorem aai{l:List (Value×List Nat)}{ps:List Int}{k:Nat}(a:∀ i,i<ps.length->(fJ l i).2=jC ps k i)(b:fJ ps k<0):∀ i,i<ps.length->(fJ l i).2=jC ps (k+1) i :=
 fun i hi=>by rw[aah b];exact a i hi
theorem aak{l:List (Value×List Nat)}{ps:List Int}{k p:Nat}{v:Value}(c:l.length=ps.length)(a:∀ i,i<ps.length->(fJ l i).2=jC ps k i)(hp:p<ps.length)(b:fJ ps k=(p:Int)) :
 ∀ i,i<ps.length->(fJ (fN l p (fun _=>(v,(fJ l p).2++[k]))) i).2=jC ps (k+1) i:=fun i hi=>by
 rw[iS o_,Qf]
 split
 . rename_i h;subst h;rw[if_pos b];show (fJ l p).2++[k]=_;rw[a p hp]
 . rename_i h;rw[if_neg o_];exact a i hi
theorem aaj{ps:List Int}{n:Nat}:∀ i,i<ps.length->(fJ (List.replicate n ((.slice none 0 0,[]):Value×List Nat)) i).2=jC ps 0 i:=fun i hi=>by
 have h:jC ps 0 i=[]:=by simp[jC]
 rw[h,fJ,sI]
 split<;>rfl
theorem VO(v:Value)(ps:List Int)(w:World)(hv:gU 1 fS (fun _=>True) w v ps)(hP:jZ ps)(hn:ps.length<=8192) :
 CR ya 248 #[v] w (fun r w' => ∃ (dv:Value),r = .tuple #[dv,.bool true]/\fZ (gj []) w w' (o7 dv ((List.range ps.length).map (gm ps)))):=by
 refine en Tryz.func248 Tryz.ntmps248 ?_
 have aZ:=yu w
 refine fR aZ 9 ?_
 refine jX (v:=v) rfl rfl yd hv (fK aZ 6 ?_)
 refine rF (cf:=kJ) (z0:=((.slice none 0 0,[]):Value×List Nat)) (m:=ps.length) (c:=ps.length) rfl rfl rfl Tryz.underlying287 j8 rfl f_ d_ (zj _) o_ o_ aZ ?_
 intro y K aj ak L
 have o:St _ [fL kJ (.slice (some ⟨y,0,none⟩) ps.length ps.length) 35 1 (List.replicate ps.length ((.slice none 0 0,[]):Value×List Nat))] K:=lR (cf:=kJ) L (i:=0) rfl f_ (zj _) (by simp only[maxLen];omega)
 generalize (Value.slice (some ⟨y,0,none⟩) ps.length ps.length)=b at o ⊢
 refine fK o 6 ?_
 refine rF (cf:=fV) (z0:=0) (m:=ps.length) (c:=ps.length) rfl rfl rfl yd gr rfl f_ d_ (zj _) o_ o_ o ?_
 intro z q al am M
 have d:St _ [fL fV (.slice (some ⟨z,0,none⟩) ps.length ps.length) 3 1 (List.replicate ps.length 0),fL kJ b 35 1 (List.replicate ps.length ((.slice none 0 0,[]):Value×List Nat))] q:=lR (cf:=fV) M (i:=0) rfl f_ (zj _) (by simp only[maxLen];omega)
 generalize (Value.slice (some ⟨z,0,none⟩) ps.length ps.length)=a at d ⊢
 refine fK d 12 ?_
 refine jX (v:=v) rfl rfl yd hv ?_
 have N:St _ [fL fV Zg 3 1 (nG ps 0),fL fV a 3 1 (List.replicate ps.length 0),fL kJ b 35 1 (List.replicate ps.length ((.slice none 0 0,[]):Value×List Nat))] q:=pO d 3 1
 have O:St _ [(xC 3 (List.replicate ps.length ((.slice none 0 0,[]):Value×List Nat))),fL fV Zg 3 1 (nG ps 0),fL fV a 3 1 (List.replicate ps.length 0),fL kJ b 35 1 (List.replicate ps.length ((.slice none 0 0,[]):Value×List Nat))] q:=St.Qg ps.length N
 have P:=yg [3,0,2,1] O
 refine gE d 4 ?_
 refine lp (α:=Nat×List (Value×List Nat)×Value) (fun(k,l,rv)=>[(4,(Za ps.length)),(5,b),(6,a),(7,rv),(20,v),(21,(Za ps.length)),(22,(Za k))]) (fun(k,l,rv) w1=>St [(w,[])] [fL kJ b 35 1 l,(xC 3 l),fL fV a 3 1 (List.replicate ps.length 0),fL fV rv 3 1 (nG ps k)] w1/\l.length=ps.length/\(∀ i,i<ps.length->(fJ l i).2=jC ps k i)/\k<=ps.length) (fun(k,l,rv)=>ps.length-k) (0,(List.replicate ps.length (.slice none 0 0,[])),Zg) ⟨rfl,rfl,rfl,rfl,rfl,rfl,gp rO,trivial⟩ (⟨P,s_,aaj,o_⟩) ?_
 rintro⟨k,l,rv⟩ an ao ⟨aS,aY,hl,hk⟩
 have bk:=adl (ps:=ps) (k:=k)
 refine fR aS 2 ?_
 by_cases ap:((k:Int):Int)<((ps.length:Int):Int)
 . obtain⟨s,A⟩:=oI (show k<ps.length by omega)
   refine fK aS 21 ?_
   by_cases aq:(s:Int)<(0:Int)
   . have a4:=jf A
     refine fK aS 7 ?_
     refine jF (vs:=(Ze k)) (cs:=(Ze k)) rfl rfl yd gr rfl (by simp[Value.cells]) rfl rfl rfl aS (fun Q au av aw B=>lE (cf:=fV) (ys:=(nG ps k)) (zs:=[k]) (LL:=fun g=>[ic .i64 (Z3 Q) 3 ([(k:Int)]),fL kJ b 35 1 l,(xC 3 l),fL fV a 3 1 (List.replicate ps.length 0),fL fV g 3 1 ((nG ps k)++[k])]) 4 rfl rfl rfl yd gr rfl d_ B rfl (kX B (i:=0) rfl) (fun x hx=>zm.1 (show List.all _ _=true from rfl) x hx) (by simp only[zd,zh];omega) (by simp only[zd,zh];omega) f_ ?_)
     intro g ax R ay
     have C:=yg [1,2,3,4] R
     refine fQ C 8 ?_
     refine tN (?_)
     have S:=yv 3 C rfl (congrArg (fL fV g 3 1) ((ado o_).symm))
     exact again ((k+1),l,g) ⟨rfl,rfl,rfl,rfl,rfl,rfl,gp rO,trivial⟩ (⟨S,aY,aai hl o_,o_⟩) (by show (ps.length-(k+1):Nat)<ps.length-k;omega)
   . obtain⟨p,ba⟩:∃ p:Nat,s=(p:Int):=⟨s.toNat,o_⟩
     refine fK aS 1 ?_
     subst ba
     have a4:=jf A
     have a3:p<ps.length:=by have:=hP.up k o_;omega
     have a1:=Qe (ps:=ps) (k:=k) (i:=p)
     rw[<-hl p a3]at a1
     have U:=yg [1,0,2,3] aS
     have D:=St.Cq p U o_
     refine fK D 11 ?_
     refine jF (vs:=(Ze k)) (cs:=(Ze k)) rfl rfl yd gr rfl (by simp[Value.cells]) rfl rfl rfl D (fun V az aA aB E=>lE (cf:=fV) (ys:=(fJ l p).2) (zs:=[k]) (LL:=fun h=>(MN V ([(k:Int)]) h (((fJ l p).2)++[k]) (xC 3 (l.eraseIdx p)) (fL kJ b 35 1 l) a (List.replicate ps.length 0) rv (nG ps k))) 1 rfl rfl rfl yd gr rfl d_ E rfl (kX E (i:=0) rfl) (fun x hx=>zm.1 (show List.all _ _=true from rfl) x hx) (by simp only[zd,zh];omega) (by simp only[zd,zh];omega) f_ ?_)
     intro h aC W aD
     have n:=yg [1,2,3,4,5] W
     refine fK n 1 ?_
     refine iK (f:=(fun _=>(h,(fJ l p).2++[k]))) 2 n (fun aE G=>?_) (hvs:=(cells_one (yw n (i:=0) rfl))) (h1:=(ia (yw n (i:=0) rfl) kR))
     refine fQ G 7 ?_
     refine tN (?_)
     have X:=St.Qh G o_
     have Y:=yg [1,0,2,3] X
     have Z:=yv 3 Y rfl (congrArg (fL fV rv 3 1) ((adn o_).symm))
     exact again ((k+1),fN l p (fun _=>(h,(fJ l p).2++[k])),rv) ⟨rfl,rfl,rfl,rfl,rfl,rfl,gp rO,trivial⟩ (⟨Z,(by rw[gC];exact aY),aak aY hl a3 a4,o_⟩) (by show (ps.length-(k+1):Nat)<ps.length-k;omega)
 . have a8:k=ps.length:=by omega
   refine gE aS 17 ?_
   subst a8
   refine lp (α:=Nat×Value×List Nat×List Nat) (fun(i,ov,od,dp)=>[(4,(Za ps.length)),(5,b),(6,a),(7,ov),(10,(Za i))]) (fun(i,ov,od,dp) w1=>St [(w,[])] [fL kJ b 35 1 l,(xC 3 l),fL fV a 3 1 dp,fL fV ov 3 1 od] w1/\Bf ps i 0 od dp) (fun(i,ov,od,dp)=>ps.length-i) (0,rv,(nG ps ps.length),(List.replicate ps.length 0)) ⟨rfl,rfl,rfl,rfl,gp rO,trivial⟩ (⟨aS,Bf.start⟩) ?_
   rintro⟨i,ov,od,dp⟩ aF aG ⟨aR,hB⟩
   have bi:=hB.JU
   have be:=hB.len
   refine fR aR 5 ?_
   refine jb (m:=od.length) 3 rfl rfl yd aR rfl ?_
   by_cases aH:((i:Int):Int)<((od.length:Int):Int)
   . have hi:i<od.length:=by omega
     have a9:=zg (gB hi)
     have a2:=hB.lt _ a9
     have aa:=yg [1,0,2,3] aR
     have ab:=St.Cq (fJ od i) aa o_
     have t:=yv 0 ab rfl (congrArg (fL fV ((fJ l (fJ od i)).1) 3 1) (hl _ a2))
     have a1:=Qe (ps:=ps) (k:=ps.length) (i:=fJ od i)
     refine fK aR 23 ?_
     refine jb (m:=(jC ps ps.length (fJ od i)).length) 0 rfl rfl yd t rfl (gE t 4 ?_)
     refine lp (α:=Nat×Value×List Nat×List Nat) (fun(j,aW,T,F)=>[(4,(Za ps.length)),(5,b),(6,a),(7,aW),(10,(Za i)),(11,(Za (((fJ od i):Nat):Int))),(57,((fJ l (fJ od i)).1)),(58,(Za ((jC ps ps.length (fJ od i)).length:Int))),(59,(Za j))]) (fun(j,aW,T,F) w1=>St [(w,[])] [fL fV ((fJ l (fJ od i)).1) 3 1 (jC ps ps.length (fJ od i)),(xC 3 (l.eraseIdx (fJ od i))),fL kJ b 35 1 l,fL fV a 3 1 F,fL fV aW 3 1 T] w1/\Bf ps i j T F/\i<T.length/\fJ T i=fJ od i/\j<=(jC ps ps.length (fJ od i)).length) (fun(j,aW,T,F)=>(jC ps ps.length (fJ od i)).length-j) (0,ov,od,dp) ⟨rfl,rfl,rfl,rfl,rfl,rfl,rfl,rfl,gp rO,trivial⟩ (⟨t,hB,hi,rfl,o_⟩) ?_
     rintro⟨j,aW,T,F⟩ aI aJ ⟨aV,aT,aU,aX,hj⟩
     have bj:=aT.JU
     have bf:=aT.len
     refine fR aV 2 ?_
     by_cases aK:((j:Int):Int)<(((jC ps ps.length (fJ od i)).length:Int):Int)
     . have a7:j<(jC ps ps.length (fJ od i)).length:=by omega
       have a0:(jC ps ps.length (fJ T i))[j]? = some (fJ (jC ps ps.length (fJ od i)) j):=by rw[aX];exact gB a7
       obtain⟨bb,bc,bd⟩:=aT.new aU a0
       have bg:fJ F (fJ od i)<=ps.length:=by rw[<-aX,aT.dep _ (zg (gB aU))];exact kg HZ (Nat.sub_le _ _)
       refine fK aV 24 ?_
       refine ar (e:=(((fJ F (fJ od i))+1:Nat):Int)) rfl rfl rfl rfl iT (fK aV 1 ?_)
       refine iK (f:=(fun _=>((fJ F (fJ od i))+1))) 3 aV (fun aL H=>?_)
       refine fK H 5 ?_
       refine jF (vs:=(Ze (((fJ (jC ps ps.length (fJ od i)) j):Nat):Int))) (cs:=(Ze (((fJ (jC ps ps.length (fJ od i)) j):Nat):Int))) rfl rfl yd gr rfl (by simp[Value.cells]) rfl rfl rfl H (fun ac aM aN aO I=>lE (cf:=fV) (ys:=T) (zs:=[(fJ (jC ps ps.length (fJ od i)) j)]) (LL:=fun u=>(MN ac ([(((fJ (jC ps ps.length (fJ od i)) j):Nat):Int)]) ((fJ l (fJ od i)).1) (jC ps ps.length (fJ od i)) (xC 3 (l.eraseIdx (fJ od i))) (fL kJ b 35 1 l) a (fN F (fJ (jC ps ps.length (fJ od i)) j) (fun _=>((fJ F (fJ od i))+1))) u (T++[(fJ (jC ps ps.length (fJ od i)) j)]))) 5 rfl rfl rfl yd gr rfl d_ I rfl (kX I (i:=0) rfl) (fun x hx=>zm.1 (show List.all _ _=true from rfl) x hx) (by simp only[zd,zh];omega) (by simp only[zd,zh];omega) f_ ?_)
       intro u aP ad aQ
       have J:=yg [1,2,3,4,5] ad
       refine fQ J 8 ?_
       refine tN (?_)
       exact again ((j+1),u,T++[(fJ (jC ps ps.length (fJ od i)) j)],fN F (fJ (jC ps ps.length (fJ od i)) j) (fun _=>((fJ F (fJ od i))+1))) ⟨rfl,rfl,rfl,rfl,rfl,rfl,rfl,rfl,gp rO,trivial⟩ (⟨J,by have h9:=aT.vP hP aU a0;rw[aX]at h9;exact h9,by rw[zq];omega,(jf (by rw[sH aU];exact gB aU)).trans aX,o_⟩) (by show ((jC ps ps.length (fJ od i)).length-(j+1):Nat)<(jC ps ps.length (fJ od i)).length-j;omega)
     . refine fQ aV 16 ?_
       refine tN (?_)
       have ae:=yv 0 aV rfl (congrArg (fL fV ((fJ l (fJ od i)).1) 3 1) ((hl _ a2).symm))
       have af:=St.Jf ae o_
       have ag:=yg [1,0,2,3] af
       exact again ((i+1),aW,T,F) ⟨rfl,rfl,rfl,rfl,gp rO,trivial⟩ (⟨ag,aT.next aU (by rw[aX];omega)⟩) (by show (ps.length-(i+1):Nat)<ps.length-i;omega)
   . have a6:i=od.length:=by have:=hB.I1;omega
     refine fK aR 1 ?_
     subst a6
     obtain⟨bh,a5⟩:=hB.fin hP
     refine fK aR 12 ?_
     refine jb (m:=od.length) 3 rfl rfl yd aR rfl (fK aR 1 ?_)
     refine cmp rfl rfl rfl (qH o_) (fQ aR 5 ?_)
     refine iw (v:=a) (v' := Zf) Tryz.results248 rfl rfl ?_
     have ah:=yg [2] aR
     have ai:=yv 0 ah rfl (congrArg (fL fV a 3 1) (a5))
     exact⟨a,rfl,nO ai⟩
end
end Go.Proofs.YtoceanggliccgaaGreatDoor
