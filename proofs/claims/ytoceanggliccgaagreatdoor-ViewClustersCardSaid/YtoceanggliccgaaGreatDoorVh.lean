/- What the functions that the statements reach do: walks through the code of the program and of the references, one theorem a function; under what is said of its arguments. -/
import Derived.Test.YtoceanggliccgaaGreatDoorFb
import Derived.Test.YtoceanggliccgaaGreatDoorVa
import Derived.Test.YtoceanggliccgaaGreatDoorFd
import Derived.Test.YtoceanggliccgaaGreatDoorVg
import Derived.Test.YtoceanggliccgaaGreatDoorFc
import Derived.Test.YtoceanggliccgaaGreatDoorVe
set_option linter.unusedVariables false
set_option linter.unusedSimpArgs false
set_option maxRecDepth 100000
set_option maxHeartbeats 4000000
namespace Go.Proofs.YtoceanggliccgaaGreatDoor
section
open Go Go.Sx
structure kr where
 a:Int
 b:Int
instance:Inhabited kr:=⟨⟨0,0⟩⟩
def kr.cells(x:kr):List Value:=[.int .u64 x.a,.int .u64 x.b]
abbrev Vk.mg(k:Vk):List Mg:=nM k.es k.K.length k.f k.f.length
def Vk.mI(k:Vk)(j:Nat):List kr:=(k.mg.take j).map fun m=>⟨fJ k.K m.a,fJ k.K m.b⟩
def Vk.mH(k:Vk)(j:Nat):List Int:=(k.mg.take j).map Mg.h
abbrev Mu(a:Nat) b (c:Nat) d e f:=(gj [blk a 116 [b],blk c 48 [d],fL kr.cells b 119 2 e,fL fV d 2 1 f]:fU)
abbrev MW a (b:Nat) c (d:Nat) e f g:=(gj [Vk.R a,gj [blk b 116 [c],blk d 48 [e],fL kr.cells c 119 2 f,fL fV e 2 1 g]]:fU)
abbrev MB(a b:Nat)(c:Int)(d:Vk)(e f:Int) g h i j k l:=(gj [blk a 89 [.pointer (some ⟨b,0,none⟩),.bool true,.int .u64 c,d.iv,.int .i64 e,d.lv,d.rv,d.pv,d.hv,d.sv,.pointer (some ⟨d.cb,0,none⟩),.pointer (some ⟨d.mb,0,none⟩),.int .i64 f],Vk.R d,WW.R g b h,fL kr.cells i 119 2 j,fL fV k 2 1 l]:fU)
abbrev BK(a:Nat) b (c:Nat) d e f g h (i:Nat) j (k:Nat) l m n o p (q r:Nat) s (t:nk) u v x:=([blk a 116 [b],blk c 48 [d],fL kr.cells b 119 2 e,fL fV d 2 1 f,fL Mg.cells g 178 5 h,blk i 87 (BX j k l m n o p q r),fL gW j 40 1 s,fL fV l 3 1 t.l,fL fV m 3 1 t.r,fL fV n 3 1 t.p,fL fV o 2 1 t.h,fL fR p 3 1 t.s,Cv.R q k u v,Mf.R r k u x]:List fU)
abbrev Mn a (b:Nat) (c d e f:Int) (g:Nat) h (i:Nat) j k l m n o (p:Nat) q (r:Nat) s t u v x (y z:Nat) aa (ab:nk) ac ad ae:=([a,blk b 178 (BV c d e f),blk g 116 [h],blk i 48 [j],fL kr.cells k 119 2 l,fL fV j 2 1 m,fL Mg.cells n 178 5 o,blk p 87 (BX q r s t u v x y z),fL gW q 40 1 aa,fL fV s 3 1 ab.l,fL fV t 3 1 ab.r,fL fV u 3 1 ab.p,fL fV v 2 1 ab.h,fL fR x 3 1 ab.s,Cv.R y r ac ad,Mf.R z r ac ae]:List fU)
abbrev MK(a:Nat) b (c:Nat) (d e f g:Int) (h:Nat) i (j:Nat) k l m n o p (q:Nat) r (s:Nat) t u v x y (z A:Nat) ab (w:nk) ad ae af:=([ig .i64 (Z3 a) 2 b,blk c 178 (BV d e f g),blk h 116 [i],blk j 48 [k],fL kr.cells i 119 2 l,fL fV m 2 1 n,fL Mg.cells o 178 5 p,blk q 87 (BX r s t u v x y z A),fL gW r 40 1 ab,fL fV t 3 1 w.l,fL fV u 3 1 w.r,fL fV v 3 1 w.p,fL fV x 2 1 w.h,fL fR y 3 1 w.s,Cv.R z s ad ae,Mf.R A s ad af]:List fU)
theorem Vk.abm{k:Vk}(h:gV k.es k.K.length k.f){i:Nat}(hi:i<k.f.length):(fJ k.mg i).a<k.K.length/\(fJ k.mg i).b<k.K.length:=by
 rw[iE (show k.mg[i]? = some (JM k.es k.K.length k.f i) by show ((List.range k.f.length).map _)[i]? = _;simp[hi])]
 have:=h.st hi
 show nA _ _ _ _<_/\nB _ _ _ _<_
 omega
theorem Vk.aa8{k:Vk}{j:Nat}(h:j<k.mg.length):k.mI (j+1)=k.mI j++[⟨fJ k.K (fJ k.mg j).a,fJ k.K (fJ k.mg j).b⟩]:=C5 _ h
theorem Vk.aa6{k:Vk}{j:Nat}(h:j<k.mg.length):k.mH (j+1)=k.mH j++[(fJ k.mg j).h]:=C5 _ h
theorem Vk.aa7{k:Vk}{j:Nat}:(k.mI j).length<=j:=by simp[Vk.mI];omega
theorem Vk.aa5{k:Vk}{j:Nat}:(k.mH j).length<=j:=by simp[Vk.mH];omega
theorem abf(b2 b3:Nat)(k:Vk)(w:World)(hO:Own (G2 k b2 b3) w) :
 CR ya 86 (L5 k k.K.length b2 b3) w (fun r w' => r = .tuple #[]/\∃ x:Value×Value×List kr×List Int,(x.2.2.1=k.mI k.mg.length/\x.2.2.2=k.mH k.mg.length)/\fZ (G2 k b2 b3) w w' (MW k b2 x.1 b3 x.2.1 x.2.2.1 x.2.2.2)):=by
 refine enter (vs:=[(HF k k.K.length),(Zb b2),(Zb b3)]) Tryz.func86 rfl Tryz.ntmps86 rfl ?_
 have aI:St _ [Vk.R k,(G4 b2 b3)] w:=Own.of hO
 have T:=qw aI
 have aR:=T.n
 have aL:St _ [fL gW k.iv 40 1 k.K,fL fV k.lv 3 1 ((fT k.es k.K.length k.f).l),fL fV k.rv 3 1 ((fT k.es k.K.length k.f).r),fL fV k.pv 3 1 ((fT k.es k.K.length k.f).p),fL fV k.hv 2 1 ((fT k.es k.K.length k.f).h),fL fR k.sv 3 1 ((fT k.es k.K.length k.f).s),(p9 k k.K.length),(Z6 k k.K.length),(G4 b2 b3)] w:=(jP aI).unpack
 have S:=yg [8,0,1,2,3,4,5,6,7] aL
 have M:St _ [blk b2 116 nq,blk b3 48 nq,fL gW k.iv 40 1 k.K,fL fV k.lv 3 1 ((fT k.es k.K.length k.f).l),fL fV k.rv 3 1 ((fT k.es k.K.length k.f).r),fL fV k.pv 3 1 ((fT k.es k.K.length k.f).p),fL fV k.hv 2 1 ((fT k.es k.K.length k.f).h),fL fR k.sv 3 1 ((fT k.es k.K.length k.f).s),(p9 k k.K.length),(Z6 k k.K.length)] w:=yy S
 have aK:k.mg.length=k.f.length:=QI
 have aO:=T.fg.f.room T.fg.g
 refine fS M 2 ?_
 refine ij M (fun e U am an t=>?_)
 refine fK t 6 ?_
 refine jI (vl:=(D8 k.K.length k.lv k.rv k.pv k.hv k.sv)) rfl rfl Yi (Wg k.es k.K.length k.f T.fg o_ k.lv k.rv k.pv k.hv k.sv U ⟨(uZ t (i:=4) rfl f_).any,(uZ t (i:=5) rfl f_).any,(uZ t (i:=6) rfl f_).any,(uZ t (i:=7) rfl f_).any,(uZ t (i:=8) rfl f_).any⟩) ?_
 rintro _ D ⟨d,rfl,ht⟩
 have A:St _ [fL Mg.cells d 178 5 k.mg,blk e 87 (pn k k.K.length),blk b2 116 nq,blk b3 48 nq,fL gW k.iv 40 1 k.K,fL fV k.lv 3 1 ((fT k.es k.K.length k.f).l),fL fV k.rv 3 1 ((fT k.es k.K.length k.f).r),fL fV k.pv 3 1 ((fT k.es k.K.length k.f).p),fL fV k.hv 2 1 ((fT k.es k.K.length k.f).h),fL fR k.sv 3 1 ((fT k.es k.K.length k.f).s),(p9 k k.K.length),(Z6 k k.K.length)] D:=(jJ (R:=fL Mg.cells d 178 5 k.mg) t ht)
 refine fK A 10 ?_
 refine iL (m:=k.mg.length) 0 rfl rfl Gv A rfl ?_
 have V:St _ [fL kr.cells Zg 119 2 (k.mI 0),fL Mg.cells d 178 5 k.mg,blk e 87 (pn k k.K.length),blk b2 116 nq,blk b3 48 nq,fL gW k.iv 40 1 k.K,fL fV k.lv 3 1 ((fT k.es k.K.length k.f).l),fL fV k.rv 3 1 ((fT k.es k.K.length k.f).r),fL fV k.pv 3 1 ((fT k.es k.K.length k.f).p),fL fV k.hv 2 1 ((fT k.es k.K.length k.f).h),fL fR k.sv 3 1 ((fT k.es k.K.length k.f).s),(p9 k k.K.length),(Z6 k k.K.length)] D:=oU A 119 2
 have W:St _ [fL fV Zg 2 1 (k.mH 0),fL kr.cells Zg 119 2 (k.mI 0),fL Mg.cells d 178 5 k.mg,blk e 87 (pn k k.K.length),blk b2 116 nq,blk b3 48 nq,fL gW k.iv 40 1 k.K,fL fV k.lv 3 1 ((fT k.es k.K.length k.f).l),fL fV k.rv 3 1 ((fT k.es k.K.length k.f).r),fL fV k.pv 3 1 ((fT k.es k.K.length k.f).p),fL fV k.hv 2 1 ((fT k.es k.K.length k.f).h),fL fR k.sv 3 1 ((fT k.es k.K.length k.f).s),(p9 k k.K.length),(Z6 k k.K.length)] D:=oU V 2 1
 have X:=yg [4,5,1,0,2,3,6,7,8,9,10,11,12,13] W
 refine gF A 4 ?_
 refine lp (α:=Nat×Value×Value) (fun(i,F,hv)=>[(1,(Zb b2)),(2,(Zb b3)),(3,(Zb e)),(14,d),(15,(Za k.mg.length)),(16,(Za i))]) (fun(i,F,hv) w1=>St [(w,(G2 k b2 b3).gG)] (BK b2 F b3 hv (k.mI i) (k.mH i) d k.mg e k.iv k.K.length k.lv k.rv k.pv k.hv k.sv k.cb k.mb k.K (fT k.es k.K.length k.f) k.es k.c k.q) w1/\i<=k.mg.length) (fun(i,F,hv)=>k.mg.length-i) (0,Zg,Zg) ⟨rfl,rfl,rfl,rfl,rfl,gm (by first|rfl|omega),trivial⟩ (⟨X,o_⟩) ?_
 rintro⟨i,F,hv⟩ ao B ⟨aF,hi⟩
 have aQ:=Vk.aa7 (k:=k) (j:=i)
 have aP:=Vk.aa5 (k:=k) (j:=i)
 refine fS aF 2 ?_
 by_cases ap:((i:Int):Int)<((k.mg.length:Int):Int)
 . have aJ:i<k.f.length:=by have h7:=aK;omega
   have aG:=Vk.abm T.fg aJ
   have aM:=aG.1
   have aN:=aG.2
   refine fK aF 13 ?_
   refine iH aF (fun y aq ar au Y=>?_)
   refine tL Y 4 fun aw Z=>?_
   refine kY mixed [([0,1,2,3,4,5,6,7,8,9,10,11,12,13,14],[0])] [15,16] Z (fun ax N=>jO ?_)
   refine fK N 13 ?_
   refine ja (pvs:=[(0,(Zn (fJ k.K ((fJ k.mg i).a)))),(1,(Zn (fJ k.K ((fJ k.mg i).b))))]) (v:=.agg (vq (fJ k.K ((fJ k.mg i).a)) (fJ k.K ((fJ k.mg i).b)))) rfl rfl (ur [(0,(Zq (fJ k.K ((fJ k.mg i).a)))),(1,(Zq (fJ k.K ((fJ k.mg i).b))))] tO y9 jD rfl ⟨rfl,rfl,rfl,rfl,trivial⟩ rfl s_) (jL (vs:=[(HB (fJ k.K ((fJ k.mg i).a)) (fJ k.K ((fJ k.mg i).b)))]) (cs:=[(Zn (fJ k.K ((fJ k.mg i).a))),(Zn (fJ k.K ((fJ k.mg i).b)))]) rfl rfl Bg tO rfl (by simp[Value.cells]) rfl rfl rfl N ?_)
   intro E aa ay az z
   have z:St _ [row (Z3 E) 119 2 1 ([(Zn (fJ k.K ((fJ k.mg i).a))),(Zn (fJ k.K ((fJ k.mg i).b)))]),blk y 178 (BV ((fJ k.mg i).a:Int) ((fJ k.mg i).b:Int) ((fJ k.mg i).h) ((fJ k.mg i).s:Int)),blk b2 116 [F],blk b3 48 [hv],fL kr.cells F 119 2 (k.mI i),fL fV hv 2 1 (k.mH i),fL Mg.cells d 178 5 k.mg,blk e 87 (pn k k.K.length),fL gW k.iv 40 1 k.K,fL fV k.lv 3 1 ((fT k.es k.K.length k.f).l),fL fV k.rv 3 1 ((fT k.es k.K.length k.f).r),fL fV k.pv 3 1 ((fT k.es k.K.length k.f).p),fL fV k.hv 2 1 ((fT k.es k.K.length k.f).h),fL fR k.sv 3 1 ((fT k.es k.K.length k.f).s),(p9 k k.K.length),(Z6 k k.K.length)] aa:=z
   refine fQ z 1 ?_
   refine kJ (kZ ?_)
   refine lF (cf:=kr.cells) (ys:=(k.mI i)) (zs:=[(⟨(fJ k.K ((fJ k.mg i).a)),(fJ k.K ((fJ k.mg i).b))⟩:kr)]) (LL:=fun o=>(Mn (row (.slice (some ⟨E,0,none⟩) 1 1) 119 2 1 ([(.int .u64 (fJ k.K ((fJ k.mg i).a))),(.int .u64 (fJ k.K ((fJ k.mg i).b)))])) y ((fJ k.mg i).a:Int) ((fJ k.mg i).b:Int) ((fJ k.mg i).h) ((fJ k.mg i).s:Int) b2 F b3 hv o ((k.mI i)++[(⟨(fJ k.K ((fJ k.mg i).a)),(fJ k.K ((fJ k.mg i).b))⟩:kr)]) (k.mH i) d k.mg e k.iv k.K.length k.lv k.rv k.pv k.hv k.sv k.cb k.mb k.K (fT k.es k.K.length k.f) k.es k.c k.q)) 4 rfl rfl rfl Bg tO rfl d_ z rfl (kO z (i:=0) rfl) (fun x hx=>zn.1 (show List.all _ _=true from rfl) x hx) (by simp only[ze,zh,maxLen];omega) (by simp only[ze,zh,maxLen];omega) f_ ?_
   intro o ab G aA
   have G:St _ (Mn (row (.slice (some ⟨E,0,none⟩) 1 1) 119 2 1 ([(.int .u64 (fJ k.K ((fJ k.mg i).a))),(.int .u64 (fJ k.K ((fJ k.mg i).b)))])) y ((fJ k.mg i).a:Int) ((fJ k.mg i).b:Int) ((fJ k.mg i).h) ((fJ k.mg i).s:Int) b2 F b3 hv o ((k.mI i)++[(⟨(fJ k.K ((fJ k.mg i).a)),(fJ k.K ((fJ k.mg i).b))⟩:kr)]) (k.mH i) d k.mg e k.iv k.K.length k.lv k.rv k.pv k.hv k.sv k.cb k.mb k.K (fT k.es k.K.length k.f) k.es k.c k.q) ab:=G
   have H:=yg [1,2,3,4,5,6,7,8,9,10,11,12,13,14,15] G
   refine jM 1 H (fun aB O=>?_) (hvs:=(cells_one (yu H (i:=3) rfl))) (h1:=(ia (yu H (i:=3) rfl) kT))
   refine fK O 7 ?_
   refine jL (vs:=(Ze ((fJ k.mg i).h))) (cs:=(Ze ((fJ k.mg i).h))) rfl rfl nH ti2 rfl (by simp[Value.cells]) rfl rfl rfl O ?_
   intro I ac aC aD C
   have C:St _ [ig .i64 (Z3 I) 2 ([(fJ k.mg i).h]),blk y 178 (BV ((fJ k.mg i).a:Int) ((fJ k.mg i).b:Int) ((fJ k.mg i).h) ((fJ k.mg i).s:Int)),blk b2 116 [o],blk b3 48 [hv],fL kr.cells o 119 2 ((k.mI i)++[(⟨(fJ k.K ((fJ k.mg i).a)),(fJ k.K ((fJ k.mg i).b))⟩:kr)]),fL fV hv 2 1 (k.mH i),fL Mg.cells d 178 5 k.mg,blk e 87 (pn k k.K.length),fL gW k.iv 40 1 k.K,fL fV k.lv 3 1 ((fT k.es k.K.length k.f).l),fL fV k.rv 3 1 ((fT k.es k.K.length k.f).r),fL fV k.pv 3 1 ((fT k.es k.K.length k.f).p),fL fV k.hv 2 1 ((fT k.es k.K.length k.f).h),fL fR k.sv 3 1 ((fT k.es k.K.length k.f).s),(p9 k k.K.length),(Z6 k k.K.length)] ac:=C
   refine lF (cf:=fV) (ys:=(k.mH i)) (zs:=[(fJ k.mg i).h]) (LL:=fun u=>(MK I ([(fJ k.mg i).h]) y ((fJ k.mg i).a:Int) ((fJ k.mg i).b:Int) ((fJ k.mg i).h) ((fJ k.mg i).s:Int) b2 o b3 hv ((k.mI i)++[(⟨(fJ k.K ((fJ k.mg i).a)),(fJ k.K ((fJ k.mg i).b))⟩:kr)]) u ((k.mH i)++[(fJ k.mg i).h]) d k.mg e k.iv k.K.length k.lv k.rv k.pv k.hv k.sv k.cb k.mb k.K (fT k.es k.K.length k.f) k.es k.c k.q)) 5 rfl rfl rfl nH ti2 rfl d_ C rfl (kO C (i:=0) rfl) (fun x hx=>zn.1 (show List.all _ _=true from rfl) x hx) (by simp only[ze,zh,maxLen];omega) (by simp only[ze,zh,maxLen];omega) f_ ?_
   intro u ad J aE
   have J:St _ (MK I ([(fJ k.mg i).h]) y ((fJ k.mg i).a:Int) ((fJ k.mg i).b:Int) ((fJ k.mg i).h) ((fJ k.mg i).s:Int) b2 o b3 hv ((k.mI i)++[(⟨(fJ k.K ((fJ k.mg i).a)),(fJ k.K ((fJ k.mg i).b))⟩:kr)]) u ((k.mH i)++[(fJ k.mg i).h]) d k.mg e k.iv k.K.length k.lv k.rv k.pv k.hv k.sv k.cb k.mb k.K (fT k.es k.K.length k.f) k.es k.c k.q) ad:=J
   have L:=yg [1,2,3,4,5,6,7,8,9,10,11,12,13,14,15] J
   refine jM 2 L (fun P Q=>?_) (hvs:=(cells_one (yu L (i:=4) rfl))) (h1:=(ia (yu L (i:=4) rfl) kT))
   refine fQ Q 7 ?_
   refine tN (?_)
   have ae:=yg [1,2,3,4,5,6,7,8,9,10,11,12,13,14] Q
   have af:St _ (BK b2 o b3 u (k.mI (i+1)) ((k.mH i)++[(fJ k.mg i).h]) d k.mg e k.iv k.K.length k.lv k.rv k.pv k.hv k.sv k.cb k.mb k.K (fT k.es k.K.length k.f) k.es k.c k.q) P:=yv 2 ae rfl (congrArg (fL kr.cells o 119 2) ((Vk.aa8 o_).symm))
   have ag:St _ (BK b2 o b3 u (k.mI (i+1)) (k.mH (i+1)) d k.mg e k.iv k.K.length k.lv k.rv k.pv k.hv k.sv k.cb k.mb k.K (fT k.es k.K.length k.f) k.es k.c k.q) P:=yv 3 af rfl (congrArg (fL fV u 2 1) ((Vk.aa6 o_).symm))
   exact again ((i+1),o,u) ⟨rfl,rfl,rfl,rfl,rfl,gm (by first|rfl|omega),trivial⟩ (⟨ag,o_⟩) (by show (k.mg.length-(i+1):Nat)<k.mg.length-i;omega)
 . refine fQ aF 9 ?_
   refine iQ Tryz.results86 ?_
   have aH:i=k.mg.length:=by omega
   have ah:St _ (BK b2 F b3 hv (k.mI k.mg.length) (k.mH i) d k.mg e k.iv k.K.length k.lv k.rv k.pv k.hv k.sv k.cb k.mb k.K (fT k.es k.K.length k.f) k.es k.c k.q) B:=yv 2 aF rfl (congrArg (fL kr.cells F 119 2) (congrArg k.mI aH))
   have ai:St _ (BK b2 F b3 hv (k.mI k.mg.length) (k.mH k.mg.length) d k.mg e k.iv k.K.length k.lv k.rv k.pv k.hv k.sv k.cb k.mb k.K (fT k.es k.K.length k.f) k.es k.c k.q) B:=yv 3 ah rfl (congrArg (fL fV hv 2 1) (congrArg k.mH aH))
   have aj:St _ [(Mu b2 F b3 hv (k.mI k.mg.length) (k.mH k.mg.length)),fL Mg.cells d 178 5 k.mg,blk e 87 (pn k k.K.length),fL gW k.iv 40 1 k.K,fL fV k.lv 3 1 ((fT k.es k.K.length k.f).l),fL fV k.rv 3 1 ((fT k.es k.K.length k.f).r),fL fV k.pv 3 1 ((fT k.es k.K.length k.f).p),fL fV k.hv 2 1 ((fT k.es k.K.length k.f).h),fL fR k.sv 3 1 ((fT k.es k.K.length k.f).s),(p9 k k.K.length),(Z6 k k.K.length)] B:=yc [_,_,_,_] _ ai
   have ak:=yg [3,4,5,6,7,8,9,10,0,1,2] aj
   have al:St _ [(Vk.R k),(Mu b2 F b3 hv (k.mI k.mg.length) (k.mH k.mg.length)),fL Mg.cells d 178 5 k.mg,blk e 87 (pn k k.K.length)] B:=yr (p:=Vk.ok k) (yc [_,_,_,_,_,_,_,_] _ ak) T
   exact⟨rfl,(F,hv,k.mI k.mg.length,k.mH k.mg.length),⟨rfl,rfl⟩,yo (R' := (MW k b2 F b3 hv (k.mI k.mg.length) (k.mH k.mg.length))) (yc [_,_] _ al) za⟩
theorem ahh(c:WC)(F Q:Nat)(s:WW)(k:Vk)(T:Vk.of s k)(b:Int)(w:World)(R:Own (xz F Q (IntKind.u64.wrap (s.added+s.jw)) k k.K.length b c s) w) :
 CR ya 48 (Zi F) w (fun r w' => ∃ (S hv:Value),r = .tuple #[S,hv]/\fZ (xz F Q (IntKind.u64.wrap (s.added+s.jw)) k k.K.length b c s) w w' (MB F Q (IntKind.u64.wrap (s.added+s.jw)) k k.K.length b c s S (k.mI k.mg.length) hv (k.mH k.mg.length))):=by
 refine en Tryz.func48 Tryz.ntmps48 ?_
 have U:=(yp R).unpack
 refine fS U 2 ?_
 refine iH U (fun a G H I p=>?_)
 refine iH p (fun d q J L j=>?_)
 refine fK j 6 ?_
 refine cl vU (yP F Q _ q (ye j 2 rfl)) ?_
 rintro _ t ⟨rfl,V⟩
 have l:=ym 2 j V
 refine fK l 9 ?_
 refine mD (vf:=[]) (vc:=(Z5 a d)) rfl rfl rfl ?_
 have u:=yg [1,0,2,3,4] l
 have y:=yc [_,_] _ u
 have z:=yg [1,2,3,0] y
 have m:=yc [_,_,_,_] _ z
 refine cl Cd (Lo c F Q s t (G4 a d) (fun x:Value×Value×List kr×List Int=>gj [blk a 116 [x.1],blk d 48 [x.2.1],fL kr.cells x.1 119 2 x.2.2.1,fL fV x.2.1 2 1 x.2.2.2]) (fun k x=>x.2.2.1=k.mI k.mg.length/\x.2.2.2=k.mH k.mg.length) 86 (Z5 a d) Yh (fun k w1 T R=>abf a d k w1 R) k T b (ye m 0 rfl)) ?_
 rintro _ M ⟨e,rfl,A,B⟩
 have C:=(yi m B)
 have D:=yg [3,0,1,2] C
 have n:=yy D
 refine gF n 3 ?_
 refine kY mixed [([0,1,2],[1])] [3] n (fun N f=>jO ?_)
 refine fK f 2 ?_
 refine jM 0 f (fun O g=>?_) (hvs:=(cells_one (yu f (i:=2) rfl))) (h1:=(ia (yu f (i:=2) rfl) kT))
 refine fQ g 1 ?_
 refine kJ (kZ ?_)
 refine jM 1 g (fun P h=>?_) (hvs:=(cells_one (yu g (i:=3) rfl))) (h1:=(ia (yu g (i:=3) rfl) kT))
 refine fQ h 3 ?_
 refine nO (v:=e.1) (v' := e.2.1) Tryz.results48 (AY rfl Bg rfl (kQ h 0 rfl rfl)) (AY rfl nH rfl (kQ h 1 rfl rfl)) ?_
 have E:=yg [4,5,6,2,3] h
 obtain⟨W,X⟩:=A
 have o:=E
 rw[W,X]at o
 exact⟨e.1,e.2.1,rfl,yj (yc [_,_,_,_,_] _ o)⟩
end
section
open Go Go.Sx
theorem Lm(c:WC)(a:Nat)(s:WW)(w:World)(h:Own (WW.R c a s) w)(x:Lv)(j:x.ok)(k:s.now<=x.t)(l:x.t<=1000000)(i:s.added<1000000)(d:s.u.gK c.fO c.fM x.u x.v=0) :
 CR ya 29 (xo a x) w (fun r w' => ∃ (s2:WW),r = .int .i64 0/\WW.Ins c s s2 x/\fZ (WW.R c a s) w w' (WW.R c a s2)) :=
 CR.mono (TL c a s w h x j k l i) fun r w' ⟨e,s2,f,b,g⟩=>⟨s2,by rw[f,b.room d],b.ins (b.room d),g⟩
theorem JD{u v w t:Int}(h:0<=u/\u<=100/\0<=v/\v<=100/\0<=w/\w<=100/\0<=t/\t<=100):Lv.ok ⟨0,0,u,v,w,t,0⟩ :=
 ⟨kA (by show _/\_;dsimp only;omega),oO (by show _/\_;dsimp only;omega),oO (by show _/\_;dsimp only;omega),oO (by show _/\_;dsimp only;omega),kA (by show _/\_;dsimp only;omega),kA (by show _/\_;dsimp only;omega),kA (by show _/\_;dsimp only;omega)⟩
def GZ(s:WW):Prop:=∀ K L es,s.u.oI K->s.u.mo L->mO K L es L.length->K=[1,2,3]/\L.length=3/\es=lY
structure Vk.wk (s:WW) (k:Vk):Prop where
 of:Vk.of s k
 K:k.K=[1,2,3]
 es:k.es=lY
theorem Vk.of.wk{s:WW}{k:Vk}(h:Vk.of s k)(d:GZ s):Vk.wk s k:=by
 obtain⟨L,b,c⟩:=h.Ry
 obtain⟨e1,e,a⟩:=d _ _ _ h.ids b c
 exact⟨h,e1,a⟩
instance:DecidableEq kr:=fun a b=>by
 cases a with|mk a1 a2=>cases b with|mk b1 b2=>exact decidable_of_iff (a1=b1/\a2=b2) s_
abbrev wI:List kr:=[⟨1,2⟩,⟨1,3⟩]
abbrev wH:List Int:=[5,7]
theorem Vk.wk.Vw{s:WW}{k:Vk}(h:Vk.wk s k)(a:gV k.es k.K.length k.c.f):fJ k.K (k.gH 7 (gN k.K 3))=1/\k.pS 7 (gN k.K 3)=3:=by
 obtain⟨_,e,g⟩:=h
 unfold Vk.gH Vk.pS Vk.top
 revert a
 rw[e,g]
 intro a
 obtain⟨b,d⟩:=T3 a
 obtain⟨b,d⟩:=T3 (f:=k.c.f) a
 rw[show gN [1,2,3] 3=2 by decide]
 refine⟨?_,d⟩
 show fJ [1,2,3] (Go.Sx.gH lY 3 k.c.f (i6 (fT lY 3 k.c.f).p (fT lY 3 k.c.f).h 7 2))=1
 rw[b]
 rfl
theorem Vk.wk.mmx{s:WW}{k:Vk}(h:Vk.wk s k)(e:gV k.es k.K.length k.q.f){x:Int×Bool}(c:k.mm (gN k.K 1) (gN k.K 3) x):x=(7,true):=by
 obtain⟨_,m,n⟩:=h
 unfold Vk.mm at c
 revert e c
 rw[m,n]
 intro e c
 obtain⟨z,g,j,o⟩:=c.2 d_
 rw[show gN [1,2,3] 1=0 by decide,show gN [1,2,3] 3=2 by decide]at g
 obtain⟨d,l⟩:=ahM e g
 have i:=(j d).trans l
 obtain⟨a,b⟩:=x
 simp only at d i
 rw[d,i]
theorem Vk.wk.mg{s:WW}{k:Vk}(h:Vk.wk s k)(a:gV k.es k.K.length k.f):k.mI k.mg.length=wI/\k.mH k.mg.length=wH:=by
 obtain⟨_,c,d⟩:=h
 unfold Vk.mI Vk.mH Vk.mg
 revert a
 rw[c,d]
 intro a
 obtain⟨b,e⟩:=ahL a
 rw[b]
 exact⟨d_,d_⟩
theorem Vk.parts{k:Vk}{w:World}(h:Own (Vk.R k) w):k.ok/\gV k.es k.K.length k.c.f/\gV k.es k.K.length k.q.f:=by
 have a:=Own.of h.un
 exact⟨h.fact,(y0 a (i:=6) rfl),(y0 a (i:=7) rfl)⟩
theorem ahp(c:WC)(a b:Nat)(s:WW)(w:World)(m:Own (uq a b c s) w)(o:c.fO<=12)(l:GZ s)(n:s.u.t.cnt 3=0):CR ya 12 #[(Zb a),.int .u64 3,.int .i64 7] w (fun r w' => ∃ (k:Vk),r = .tuple #[.agg #[.int .u64 1,.int .i64 3],.int .i64 0]/\Vk.wk s k/\fZ (uq a b c s) w w' (MA a b (IntKind.u64.wrap (s.added+s.jw)) k k.K.length c s)) :=
 CR.mono (ahf c a b s w m o 3 7 n) fun r w' ⟨k,x,h,⟨j,d⟩,e⟩=>by
  have f:=j.wk l
  obtain⟨e1,g⟩:=f.Vw (Vk.parts (kP (Own.of e.own) (i:=1) rfl)).2.1
  rw[e1,g]at d
  subst d
  exact⟨k,h,f,e⟩
theorem ahA{o:Obj}(c:WC)(a d:Nat)(s:WW)(k:Vk)(l:Vk.of s k)(b:Int)(w:World)(f:Own (ug a d (IntKind.u64.wrap (s.added+s.jw)) k k.K.length b c s (jN o)) w)(hk:Vk.wk s k)(m:s.u.t.cnt 1=0)(n:s.u.t.cnt 3=0):CR ya 47 #[(Zb a),.int .u64 1,.int .u64 3] w (fun r w' => r = .tuple #[.int .i64 7,.bool true,.int .i64 0]/\fZ (ug a d (IntKind.u64.wrap (s.added+s.jw)) k k.K.length b c s (jN o)) w w' (ug a d (IntKind.u64.wrap (s.added+s.jw)) k k.K.length b c s (jN o))) :=
 CR.mono (ahi c a d s k l b w f 1 3 m n) fun r w' ⟨x,g,h,j⟩=>by
  have e:=hk.mmx (Vk.parts (kP (Own.of f) (i:=1) rfl)).2.2 h
  subst e
  exact⟨g,j⟩
theorem ahz(c:WC)(a f:Nat)(s:WW)(k:Vk)(l:Vk.of s k)(b:Int)(w:World)(h:Own (xz a f (IntKind.u64.wrap (s.added+s.jw)) k k.K.length b c s) w)(hk:Vk.wk s k):CR ya 48 (Zi a) w (fun r w' => ∃ (d hv:Value),r = .tuple #[d,hv]/\fZ (xz a f (IntKind.u64.wrap (s.added+s.jw)) k k.K.length b c s) w w' (MB a f (IntKind.u64.wrap (s.added+s.jw)) k k.K.length b c s d wI hv wH)) :=
 CR.mono (ahh c a f s k l b w h) fun r w' ⟨d,hv,j,g⟩=>by
  have e:=hk.mg (Vk.parts (kP (Own.of h) (i:=1) rfl)).1.fg
  rw[e.1,e.2]at g
  exact⟨d,hv,j,g⟩
theorem aha(d e:Nat)(k:Vk)(b g:Int)(w:World)(h:Own (G6 d e g k k.K.length b) w) :
 CR ya 24 (Zi d) w (fun r w' => r = .int .i64 b/\fZ (G6 d e g k k.K.length b) w w' (G6 d e g k k.K.length b)):=by
 refine en Tryz.func24 Tryz.ntmps24 ?_
 have f:=yp h
 refine fS f 9 ?_
 refine cl vU (yP d e _ w (ye f 0 rfl)) ?_
 rintro _ c ⟨rfl,i⟩
 have a:=ym 0 f i
 refine fQ a 16 ?_
 refine gq (v:=(Za b)) Tryz.results24 rfl ?_
 exact⟨rfl,yj a⟩
end
section
open Go Go.Sx
theorem Wi(es:List Ge)(n:Nat)(f:List Nat)(x:gV es n f)(y:n<=4096)(j m k i o:Value)(w:World)(u:Own (BN j (fT es n f) m k i o) w) :
 CR ya 203 (BG n j m k i o) w (fun r w' => ∃ t,r = .func (.func 256) #[] (Zi t)/\fZ (BN j (fT es n f) m k i o) w w' (gj [fL fV j 3 1 ((fT es n f).l),fL fV m 3 1 ((fT es n f).r),fL fV k 3 1 ((fT es n f).p),fL fV i 2 1 ((fT es n f).h),fL fR o 3 1 ((fT es n f).s),blk t 83 (Zr n j m k i o)])):=by
 refine en Tryz.func203 Tryz.ntmps203 ?_
 have q:=Own.of u
 refine fS q 2 ?_
 refine ij q (fun a d e g b=>?_)
 refine fK b 5 ?_
 refine mD (vf:=[]) (vc:=(Zh a)) rfl rfl rfl (fQ b 4 ?_)
 refine gq (v:=(.func (.func 256) #[] (Zi a))) Tryz.results203 rfl ?_
 have c:=yg [1,2,3,4,5,0] b
 exact⟨a,rfl,yj (yc [_,_,_,_,_,_] _ c)⟩
theorem Wh(es:List Ge)(n:Nat)(f:List Nat)(y z s u A:Value)(o:Nat->fU)(l q:Nat)(w:World)(E:∀ (x:Nat) (bs:List (World×List Nat)) (L:List fU) (w1:World),x<n+f.length->St bs (o (x+1) :: L) w1->YR ya l (Zo x (fJ (fT es n f).p x)) w1 (fun v w' => v = .bool true/\St bs (o x :: L) w'))(C:Own (DX (o (n+f.length)) q n y z s u A ((fT es n f).p)) w)(N:n+f.length<=1000000) :
 CR ya 256 (D3 (.func (.yield l) #[] #[]) q) w (fun r w' => r = .tuple #[]/\fZ (DX (o (n+f.length)) q n y z s u A ((fT es n f).p)) w w' (DX (o 0) q n y z s u A ((fT es n f).p))):=by
 refine en Tryz.func256 Tryz.ntmps256 ?_
 have B:=Own.of C
 obtain⟨H,I,J,K,M⟩:=lC (es:=es) (n:=n) (f:=f)
 refine fS B 4 ?_
 refine iL (m:=((fT es n f).p).length) 2 rfl rfl yd B rfl (ar (e:=((n+f.length:Nat):Int)-1) rfl rfl rfl rfl iT (gF B 4 ?_))
 refine lp (α:=Nat) (fun j=>[(0,(.func (.yield l) #[] #[])),(1,(Zb q)),(3,(Za ((j:Int)-1)))]) (fun j w1=>St [(w,(DX (o (n+f.length)) q n y z s u A ((fT es n f).p)).gG)] [o j,blk q 83 (Zr n y z s u A),fL fV s 3 1 ((fT es n f).p)] w1/\j<=n+f.length) (fun j=>j) (n+f.length) ⟨rfl,rfl,gm rO,trivial⟩ (⟨B,o_⟩) ?_
 rintro j c d ⟨t,F⟩
 have G:(j:Int)-1<(fT es n f).p.length:=by omega
 refine fS t 4 ?_
 by_cases g:(((j:Int)-1):Int)≥(0:Int)
 . obtain⟨x,D⟩:∃ x,j=x+1:=⟨j-1,o_⟩
   refine fK t 1 ?_
   subst D
   rw[show ((x+1:Nat):Int)-1=(x:Int) by omega]
   have a:=t
   refine fK a 14 ?_
   refine iK (cf:=fV) (k:=x) (i:=((x:Int))) rfl rfl rfl yd gr (y8 a 2 rfl) o_ o_ (gy om) (fK a 1 ?_)
   refine yl (vl:=(Zo x (fJ ((fT es n f).p) x))) rfl rfl rfl (E x _ _ _ o_ a) ?_
   rintro _ h ⟨rfl,b⟩
   refine fK b 9 ?_
   refine ar (e:=((x:Nat):Int)-1) rfl rfl rfl rfl (oT o_) (fQ b 2 ?_)
   refine tN (?_)
   exact again x ⟨rfl,rfl,gm rO,trivial⟩ (⟨b,o_⟩) o_
 . refine fQ t 8 ?_
   refine iQ Tryz.results256 ?_
   obtain rfl:j=0:=by omega
   exact⟨rfl,yj (yc [_,_,_] _ t)⟩
theorem adq(es:List Ge)(n:Nat)(f:List Nat)(hF:gV es n f)(hn:n<=4096)(F tr tp th ts:Value)(T:Int)(w:World)(hO:Own (BN F (fT es n f) tr tp th ts) w) :
 CR ya 136 (zN n F tr tp th ts T) w (fun r w' => ∃ (v:Value),r = .tuple #[v,.int .i64 0]/\fZ (BN F (fT es n f) tr tp th ts) w w' (gj [fL fV F 3 1 ((fT es n f).l),fL fV tr 3 1 ((fT es n f).r),fL fV tp 3 1 ((fT es n f).p),fL fV th 2 1 ((fT es n f).h),fL fR ts 3 1 ((fT es n f).s),fL fR v 3 1 (gU es n f T)])):=by
 refine Al (vs:=[(zI n F tr tp th ts),(Za T)]) Tryz.func136 rfl Tryz.ntmps136 rfl ?_
 have aM:=Own.of hO
 obtain⟨aT,aU,aV,aW,aX⟩:=lC (es:=es) (n:=n) (f:=f)
 have aS:=hF.f.room hF.g
 refine fS aM 2 ?_
 refine ij aM (fun b ak al am J=>?_)
 refine ij J (fun c K an ao e=>?_)
 refine fK e 7 ?_
 refine cl IG (Jx es n f hF hn F tr tp th ts K ⟨(y8 e 2 rfl).any,(y8 e 3 rfl).any,(y8 e 4 rfl).any,(y8 e 5 rfl).any,(y8 e 6 rfl).any⟩) ?_
 rintro _ M ⟨m,rfl,ht⟩
 have q:=(jJ e ht)
 refine fK q 20 ?_
 refine cl Cg (B6 m ((xg n f).map (gH es n f)) M (y8 q 0 rfl).any (by first|omega|(simp;omega))) ?_
 rintro a N hz
 have O:St _ [fL fR a 3 1 ((xg n f).map (gH es n f)),fL fR m 3 1 ((xg n f).map (gH es n f)),blk c 2 (Ze T),blk b 83 (Zr n F tr tp th ts),fL fV F 3 1 ((fT es n f).l),fL fV tr 3 1 ((fT es n f).r),fL fV tp 3 1 ((fT es n f).p),fL fV th 2 1 ((fT es n f).h),fL fR ts 3 1 ((fT es n f).s)] N:=tQ q hz.2 hz.1
 refine iH O (fun j ap aq ar t=>?_)
 refine jM 0 t (fun P B=>?_) (hvs:=(cells_one (yu t (i:=1) rfl))) (h1:=(ia (yu t (i:=1) rfl) kT))
 have Q:=yg [5,6,7,8,9,0,1,2,3,4] B
 have C:=yc [_,_,_,_,_] _ Q
 refine fK B 6 ?_
 refine cl Xe (Wi es n f hF hn F tr tp th ts P (ye C 0 rfl)) ?_
 rintro _ au ⟨o,rfl,R⟩
 have D:=(yi C R)
 have S:=yv 7 D rfl (congrArg (fL fR a 3 1) (show _=(ko es n f T (n+f.length)) from aay.symm))
 have U:=yg [10,9,6,7,3,0,1,2,4,5,8] S
 refine gF D 3 ?_
 refine rf (α:=Nat) (ps:=[22,23]) (fi:=[]) (ca:=(Zh o)) (fun z=>[blk b 83 (Zr n F tr tp th ts),blk c 2 (Ze T),blk j 35 [a],fL fR a 3 1 (ko es n f T z),fL fV th 2 1 ((fT es n f).h),fL fV F 3 1 ((fT es n f).l),fL fV tr 3 1 ((fT es n f).r),fL fV tp 3 1 ((fT es n f).p),fL fR ts 3 1 ((fT es n f).s),blk o 83 (Zr n F tr tp th ts),fL fR m 3 1 ((xg n f).map (gH es n f))]) (fun z=>z=0) U rfl Xz ?_ ?_
 . intro fn dd l wl rc aI aQ
   have V:=yg [0,2,3,4,5,6,1,7,8,9,10,11,12] aQ
   have aO:=yc (D6 (iR l rc) b n F tr tp th ts c T j a (ko es n f T (n+f.length)) ((fT es n f).h)) [jW dd (some []),fL fV F 3 1 ((fT es n f).l),fL fV tr 3 1 ((fT es n f).r),fL fV tp 3 1 ((fT es n f).p),fL fR ts 3 1 ((fT es n f).s),blk o 83 (Zr n F tr tp th ts),fL fR m 3 1 ((xg n f).map (gH es n f))] V
   have aF:rc.state = .ready:=by rw[aI]
   have aH:rc.pending=none:=by rw[aI]
   have aP:∀ (x:Nat) (bs:List (World×List Nat)) (L:List fU) (w1:World),x<n+f.length->St bs ((fun(z:Nat)=>gj (D6 (iR l rc) b n F tr tp th ts c T j a (ko es n f T z) ((fT es n f).h))) (x+1) :: L) w1->YR ya l (Zo x (fJ (fT es n f).p x)) w1 (fun v w' => v = .bool true/\St bs ((fun(z:Nat)=>gj (D6 (iR l rc) b n F tr tp th ts c T j a (ko es n f T z) ((fT es n f).h))) x :: L) w'):=by
    intro x bs LT wr aG aE
    have aE:=aE.unpack
    have aY:=hF.pQ.up x o_
    have aN:=xO (es:=es) (n:=n) (f:=f) (T:=T) (x:=x+1)
    refine yD (vl:=(Zo x (fJ (fT es n f).p x))) 0 aI aE rfl rfl rfl (iN aE 8 ?_)
    refine tN (?_)
    refine Aa 0 aE rfl aF rfl (fun av W=>oD W 4 fun aw d=>?_)
    by_cases ax:((fJ (fT es n f).p x):Int)≥(0:Int)
    . refine fK d 5 ?_
      refine iK (cf:=fV) (k:=(fJ (fT es n f).p x).toNat) (i:=(fJ (fT es n f).p x)) rfl rfl rfl nH ti2 (y8 d 5 rfl) o_ o_ (gy om) (fK d 2 ?_)
      by_cases ay:((fJ ((fT es n f).h) ((fJ (fT es n f).p x).toNat)):Int)<=(T:Int)
      . refine gJ d 10 fun az u=>?_
        refine iK (cf:=fR) (k:=(fJ (fT es n f).p x).toNat) (i:=(fJ (fT es n f).p x)) rfl rfl rfl yd gr (y8 u 4 rfl) o_ o_ (gy om) (fK u 2 ?_)
        refine iO (f:=(fun _=>(fJ (ko es n f T (x+1)) ((fJ (fT es n f).p x).toNat)))) 4 u (fun aA E=>?_)
        refine fQ E 2 ?_
        refine vR 0 E rfl aF aH rfl ?_
        intro aB X
        have Y:=yv 4 X rfl (congrArg (fL fR a 3 1) ((aaA hF aG o_ o_).2))
        exact⟨_,rfl,rfl,yc [_,_,_,_,_,_] _ Y⟩
      . refine fQ d 7 ?_
        refine vR 0 d rfl aF aH rfl ?_
        intro aC Z
        have aa:=yv 4 Z rfl (congrArg (fL fR a 3 1) (Qh hF aG o_))
        exact⟨_,rfl,rfl,yc [_,_,_,_,_,_] _ aa⟩
    . refine fQ d 15 ?_
      refine vR 0 d rfl aF aH rfl ?_
      intro aD ab
      have ac:=yv 4 ab rfl (congrArg (fL fR a 3 1) (Qh hF aG o_))
      exact⟨_,rfl,rfl,yc [_,_,_,_,_,_] _ ac⟩
   have ad:=lN aO (List.Perm.cons _ (List.Perm.cons _ (List.Perm.cons _ (List.Perm.cons _ (List.Perm.cons _ (List.Perm.swap _ _ _))))))
   have ae:=yg [0,5,4,1,2,3,6,7] ad
   have aL:=yc [_,_,_] _ ae
   refine CR.mono (Wh es n f F tr tp th ts (fun(z:Nat)=>gj (D6 (iR l rc) b n F tr tp th ts c T j a (ko es n f T z) ((fT es n f).h))) l o wl aP (ye aL 0 rfl) o_) ?_
   rintro _ w9 ⟨-,aR⟩
   have aK:=(yi aL aR)
   have aJ:=yy aK
   have aK:=aJ
   have af:=yg [0,8,1,2,3,4,5,9,10,7,11,6,12] aK
   exact⟨_,rfl,af⟩
 . rintro z dd G hC ag
   have y:=yv 4 ag rfl (congrArg (fL fR a 3 1) (show _=(ko es n f T 0) by rw[hC]))
   have aN:=xO (es:=es) (n:=n) (f:=f) (T:=T) (x:=0)
   refine CQ tt none y 7 ?_
   refine SF (l:=0) (h:=n) rfl rfl yd gr (y8 (cf:=fR) y 4 rfl) rfl ⟨_,gm o_⟩ o_ o_ ?_
   have H:St _ [jW dd (some []),blk b 83 (Zr n F tr tp th ts),blk c 2 (Ze T),blk j 35 [a],fL fR (mR 1 a 0 n) 3 1 ((ko es n f T 0).take n),fL fV th 2 1 ((fT es n f).h),fL fV F 3 1 ((fT es n f).l),fL fV tr 3 1 ((fT es n f).r),fL fV tp 3 1 ((fT es n f).p),fL fR ts 3 1 ((fT es n f).s),blk o 83 (Zr n F tr tp th ts),fL fR m 3 1 ((xg n f).map (gH es n f))] G:=St.Sh y (i:=4) rfl f_ o_
   refine cl Cg (B6 (mR 1 a 0 n) ((ko es n f T 0).take n) G (y8 H 4 rfl).any (by first|omega|(simp;omega))) ?_
   rintro A ah hz
   have I:St _ [fL fR A 3 1 ((ko es n f T 0).take n),jW dd (some []),blk b 83 (Zr n F tr tp th ts),blk c 2 (Ze T),blk j 35 [a],fL fR (mR 1 a 0 n) 3 1 ((ko es n f T 0).take n),fL fV th 2 1 ((fT es n f).h),fL fV F 3 1 ((fT es n f).l),fL fV tr 3 1 ((fT es n f).r),fL fV tp 3 1 ((fT es n f).p),fL fR ts 3 1 ((fT es n f).s),blk o 83 (Zr n F tr tp th ts),fL fR m 3 1 ((xg n f).map (gH es n f))] ah:=tQ H hz.2 hz.1
   refine fQ I 5 ?_
   refine xP 1 I rfl rfl ?_
   intro w8 aJ
   have ai:=yv 0 aJ rfl (congrArg (fL fR A 3 1) (aaz (zk _)))
   have aj:=yg [7,8,9,6,10,0] ai
   exact⟨_,results_tmp2 Tryz.results136 _ _ _,_,rfl,by rw[qi,qi];exact⟨A,rfl,yj (yc [_,_,_,_,_,_] _ aj)⟩⟩
end
section
open Go Go.Sx
theorem aao(b:Nat)(w:World) :
 CR ya 78 #[(.map (some b))] w (fun r w' => ∃ h,r = .func (.func 138) #[] (Zi h)/\fZ (gj []) w w' (blk h 153 [(.map (some b))])):=by
 refine en Tryz.func78 Tryz.ntmps78 ?_
 have g:=yt w
 refine fS g 2 ?_
 refine ij g (fun a d e f c=>?_)
 refine fK c 5 ?_
 refine mD (vf:=[]) (vc:=(Zh a)) rfl rfl rfl (fQ c 4 ?_)
 refine gq (v:=(HG a)) Tryz.results78 rfl ?_
 exact⟨a,rfl,nV c⟩
theorem aan{γ:Type}(F:γ->fU)(G:γ->List Int)(z0:γ)(b I:Nat)(mm:List (Int×Nat))(l:Nat)(w:World)(T:∀ (z:γ) (x:Int) (bs:List (World×List Nat)) (L:List fU) (w1:World),(G z).length<mm.length->x∈mm.map Prod.fst->St bs (F z :: L) w1->YR ya l (Ze x) w1 (fun v w' => v = .bool true/\∃ O,G O=G z++[x]/\St bs (F O :: L) w'))(U:G z0=[])(P:Own (gj [F z0,blk I 153 [(.map (some b))],gM b .i64 (fun x:Nat=>Value.int .i64 (x:Int)) mm]) w) :
 CR ya 138 (D3 (.func (.yield l) #[] #[]) I) w (fun r w' => ∃ z:γ,r = .tuple #[]/\(G z).Perm (mm.map Prod.fst)/\fZ (gj [F z0,blk I 153 [(.map (some b))],gM b .i64 (fun x:Nat=>Value.int .i64 (x:Int)) mm]) w w' (gj [F z,blk I 153 [(.map (some b))],gM b .i64 (fun x:Nat=>Value.int .i64 (x:Int)) mm])):=by
 refine en Tryz.func138 Tryz.ntmps138 ?_
 have N:=Own.of P
 refine fS N 3 ?_
 refine R7 (k:=.i64) (enc:=(fun x:Nat=>Value.int .i64 (x:Int))) (mm:=mm) 2 rfl rfl Bh N rfl (fun e t f=>gF f 3 ?_)
 refine lp (α:=γ×List (Int×Nat)×List (Int×Nat)×(Option (Int×Nat))) (fun(z,E,H,cur)=>[(0,(.func (.yield l) #[] #[])),(5,(Zb e))]) (fun(z,E,H,cur) w1=>St [(w,(gj [F z0,blk I 153 [(.map (some b))],gM b .i64 (fun x:Nat=>Value.int .i64 (x:Int)) mm]).gG)] [(F z),blk I 153 [(.map (some b))],lH b e .i64 (fun x:Nat=>Value.int .i64 (x:Int)) mm H cur] w1/\(E++H).Perm mm/\G z=E.map Prod.fst) (fun(z,E,H,cur)=>H.length) (z0,[],mm,none) ⟨rfl,rfl,trivial⟩ (⟨f,List.Perm.refl _,U⟩) ?_
 rintro⟨z,E,H,cur⟩ u y ⟨K,J,M⟩
 obtain⟨m,A⟩:∃ q,QE ya K (i:=2) rfl=q:=⟨_,rfl⟩
 refine fS K 2 ?_
 rcases m with ⟨g,n⟩|⟨a,h,B,c⟩
 . skip
   refine Fw rfl rfl (n _) ?_
   have C:=g
   refine fQ K 9 ?_
   refine iQ Tryz.results138 ?_
   have o:=St.QD K (i:=2) rfl
   exact⟨z,rfl,by rw[g,qA]at J;rw[M];exact J.map _,yj (yc [_,_,_] _ o)⟩
 . skip
   refine Fw rfl rfl (c.run _) ?_
   have d:=c.st
   refine fK d 10 ?_
   refine Oc (p:=a) 2 rfl rfl d rfl ?_
   have R:=c.perm.length_eq
   have Q:=J.length_eq
   refine fK d 8 ?_
   rw[ze]at R
   rw[zq]at Q
   have W:(G z).length=E.length:=by rw[M,zo]
   have S:a.1∈mm.map Prod.fst:=z7.2 ⟨a,J.mem_iff.1 (zm.2 (.inr (c.perm.mem_iff.2 za))),rfl⟩
   refine yl (vl:=(Ze a.1)) rfl rfl rfl (T z _ _ _ _ o_ S d) ?_
   rintro _ D ⟨rfl,s,V,j⟩
   refine fQ j 6 ?_
   refine tN (?_)
   exact again (s,(E++[a]),h,(some a)) ⟨rfl,rfl,trivial⟩ (⟨j,by rw[mL];exact(List.Perm.append_left E c.perm.symm).trans J,by rw[V,M,sw];rfl⟩) (by show h.length<H.length;omega)
theorem UL(b N:Nat)(mm:List (Int×Nat))(w:World)(X:Own (gj [blk N 153 [(.map (some b))],gM b .i64 (fun x:Nat=>Value.int .i64 (x:Int)) mm]) w)(ag:mm.length<=1000000) :
 CR ya 204 #[Zg,(HG N)] w (fun r w' => ∃ (v:Value) (F:List Int),v=r/\F.Perm (mm.map Prod.fst)/\fZ (gj [blk N 153 [(.map (some b))],gM b .i64 (fun x:Nat=>Value.int .i64 (x:Int)) mm]) w w' (gj [blk N 153 [(.map (some b))],gM b .i64 (fun x:Nat=>Value.int .i64 (x:Int)) mm,fL fV v 3 1 F])):=by
 refine Al (vs:=[Zg,(HG N)]) Tryz.func204 rfl Tryz.ntmps204 rfl ?_
 have U:=Own.of X
 refine fS U 2 ?_
 refine ij U (fun a k A B e=>?_)
 have m:St _ [fL fV Zg 3 1 ([]:List Int),blk a 35 nq,blk N 153 [(.map (some b))],gM b .i64 (fun x:Nat=>Value.int .i64 (x:Int)) mm] k:=oU e 3 1
 have n:=yg [1,0,2,3] m
 have o:=n
 refine gF e 10 ?_
 refine rf (α:=Value×List Int) (ps:=[7]) (fi:=[]) (ca:=(Zh N)) (fun(v,F)=>[blk a 35 [v],fL fV v 3 1 F,blk N 153 [(.map (some b))],gM b .i64 (fun x:Nat=>Value.int .i64 (x:Int)) mm]) (fun(v,F)=>F.Perm (mm.map Prod.fst)) o rfl WJ ?_ ?_
 . intro fn dd l wl rc P ae
   have p:=yg [0,2,3,4,5,1] ae
   have Z:=yc [iR l rc,blk a 35 nq,fL fV Zg 3 1 ([])] [blk N 153 [(.map (some b))],gM b .i64 (fun x:Nat=>Value.int .i64 (x:Int)) mm,jW dd (some [])] p
   have T:rc.state = .ready:=by rw[P]
   have ab:rc.pending=none:=by rw[P]
   have ac:∀ (z:Value×List Int) (x:Int) (bs:List (World×List Nat)) (L:List fU) (w1:World),((Prod.snd:Value×List Int->List Int) z).length<mm.length->x∈mm.map Prod.fst->St bs ((fun((v,F):Value×List Int)=>gj [iR l rc,blk a 35 [v],fL fV v 3 1 F]) z :: L) w1->YR ya l (Ze x) w1 (fun v w' => v = .bool true/\∃ V,(Prod.snd:Value×List Int->List Int) V=(Prod.snd:Value×List Int->List Int) z++[x]/\St bs ((fun((v,F):Value×List Int)=>gj [iR l rc,blk a 35 [v],fL fV v 3 1 F]) V :: L) w'):=by
    intro z x bs R wr Y ah O
    have O:=O.unpack
    have ai:z.2.length<mm.length:=Y
    refine yD (vl:=(Ze x)) 0 P O rfl rfl rfl (iN O 3 ?_)
    refine tN (?_)
    refine Aa 0 O rfl T rfl (fun C f=>fS f 4 ?_)
    refine jL (vs:=(Ze x)) (cs:=(Ze x)) rfl rfl yd gr rfl (by simp[Value.cells]) rfl rfl rfl f (fun q D E G g=>lF (cf:=fV) (ys:=z.2) (zs:=[x]) (LL:=fun c=>(ig .i64 (Z3 q) 3 ([x]) :: iR l { rc with state:=.busy } :: blk a 35 [z.1] :: fL fV c 3 1 (z.2++[x]) :: R)) 3 rfl rfl rfl yd gr rfl d_ g rfl (kO g (i:=0) rfl) (fun x hx=>zn.1 (show List.all _ _=true from rfl) x hx) (by simp only[ze,zh,maxLen];omega) (by simp only[ze,zh,maxLen];omega) f_ ?_)
    intro c H s I
    have d:=St.sub (L' := (iR l { rc with state:=.busy } :: blk a 35 [z.1] :: fL fV c 3 1 (z.2++[x]) :: R)) s (List.Sublist.cons _ (List.Sublist.refl _))
    refine jM 1 d (fun J h=>?_) (hvs:=(cells_one (yu d (i:=2) rfl))) (h1:=(ia (yu d (i:=2) rfl) kT))
    refine fQ h 2 ?_
    refine vR 0 h rfl T ab rfl ?_
    intro K t
    exact⟨_,rfl,rfl,(c,z.2++[x]),rfl,yc [_,_,_] _ t⟩
   have S:=yc [_,_,_] _ Z
   refine CR.mono (aan (fun((v,F):Value×List Int)=>gj [iR l rc,blk a 35 [v],fL fV v 3 1 F]) Prod.snd (.slice none 0 0,[]) b N mm l wl ac rfl (ye S 0 rfl)) ?_
   rintro _ w9 ⟨z,-,aa,af⟩
   have Q:=yy (yi S af)
   have ad:=Q
   have u:=yg [0,5,1,2,3,4] ad
   exact⟨(z.1,z.2),aa,u⟩
 . rintro⟨v,F⟩ dd M W j
   refine rS tt none j 9 ?_
   refine xP 0 j rfl rfl ?_
   intro w8 Q
   have y:=yg [3,4,2,0,1] Q
   exact⟨_,results_tmp Tryz.results204 _ _ _,_,rfl,by rw[qi];exact⟨v,F,rfl,W,yj (yc [_,_,_] _ y)⟩⟩
theorem VU(b i:Nat)(mm:List (Int×Nat))(w:World)(l:Own (gj [blk i 153 [(.map (some b))],gM b .i64 (fun x:Nat=>Value.int .i64 (x:Int)) mm]) w)(m:mm.length<=1000000) :
 CR ya 137 (Mh i) w (fun r w' => ∃ (v:Value) (k:List Int),v=r/\k.Perm (mm.map Prod.fst)/\fZ (gj [blk i 153 [(.map (some b))],gM b .i64 (fun x:Nat=>Value.int .i64 (x:Int)) mm]) w w' (gj [blk i 153 [(.map (some b))],gM b .i64 (fun x:Nat=>Value.int .i64 (x:Int)) mm,fL fV v 3 1 k])):=by
 refine en Tryz.func137 Tryz.ntmps137 ?_
 have j:=Own.of l
 have a:=yc [_,_] _ j
 refine fS j 8 ?_
 refine cl Xf (UL b i mm w (ye a 0 rfl) m) ?_
 rintro _ h ⟨c,e,rfl,f,g⟩
 have d:=(yi a g)
 refine fQ d 4 ?_
 refine gq (v:=c) Tryz.results137 rfl ?_
 exact⟨c,e,rfl,f,yj (yc [_,_,_] _ d)⟩
theorem aaQ(x y:Int)(w:World) :
 CR ya 163 (Zx x y) w (fun r w' => r = .bool (decide (x<y))/\gx [] w w'):=by
 refine en Tryz.func163 Tryz.ntmps163 ?_
 have e:=yt w
 refine fS e 8 ?_
 refine cl II (JR x w) ?_
 rintro _ c ⟨rfl,b⟩
 have a:=yq e b
 refine fK a 8 ?_
 by_cases d:(x:Int)<(y:Int)
 . refine fQ a 6 ?_
   refine gq (v:=Zf) Tryz.results163 rfl ?_
   exact⟨congrArg Value.bool (decide_eq_true o_).symm,a.gz s_⟩
 . refine fQ a 6 ?_
   refine gq (v:=Zp) Tryz.results163 rfl ?_
   exact⟨congrArg Value.bool (decide_eq_false o_).symm,a.gz s_⟩
theorem aaa(v:Value)(xs:List Int)(w:World)(J:Own (rD v xs) w)(M:xs.length<=1000000) :
 CR ya 157 #[v,Zc,(Za xs.length)] w (fun r w' => ∃ ys:List Int,r = .tuple #[]/\(ys.Perm xs/\mQ ys ys.length)/\fZ (rD v xs) w w' (rD v ys)):=by
 refine en Tryz.func157 Tryz.ntmps157 ?_
 have H:=yp J
 refine qV H 8 ?_
 refine lp (α:=Nat×List Int) (fun(i,ys)=>[(0,v),(1,Zc),(2,(Za xs.length)),(6,(Za i))]) (fun(i,ys) w1=>St [(w,(rD v xs).gG)] [fL fV v 3 1 ys] w1/\ys.Perm xs/\mQ ys i/\1<=i) (fun(i,ys)=>xs.length+1-i) (1,xs) ⟨rfl,rfl,rfl,gm rO,trivial⟩ (⟨H,List.Perm.refl _,mQ.zero,o_⟩) ?_
 rintro⟨i,ys⟩ m n ⟨B,E,F,hi⟩
 have N:=E.length_eq
 refine fS B 5 ?_
 by_cases o:((i:Int):Int)<((xs.length:Int):Int)
 . refine gF B 15 ?_
   refine lp (α:=Nat×List Int) (fun(j,zs)=>[(0,v),(1,Zc),(2,(Za xs.length)),(6,(Za i)),(7,(Za j))]) (fun(j,zs) w1=>St [(w,(rD v xs).gG)] [fL fV v 3 1 zs] w1/\zs.Perm xs/\tc zs i j/\j<=i) (fun(j,zs)=>j) (i,ys) ⟨rfl,rfl,rfl,rfl,gm rO,trivial⟩ (⟨B,E,F.at,o_⟩) ?_
   rintro⟨j,zs⟩ s t ⟨K,D,C,G⟩
   have O:=D.length_eq
   refine oD K 5 fun h a=>?_
   by_cases u:((j:Int):Int)>(0:Int)
   . refine fK a 9 ?_
     refine iK (cf:=fV) (k:=(j-1)) (i:=(j:Int)-1) rfl rfl rfl yd gr (y8 a 0 rfl) o_ o_ (gy om) (fK a 1 ?_)
     refine cl WY (aaQ (fJ zs j) (fJ zs (j-1)) h) ?_
     rintro _ x ⟨rfl,l⟩
     have b:=yq a l
     refine gF b 3 ?_
     cases d:(decide ((fJ zs j)<(fJ zs (j-1))):Bool)
     . skip
       refine iN b 12 ?_
       refine tN (?_)
       exact again ((i+1),zs) ⟨rfl,rfl,rfl,gm rO,trivial⟩ (⟨b,D,C.done o_ G (of_decide_eq_false d),o_⟩) (by show (xs.length+1-(i+1):Nat)<xs.length+1-i;omega)
     . skip
       refine oD b 14 fun y c=>?_
       refine iK (cf:=fV) (k:=(j-1)) (i:=(j:Int)-1) rfl rfl rfl yd gr (y8 c 0 rfl) o_ o_ (gy om) (fK c 6 ?_)
       refine iO (f:=(fun _=>(fJ zs (j-1)))) 0 c (fun z e=>?_)
       refine iK (cf:=fV) (k:=(j-1)) (i:=(j:Int)-1) rfl rfl rfl yd gr (y8 e 0 rfl) o_ o_ (gy om) (iO (f:=(fun _=>(fJ zs j))) 0 e (fun A g=>?_))
       refine fQ g 8 ?_
       refine tN (?_)
       exact again ((j-1),fN (fN zs j (fun _=>(fJ zs (j-1)))) (j-1) (fun _=>(fJ zs j))) ⟨rfl,rfl,rfl,rfl,gm rO,trivial⟩ (⟨g,(SS o_ o_).trans D,C.swap o_ G o_ (of_decide_eq_true d),o_⟩) (by show ((j-1):Nat)<j;omega)
   . refine fQ a 27 ?_
     refine tN (?_)
     exact again ((i+1),zs) ⟨rfl,rfl,rfl,gm rO,trivial⟩ (⟨a,D,(by rw[show j=0 by omega]at C;exact C.N9),o_⟩) (by show (xs.length+1-(i+1):Nat)<xs.length+1-i;omega)
 . refine fQ B 8 ?_
   refine iQ Tryz.results157 ?_
   exact⟨ys,rfl,⟨E,fun p q I L=>F p q I o_⟩,yj B⟩
theorem acg(v:Value)(xs:List Int)(w:World)(i:Own (rD v xs) w)(z:Int)(l:xs.length<=12) :
 CR ya 99 (Mk v xs.length z) w (fun r w' => ∃ ys:List Int,r = .tuple #[]/\(ys.Perm xs/\mQ ys ys.length)/\fZ (rD v xs) w w' (rD v ys)):=by
 refine en Tryz.func99 Tryz.ntmps99 ?_
 have h:=yp i
 refine qV h 11 ?_
 refine lp (α:=Nat) (fun k=>[(0,v),(1,Zc),(2,(Za xs.length)),(3,(Za z)),(8,Zf),(9,Zf)]) (fun k w1=>St [(w,(rD v xs).gG)] [fL fV v 3 1 xs] w1) (fun k=>0) 0 ⟨rfl,rfl,rfl,rfl,rfl,rfl,trivial⟩ h ?_
 rintro k e b g
 refine fS g 13 ?_
 refine cmp rfl rfl rfl (vN o_) (fK g 8 ?_)
 refine cl WX (aaa v xs b (ye g 0 rfl) o_) ?_
 rintro _ f ⟨c,rfl,d,j⟩
 have a:=ym 0 g j
 refine fQ a 7 ?_
 refine yC Tryz.results99 ?_
 exact⟨c,rfl,d,yj a⟩
theorem aei(v:Value)(xs:List Int)(w:World)(j:Own (rD v xs) w)(k:xs.length<=12) :
 CR ya 57 #[v] w (fun r w' => ∃ ys:List Int,r = .tuple #[]/\(ys.Perm xs/\mQ ys ys.length)/\fZ (rD v xs) w w' (rD v ys)):=by
 refine en Tryz.func57 Tryz.ntmps57 ?_
 have i:=yp j
 refine fS i 3 ?_
 refine iL (m:=xs.length) 0 rfl rfl yd i rfl (fK i 8 ?_)
 refine cl Ir (HN xs.length w o_) ?_
 rintro _ c ⟨d,rfl,e⟩
 have a:=yq i e
 refine cl Ym (acg v xs c (ye a 0 rfl) d k) ?_
 rintro _ h ⟨f,rfl,g,l⟩
 have b:=ym 0 a l
 refine fQ b 1 ?_
 refine iQ Tryz.results57 ?_
 exact⟨f,rfl,g,yj b⟩
theorem aeu(b m:Nat)(mm:List (Int×Nat))(w:World)(q:Own (gj [blk m 153 [(.map (some b))],gM b .i64 (fun x:Nat=>Value.int .i64 (x:Int)) mm]) w)(s:mm.length<=1000000)(u:mm.length<=12) :
 CR ya 77 (Mh m) w (fun r w' => ∃ (v:Value) (ys:List Int),v=r/\(∃ o,o.Perm (mm.map Prod.fst)/\ys.Perm o/\mQ ys ys.length)/\fZ (gj [blk m 153 [(.map (some b))],gM b .i64 (fun x:Nat=>Value.int .i64 (x:Int)) mm]) w w' (gj [blk m 153 [(.map (some b))],gM b .i64 (fun x:Nat=>Value.int .i64 (x:Int)) mm,fL fV v 3 1 ys])):=by
 refine en Tryz.func77 Tryz.ntmps77 ?_
 have n:=Own.of q
 have d:=yc [_,_] _ n
 refine fS n 8 ?_
 refine cl WI (VU b m mm w (ye d 0 rfl) s) ?_
 rintro _ h ⟨a,i,rfl,e,j⟩
 have c:=(yi d j)
 refine fK c 6 ?_
 refine cl XV (aei a i h (ye c 2 rfl) (by have p:=e.length_eq;rw[zo]at p;omega)) ?_
 rintro _ l ⟨k,rfl,f,t⟩
 have g:=ym 2 c t
 refine fQ g 9 ?_
 refine gq (v:=a) Tryz.results77 rfl ?_
 exact⟨a,k,rfl,⟨_,e,f.1,f.2⟩,yj (yc [_,_,_] _ g)⟩
end
section
open Go Go.Sx
theorem Vl(cb n:Nat)(es:List Ge)(c:Cv)(w:World)(s:Own (Cv.R cb n es c) w)(t:n<=4096)(T:Int) :
 CR ya 76 (Zm cb T) w (fun r w' => ∃ v:Value,v=r/\fZ (Cv.R cb n es c) w w' (gj [(Cv.R cb n es c),fL fR v 3 1 (gU es n c.f T)])):=by
 refine en Tryz.func76 Tryz.ntmps76 ?_
 have q:gV es n c.f:=s.fact
 have u:=Own.of s.un
 obtain⟨z,A,B,C,D⟩:=lC (es:=es) (n:=n) (f:=c.f)
 have y:=q.f.room q.g
 have x:=sF.of s
 refine fS u 9 ?_
 refine cl Oo (N5 cb n es c w x t) ?_
 rintro _ h ⟨rfl,i⟩
 have a:=yq u i
 have j:=yg [2,3,4,5,6,0,1,7] a
 have b:=yc [_,_,_,_,_] _ j
 refine fK a 13 ?_
 refine cl WH (adq es n c.f q t c.lv c.rv c.pv c.hv c.sv T h (ye b 0 rfl)) ?_
 rintro _ o ⟨d,rfl,k⟩
 have e:=(yi b k)
 refine fQ e 14 ?_
 refine gq (v:=d) Tryz.results76 rfl ?_
 have l:=yg [6,7,0,1,2,3,4,8,5] e
 have m:=yr (p:=gV es n c.f) (yc [_,_,_,_,_,_,_,_] _ l) q
 exact⟨d,rfl,yj (yc [_,_] _ m)⟩
theorem aeR{l:List Nat}{k:Nat}(hk:k<l.length):l.take (k+1)=l.take k++[fJ l k]:=by
 rw[nY,gy hk]
 rfl
theorem Uz{n k:Nat}{lab:List Nat}(h:k<(ji n lab).length):(kL n lab).take (k+1)=(kL n lab).take k++[⟨fJ (ji n lab) k,lab.count (fJ (ji n lab) k)⟩]:=by
 have e:(kL n lab)[k]? = some ⟨fJ (ji n lab) k,lab.count (fJ (ji n lab) k)⟩:=by
  unfold kL
  rw[kR,gy h]
  rfl
 rw[nY,e]
 rfl
theorem adE (v:Value)(e:TypeId)(l:List Nat):fL fV v e 1 (gw l)=fL fR v e 1 l:=by
 have h:(gw l).flatMap fV=l.flatMap fR:=by
  unfold gw
  rw[List.flatMap_map]
  rfl
 unfold fL
 rw[h]
 simp[gw]
theorem U5(cb n:Nat)(es:List Ge)(c:Cv)(w:World)(hO:Own (Cv.R cb n es c) w)(hn:n<=4096)(aJ:n<=12)(T:Int) :
 CR ya 40 (Zm cb T) w (fun r w' => ∃ v:Value,v=r/\fZ (Cv.R cb n es c) w w' (gj [(Cv.R cb n es c),fL Gp.cells v 102 2 (kL n (gU es n c.f T))])):=by
 refine en Tryz.func40 Tryz.ntmps40 ?_
 have ap:gV es n c.f:=hO.fact
 have aq:=yp hO
 have aG:=Qj (es:=es) (n:=n) (f:=c.f) (T:=T)
 refine fS aq 7 ?_
 refine mkV (fun x:Nat=>Value.int .i64 (x:Int)) .i64 rfl rfl aq (fun b B V W j=>fK j 8 ?_)
 refine cl X8 (Vl cb n es c B (ye j 1 rfl) hn T) ?_
 rintro _ X ⟨d,rfl,ht⟩
 have C:=yg [1,0] j
 have o:=yy (ym 0 C ht)
 refine iL (m:=(gU es n c.f T).length) 1 rfl rfl yd o rfl (gF o 4 ?_)
 refine lp (α:=Nat×List (Int×Nat)) (fun(i,mm)=>[(5,(.map (some b))),(14,d),(15,(Za ((gU es n c.f T).length:Int))),(16,(Za i))]) (fun(i,mm) w1=>St [(w,(Cv.R cb n es c).gG)] [(Cv.R cb n es c),fL fR d 3 1 (gU es n c.f T),gM b .i64 (fun x:Nat=>Value.int .i64 (x:Int)) mm] w1/\i<=(gU es n c.f T).length/\sD ((gU es n c.f T).take i) mm) (fun(i,mm)=>(gU es n c.f T).length-i) (0,[]) ⟨rfl,rfl,rfl,gm rO,trivial⟩ (⟨o,o_,sD.start⟩) ?_
 rintro⟨i,mm⟩ Y Z ⟨F,hi,hM⟩
 refine fS F 2 ?_
 by_cases aa:((i:Int):Int)<(((gU es n c.f T).length:Int):Int)
 . have aF:i<(gU es n c.f T).length:=by omega
   have aH:=hM.get (fJ (gU es n c.f T) i)
   have av:=LO (a:=fJ (gU es n c.f T) i) (l:=(gU es n c.f T).take i)
   refine fK F 17 ?_
   rw[zx]at av
   refine fK F 2 ?_
   refine pM (a:=(((fJ (gU es n c.f T) i):Nat):Int)) (mm:=mm) (enc:=(fun x:Nat=>Value.int .i64 (x:Int))) (k:=.i64) 2 rfl rfl rfl Bh yf gr rfl F rfl (ar (e:=((((gU es n c.f T).take i).count (fJ (gU es n c.f T) i)+1:Nat):Int)) rfl rfl rfl rfl iT (qm (a:=(((fJ (gU es n c.f T) i):Nat):Int)) (c:=(((gU es n c.f T).take i).count (fJ (gU es n c.f T) i)+1)) (mm:=mm) (enc:=(fun x:Nat=>Value.int .i64 (x:Int))) (k:=.i64) (L' := [(Cv.R cb n es c),fL fR d 3 1 (gU es n c.f T),gM b .i64 (fun x:Nat=>Value.int .i64 (x:Int)) (gD mm (((fJ (gU es n c.f T) i):Nat):Int) (((gU es n c.f T).take i).count (fJ (gU es n c.f T) i)+1))]) 2 rfl rfl rfl rfl Bh yf F rfl rfl (fun ab q=>fQ q 7 ?_)))
   refine tN (?_)
   exact again ((i+1),(gD mm (((fJ (gU es n c.f T) i):Nat):Int) (((gU es n c.f T).take i).count (fJ (gU es n c.f T) i)+1))) ⟨rfl,rfl,rfl,gm rO,trivial⟩ (⟨q,o_,by rw[aeR o_];exact hM.next _⟩) (by show ((gU es n c.f T).length-(i+1):Nat)<(gU es n c.f T).length-i;omega)
 . have ax:i=(gU es n c.f T).length:=by omega
   refine fK F 1 ?_
   rw[ax,qz]at hM
   have aI:=hM.len (Qk ap)
   have au:=HI (n:=n) (lab:=(gU es n c.f T))
   refine fK F 12 ?_
   refine pv rfl rfl (aaO (mm:=mm) (enc:=(fun x:Nat=>Value.int .i64 (x:Int))) (k:=.i64) 2 rfl Bh F rfl) (qU (cf:=Gp.cells) (z0:=(⟨0,0⟩:Gp)) (m:=0) (c:=mm.length) rfl rfl rfl Dp uQ rfl f_ d_ (mZ _) o_ o_ F ?_)
   intro s t ac ad D
   have E:St _ [fL Gp.cells (zM s mm.length) 102 2 ((List.replicate mm.length (⟨0,0⟩:Gp)).take 0),(Cv.R cb n es c),fL fR d 3 1 (gU es n c.f T),gM b .i64 (fun x:Nat=>Value.int .i64 (x:Int)) mm] t:=lU (cf:=Gp.cells) D (i:=0) rfl f_ (mZ _) (by simp only[maxLen];omega)
   have u:=E
   refine fK u 7 ?_
   refine cl Ya (aao b t) ?_
   rintro _ G ⟨H,rfl,ht⟩
   have I:=(jJ u ht)
   have J:=yg [0,4,1,2,3] I
   have y:=yc [_,_] _ J
   refine cl X9 (aeu b H mm G (ye y 0 rfl) o_ o_) ?_
   rintro _ ae ⟨g,af,rfl,K,L⟩
   have M:=(yi y L)
   obtain⟨aK,aA,aB,aC⟩:=K
   have aD:=hM.keys (Qk ap) aA aB aC
   have p:=yv 2 M rfl ((congrArg (fL fV g 3 1) aD).trans (adE _ _ _))
   refine iL (m:=(ji n (gU es n c.f T)).length) 2 rfl rfl yd p rfl ?_
   have N:=yg [4,1,2,3] p
   have aw:(kL n (gU es n c.f T)).length=(ji n (gU es n c.f T)).length:=by unfold kL;rw[zo]
   refine gF p 4 ?_
   refine lp (α:=Nat×Value) (fun(k,gv)=>[(5,(.map (some b))),(8,gv),(30,g),(31,(Za ((ji n (gU es n c.f T)).length:Int))),(32,(Za k))]) (fun(k,gv) w1=>St [(w,(Cv.R cb n es c).gG)] [(Cv.R cb n es c),gM b .i64 (fun x:Nat=>Value.int .i64 (x:Int)) mm,fL fR g 3 1 (ji n (gU es n c.f T)),fL Gp.cells gv 102 2 ((kL n (gU es n c.f T)).take k)] w1/\k<=(ji n (gU es n c.f T)).length) (fun(k,gv)=>(ji n (gU es n c.f T)).length-k) (0,(zM s mm.length)) ⟨rfl,rfl,rfl,rfl,gm rO,trivial⟩ (⟨N,o_⟩) ?_
   rintro⟨k,gv⟩ ag ah ⟨ao,hk⟩
   refine fS ao 2 ?_
   by_cases ai:((k:Int):Int)<(((ji n (gU es n c.f T)).length:Int):Int)
   . have az:k<(ji n (gU es n c.f T)).length:=by omega
     have aE:(((kL n (gU es n c.f T)).take k)).length<=k:=by rw[zx];omega
     have au:=HI (n:=n) (lab:=(gU es n c.f T))
     refine fK ao 21 ?_
     refine pM (a:=(((fJ (ji n (gU es n c.f T)) k):Nat):Int)) (mm:=mm) (enc:=(fun x:Nat=>Value.int .i64 (x:Int))) (k:=.i64) 1 rfl rfl rfl Bh yf gr rfl ao rfl (ja (pvs:=[(0,(Za (((fJ (ji n (gU es n c.f T)) k):Nat):Int))),(1,(Za ((gh mm (((fJ (ji n (gU es n c.f T)) k):Nat):Int):Nat):Int)))]) (v:=.agg (Zx (((fJ (ji n (gU es n c.f T)) k):Nat):Int) ((gh mm (((fJ (ji n (gU es n c.f T)) k):Nat):Int):Nat):Int))) rfl rfl (jq [(0,(Ze (((fJ (ji n (gU es n c.f T)) k):Nat):Int))),(1,(Ze ((gh mm (((fJ (ji n (gU es n c.f T)) k):Nat):Int):Nat):Int)))] uQ RD rfl ⟨rfl,rfl,rfl,rfl,trivial⟩ rfl) (jL (vs:=(D7 (((fJ (ji n (gU es n c.f T)) k):Nat):Int) ((gh mm (((fJ (ji n (gU es n c.f T)) k):Nat):Int):Nat):Int))) (cs:=(Zo (((fJ (ji n (gU es n c.f T)) k):Nat):Int) ((gh mm (((fJ (ji n (gU es n c.f T)) k):Nat):Int):Nat):Int))) rfl rfl Dp uQ rfl (by simp[Value.cells]) rfl rfl rfl ao (fun O aj ak al z=>lF (cf:=Gp.cells) (ys:=((kL n (gU es n c.f T)).take k)) (zs:=[(⟨(fJ (ji n (gU es n c.f T)) k),(gh mm (((fJ (ji n (gU es n c.f T)) k):Nat):Int))⟩:Gp)]) (LL:=fun h=>[row (Z3 O) 102 2 1 ((Zo (((fJ (ji n (gU es n c.f T)) k):Nat):Int) ((gh mm (((fJ (ji n (gU es n c.f T)) k):Nat):Int):Nat):Int))),(Cv.R cb n es c),gM b .i64 (fun x:Nat=>Value.int .i64 (x:Int)) mm,fL fR g 3 1 (ji n (gU es n c.f T)),fL Gp.cells h 102 2 (((kL n (gU es n c.f T)).take k)++[(⟨(fJ (ji n (gU es n c.f T)) k),(gh mm (((fJ (ji n (gU es n c.f T)) k):Nat):Int))⟩:Gp)])]) 4 rfl rfl rfl Dp uQ rfl d_ z rfl (kO z (i:=0) rfl) (fun x hx=>zn.1 (show List.all _ _=true from rfl) x hx) (by simp only[ze,zh,maxLen];omega) (by simp only[ze,zh,maxLen];omega) f_ ?_)))
     intro h am P an
     have A:=yg [1,2,3,4] P
     refine fQ A 8 ?_
     refine tN (?_)
     have Q:=yv 3 A rfl (congrArg (fL Gp.cells h 102 2) (show _=((kL n (gU es n c.f T)).take (k+1)) by rw[hM.get];exact(Uz az).symm))
     exact again ((k+1),h) ⟨rfl,rfl,rfl,rfl,gm rO,trivial⟩ (⟨Q,o_⟩) (by show ((ji n (gU es n c.f T)).length-(k+1):Nat)<(ji n (gU es n c.f T)).length-k;omega)
   . refine fQ ao 17 ?_
     refine gq (v:=gv) Tryz.results40 rfl ?_
     have ay:k=(ji n (gU es n c.f T)).length:=by omega
     have S:=yv 3 ao rfl (congrArg (fL Gp.cells gv 102 2) (show _=(kL n (gU es n c.f T)) by rw[ay,<-aw,qz]))
     have U:=yg [0,3] S
     exact⟨gv,rfl,yj (yc [_,_] _ U)⟩
end
section
open Go Go.Sx
theorem fW.NY{fO fM:Nat}{s:fW}(h:s.ok fO fM){x:Lv}(b:s.has x){id:Int}(a:x.u=id\/x.v=id):s.t.cnt id=0:=by
 obtain⟨i,hi,rfl⟩:=b
 exact TW.vO ((h.mem id).2 ⟨i,hi,a⟩)
theorem fW.VR{fO fM:Nat}{s:fW}(h:s.ok fO fM){id:Int}(c:∀ x,s.has x->x.u≠id/\x.v≠id):s.t.cnt id≠0:=by
 rw[TW.tA fun hm=>?_]
 . decide
 . obtain⟨i,hi,b⟩:=(h.mem id).1 hm
   have a:=c _ ⟨i,hi,rfl⟩
   exact b.elim a.1 a.2
theorem Y2:ya.eqGuardType ya.depth 119=false:=by kernel_rfl
theorem Yv(a b:Int)(w:World):(Op.equal 119 (HB a b) (HB a b)).run ya w = .ok true w:=by
 rw[adQ y9 yk jD]
 simp
theorem ahD{o:Obj}(w:World)(hO:Own (jN o) w) :
 CR ya 14 #[] w (fun r w' => r = .bool true/\fZ (jN o) w w' (jN o)):=by
 refine en Tryz.func14 Tryz.ntmps14 ?_
 have aL:=yp hO
 have aY:wI.length=2:=rfl
 have aX:wH.length=2:=rfl
 refine fS aL 7 ?_
 refine ja (pvs:=[(0,xw),(1,rF),(2,rF),(3,rF)]) (v:=.agg #[xw,rF,rF,rF]) rfl rfl (jq [(0,[xw]),(1,[rF]),(2,[rF]),(3,[rF])] Db RL rfl ⟨rfl,rfl,rfl,rfl,rfl,rfl,rfl,rfl,trivial⟩ rfl) (cl OM (TY cW w d_ d_ d_ d_ d_ d_ d_) ?_)
 rintro _ P ⟨d,B,rfl,p,T⟩
 have g:=(jJ aL T)
 have aG:=sR (ye g 0 rfl)
 have aK:=p.2.2
 have aD:=p.1
 have aC:=p.2.1
 have aR:B.u.last=0:=by have h7:=aG.1.la;have h8:=aG.2.1.sN;omega
 refine fK g 14 ?_
 refine uz (a:=some ⟨d,0,none⟩) (c:=false) rfl rfl rfl Bm rfl (fK g 9 ?_)
 refine ja (pvs:=[(0,vC),(1,zL),(2,(.int .i64 5))]) (v:=.agg #[vC,zL,(.int .i64 5),Zc]) rfl rfl (jq [(0,[vC]),(1,[zL]),(2,[(.int .i64 5)])] uR FB rfl ⟨rfl,rfl,rfl,rfl,rfl,rfl,trivial⟩ rfl) ?_
 have aS:=fW.HX aG.2.1 aG.2.2 (u:=1) (v:=2) d_ (L:=[]) (K:=[1,2]) d_ (fun x F=>absurd F (aK x)) (fun x F=>absurd F (aK x)) d_ d_ d_
 refine cl EH (Lm cW d B P (ye g 0 rfl) ⟨0,0,1,2,5,0,0⟩ (JD d_) (by rw[aD];decide) d_ (by rw[aC];decide) aS) ?_
 rintro _ Q ⟨C,rfl,q,T⟩
 have j:=ym 0 g T
 have aN:=sR (ye j 0 rfl)
 obtain⟨⟨i1,aI⟩,aP⟩:=ahG aK aR q
 have aD:=q.now
 have aC:C.added=1:=q.added.trans (by rw[aC];rfl)
 refine fK j 6 ?_
 refine ja (pvs:=[(0,zL),(1,vD),(2,(.int .i64 7)),(3,rF)]) (v:=.agg #[zL,vD,(.int .i64 7),rF]) rfl rfl (jq [(0,[zL]),(1,[vD]),(2,[(.int .i64 7)]),(3,[rF])] uR FB rfl ⟨rfl,rfl,rfl,rfl,rfl,rfl,rfl,rfl,trivial⟩ rfl) ?_
 have aT:=fW.HX aN.2.1 aN.2.2 (u:=2) (v:=3) d_ (L:=[wE i1 1 1 2 5 0]) (K:=[1,2,3]) (by show (1:Nat)<4;decide) (fun x F=>by rw[(aI x).1 F];simp) (fun x F=>by rw[(aI x).1 F];simp) d_ d_ d_
 refine cl EH (Lm cW d C Q (ye j 0 rfl) ⟨0,0,2,3,7,4,0⟩ (JD d_) (by rw[aD];decide) d_ (by rw[aC];decide) aT) ?_
 rintro _ R ⟨D,rfl,s,T⟩
 have l:=ym 0 j T
 have aO:=sR (ye l 0 rfl)
 obtain⟨⟨i2,aJ⟩,aQ⟩:=ahH aI aP s
 have aD:=s.now
 have aC:D.added=2:=s.added.trans (by rw[aC];rfl)
 refine fK l 6 ?_
 refine ja (pvs:=[(0,vC),(1,vD),(2,xx),(3,zK)]) (v:=.agg #[vC,vD,xx,zK]) rfl rfl (jq [(0,[vC]),(1,[vD]),(2,[xx]),(3,[zK])] uR FB rfl ⟨rfl,rfl,rfl,rfl,rfl,rfl,rfl,rfl,trivial⟩ rfl) ?_
 have aU:=fW.HX aO.2.1 aO.2.2 (u:=1) (v:=3) d_ (L:=[wE i1 1 1 2 5 0,wE i2 2 2 3 7 4]) (K:=[1,2,3]) (by show (2:Nat)<4;decide) (fun x F=>by rcases(aJ x).1 F with h|h<;>rw[h]<;>simp) (fun x F=>by rcases(aJ x).1 F with h|h<;>rw[h]<;>simp) d_ d_ d_
 refine cl EH (Lm cW d D R (ye l 0 rfl) ⟨0,0,1,3,9,6,0⟩ (JD d_) (by rw[aD];decide) d_ (by rw[aC];decide) aU) ?_
 rintro _ S ⟨e,rfl,y,T⟩
 have n:=ym 0 l T
 have aH:=sR (ye n 0 rfl)
 obtain⟨i3,aE⟩:=ahI aJ aQ y
 have aD:=y.now
 have aC:e.added=3:=y.added.trans (by rw[aC];rfl)
 have hG:GZ e:=fun K L es h1 h2 h3=>ahK aH.2.1 aE h1 h2 h3
 have aV:=fW.NY aH.2.1 ((aE _).2 (.inl (.inl rfl))) (.inl rfl)
 have aM:=fW.NY aH.2.1 ((aE _).2 (.inr rfl)) (.inr rfl)
 have aW:e.u.t.cnt 4≠0:=fW.VR aH.2.1 fun x F=>by rcases(aE x).1 F with (h|h)|h<;>rw[h]<;>simp
 refine fK n 6 ?_
 refine cl ON (TJ cW d e S (ye n 0 rfl)) ?_
 rintro _ U ⟨f,rfl,T⟩
 have z:=yy (ym 0 n T)
 refine fK z 26 ?_
 refine uz (a:=some ⟨f,0,none⟩) (c:=false) rfl rfl rfl Gy rfl ?_
 have V:=yg [1,0,2] z
 have E:=yc [_,_] _ V
 refine fK z 9 ?_
 refine cl Iy (ahp cW f d e U (ye E 0 rfl) d_ hG aM) ?_
 rintro _ an ⟨A,rfl,W,X⟩
 have G:=(yi E X)
 have aF:=W
 refine fK G 3 ?_
 refine iH G (fun ao ap aq ar Y=>?_)
 refine gJ Y 7 fun Z aa=>?_
 have ab:=yg [1,2,3,4,0] aa
 have H:=yc [_,_,_,_] _ ab
 refine cl XS (ahA cW f d e A aF.of 1 Z (ye H 0 rfl) aF aV aM) ?_
 rintro _ ac ⟨rfl,ad⟩
 have I:=(yi H ad)
 have ae:=yg [0,2,1,3,4] I
 have J:=yc [_,_] _ ae
 refine fK I 12 ?_
 refine cl Iy (ahe cW f d e _ ac (ye J 0 rfl) 4 7 aW) ?_
 rintro _ au ⟨rfl,af⟩
 have M:=(yi J af)
 refine fK M 3 ?_
 refine iH M (fun av aw ax ay ag=>?_)
 refine gJ ag 7 fun ah ai=>?_
 have aj:=yg [1,3,2,0,4,5] ai
 have N:=yc [_,_,_] _ aj
 refine cl XT (ahz cW f d e A aF.of 1 ah (ye N 0 rfl) aF) ?_
 rintro _ ak ⟨az,aA,rfl,al⟩
 have b:=(yi N al)
 refine fK b 38 ?_
 refine iL (m:=wI.length) 3 rfl rfl Bg b rfl (fK b 4 ?_)
 refine iK (cf:=kr.cells) (k:=1) (i:=1) rfl rfl rfl Bg tO (y8 b 3 rfl) o_ o_ (gy om) (fK b 1 ?_)
 refine ja (pvs:=[(0,vC),(1,vD)]) (v:=.agg He) rfl rfl (ur [(0,[vC]),(1,[vD])] tO y9 jD rfl ⟨rfl,rfl,rfl,rfl,trivial⟩ rfl s_) (Yo (c:=true) (xs:=He) (ys:=He) rfl rfl rfl Y2 (fun w=>Yv _ _ w) (fK b 3 ?_))
 refine iL (m:=wH.length) 4 rfl rfl nH b rfl (fK b 4 ?_)
 refine iK (cf:=fV) (k:=1) (i:=1) rfl rfl rfl nH ti2 (y8 b 4 rfl) o_ o_ (gy om) (fK b 5 ?_)
 refine cl Xn (aha f d A 1 _ ak (ye b 0 rfl)) ?_
 rintro _ aB ⟨rfl,T⟩
 have O:=ym 0 b T
 refine fQ O 6 ?_
 refine gq (v:=Zf) Tryz.results14 rfl ?_
 have am:=yg [6,0,1,2,3,4,5,7] O
 exact⟨rfl,yj am⟩
theorem ahC{o:Obj}(w:World)(a:(jN o).holds w):CR ya 14 #[] w (fun r w' => r = .bool true/\gx [] w w') :=
 CR.mono (ahD w (aeQ a)) fun r w' ⟨b,c⟩=>⟨b,aeO a c⟩
end
section
open Go Go.Sx
structure Vg where
 a:Int
 s:Nat
instance:Inhabited Vg:=⟨⟨0,0⟩⟩
def Vg.cells(x:Vg):List Value:=(sJ x.a x.s)
abbrev Vk.je(k:Vk)(T:Int):List Gp:=kL k.K.length (gU k.es k.K.length k.c.f T)
def Vk.cls(k:Vk)(T:Int)(j:Nat):List Vg:=((k.je T).take j).map fun g=>⟨fJ k.K g.l,g.s⟩
theorem Vk.Vv{k:Vk}{T:Int}{j:Nat}(h:j<(k.je T).length):k.cls T (j+1)=k.cls T j++[⟨fJ k.K (fJ (k.je T) j).l,(fJ (k.je T) j).s⟩]:=C5 _ h
theorem Vk.Vu{k:Vk}{T:Int}{j:Nat}:(k.cls T j).length<=j:=by simp[Vk.cls];omega
theorem Vk.Y8{k:Vk}{T:Int}:(k.je T).length<=k.K.length:=by
 show (kL _ _).length<=_
 unfold kL
 rw[zo]
 exact HI
theorem Vk.Y9{k:Vk}{T:Int}{j:Nat}(h:j<(k.je T).length):(fJ (k.je T) j).l<k.K.length:=by
 have b:=zd (gy h)
 have a:fJ (k.je T) j∈kL k.K.length (gU k.es k.K.length k.c.f T):=b
 unfold kL at a
 obtain⟨x,d,e⟩:=z7.1 a
 rw[<-e]
 exact(Nb d).1
theorem V3(b3 F:Nat)(T:Int)(k:Vk)(w:World)(hO:Own (G3 k b3 T F) w) :
 CR ya 39 (L5 k k.K.length b3 F) w (fun r w' => r = .tuple #[]/\∃ x:Value×List Vg,x.2=k.cls T (k.je T).length/\fZ (G3 k b3 T F) w w' (gj [Vk.R k,(gj [blk b3 2 (Ze T),blk F 38 [x.1],fL Vg.cells x.1 42 2 x.2])])):=by
 refine en Tryz.func39 Tryz.ntmps39 ?_
 have al:=Own.of hO
 have ak:=qw al
 have au:=ak.n
 have ao:=(jP al).unpack
 have y:=yg [8,0,1,2,3,4,5,6,7] ao
 have q:=yy y
 have ar:=Vk.Y8 (k:=k) (T:=T)
 refine fS q 2 ?_
 refine ij q (fun a z S U e=>?_)
 refine fK e 7 ?_
 refine cl XQ (U5 k.cb k.K.length k.es k.c z (ye e 9 rfl) o_ o_ T) ?_
 rintro _ A ⟨b,rfl,ht⟩
 have B:=yg [9,0,1,2,3,4,5,6,7,8,10] e
 have f:=yy (ym 0 B ht)
 refine iL (m:=(k.je T).length) 1 rfl rfl Dp f rfl ?_
 have C:St _ [fL Vg.cells Zg 42 2 (k.cls T 0),(p9 k k.K.length),fL Gp.cells b 102 2 (k.je T),blk a 87 (pn k k.K.length),blk b3 2 (Ze T),blk F 38 nq,fL gW k.iv 40 1 k.K,fL fV k.lv 3 1 ((Zj k).l),fL fV k.rv 3 1 ((Zj k).r),fL fV k.pv 3 1 ((Zj k).p),fL fV k.hv 2 1 ((Zj k).h),fL fR k.sv 3 1 ((Zj k).s),(Z6 k k.K.length)] A:=oU f 42 2
 have D:=yg [4,5,0,2,3,6,7,8,9,10,11,1,12] C
 refine gF f 4 ?_
 refine lp (α:=Nat×Value) (fun(i,gv)=>[(1,(Zb b3)),(2,(Zb F)),(3,(Zb a)),(9,b),(10,(Za ((k.je T).length:Int))),(11,(Za i))]) (fun(i,gv) w1=>St [(w,(G3 k b3 T F).gG)] [blk b3 2 (Ze T),blk F 38 [gv],fL Vg.cells gv 42 2 (k.cls T i),fL Gp.cells b 102 2 (k.je T),blk a 87 (pn k k.K.length),fL gW k.iv 40 1 k.K,fL fV k.lv 3 1 ((Zj k).l),fL fV k.rv 3 1 ((Zj k).r),fL fV k.pv 3 1 ((Zj k).p),fL fV k.hv 2 1 ((Zj k).h),fL fR k.sv 3 1 ((Zj k).s),(p9 k k.K.length),(Z6 k k.K.length)] w1/\i<=(k.je T).length) (fun(i,gv)=>(k.je T).length-i) (0,Zg) ⟨rfl,rfl,rfl,rfl,rfl,gm rO,trivial⟩ (⟨D,o_⟩) ?_
 rintro⟨i,gv⟩ V W ⟨aj,hi⟩
 have ap:=Vk.Vu (k:=k) (T:=T) (j:=i)
 refine fS aj 2 ?_
 by_cases X:((i:Int):Int)<(((k.je T).length:Int):Int)
 . have an:i<(k.je T).length:=by omega
   have aq:=Vk.Y9 an
   refine fK aj 13 ?_
   refine iH aj (fun E Y Z aa G=>?_)
   refine tL G 3 fun ab H=>?_
   refine kY mixed [([0,1,2,3,4,5,6,7,8,9,10],[0])] [11,12] H (fun ac t=>jO ?_)
   refine fK t 9 ?_
   refine ja (pvs:=[(0,(Zn (fJ k.K ((fJ (k.je T) i).l)))),(1,(Za ((fJ (k.je T) i).s:Int)))]) (v:=.agg #[(Zn (fJ k.K ((fJ (k.je T) i).l))),(Za ((fJ (k.je T) i).s:Int))]) rfl rfl (jq [(0,(Zq (fJ k.K ((fJ (k.je T) i).l)))),(1,(Ze ((fJ (k.je T) i).s:Int)))] wN RK rfl ⟨rfl,rfl,rfl,rfl,trivial⟩ rfl) (jL (vs:=[(.agg #[(Zn (fJ k.K ((fJ (k.je T) i).l))),(Za ((fJ (k.je T) i).s:Int))])]) (cs:=(sJ (fJ k.K ((fJ (k.je T) i).l)) ((fJ (k.je T) i).s:Int))) rfl rfl Dm wN rfl (by simp[Value.cells]) rfl rfl rfl t (fun I ad ae af g=>fQ g 1 ?_))
   refine kJ (kZ ?_)
   refine lF (cf:=Vg.cells) (ys:=(k.cls T i)) (zs:=[(⟨(fJ k.K ((fJ (k.je T) i).l)),((fJ (k.je T) i).s)⟩:Vg)]) (LL:=fun d=>[row (Z3 I) 42 2 1 ((sJ (fJ k.K ((fJ (k.je T) i).l)) ((fJ (k.je T) i).s:Int))),blk E 102 (Zo ((fJ (k.je T) i).l:Int) ((fJ (k.je T) i).s:Int)),blk b3 2 (Ze T),blk F 38 [gv],fL Vg.cells d 42 2 ((k.cls T i)++[(⟨(fJ k.K ((fJ (k.je T) i).l)),((fJ (k.je T) i).s)⟩:Vg)]),fL Gp.cells b 102 2 (k.je T),blk a 87 (pn k k.K.length),fL gW k.iv 40 1 k.K,fL fV k.lv 3 1 ((Zj k).l),fL fV k.rv 3 1 ((Zj k).r),fL fV k.pv 3 1 ((Zj k).p),fL fV k.hv 2 1 ((Zj k).h),fL fR k.sv 3 1 ((Zj k).s),(p9 k k.K.length),(Z6 k k.K.length)]) 4 rfl rfl rfl Dm wN rfl d_ g rfl (kO g (i:=0) rfl) (fun x hx=>zn.1 (show List.all _ _=true from rfl) x hx) (by simp only[ze,zh,maxLen];omega) (by simp only[ze,zh,maxLen];omega) f_ ?_
   intro d ag J ah
   have o:=yg [1,2,3,4,5,6,7,8,9,10,11,12,13,14] J
   refine jM 2 o (fun ai u=>?_) (hvs:=(cells_one (yu o (i:=3) rfl))) (h1:=(ia (yu o (i:=3) rfl) kT))
   refine fQ u 7 ?_
   refine tN (?_)
   have L:=yg [1,2,3,4,5,6,7,8,9,10,11,12,13] u
   have M:=yv 2 L rfl (congrArg (fL Vg.cells d 42 2) ((Vk.Vv o_).symm))
   exact again ((i+1),d) ⟨rfl,rfl,rfl,rfl,rfl,gm rO,trivial⟩ (⟨M,o_⟩) (by show ((k.je T).length-(i+1):Nat)<(k.je T).length-i;omega)
 . refine fQ aj 9 ?_
   refine iQ Tryz.results39 ?_
   have am:i=(k.je T).length:=by omega
   have N:=yv 2 aj rfl (congrArg (fL Vg.cells gv 42 2) (congrArg (k.cls T) am))
   have O:=yc [_,_,_] _ N
   have P:=yg [3,4,5,6,7,8,9,10,0,1,2] O
   have Q:=yr (p:=Vk.ok k) (yc [_,_,_,_,_,_,_,_] _ P) ak
   exact⟨rfl,(gv,k.cls T (k.je T).length),rfl,yj (yc [_,_] _ Q)⟩
end
section
open Go Go.Sx

end
section
open Go Go.Sx

end
section
open Go Go.Sx

end
section
open Go Go.Sx
theorem abw(lv:Value)(xs:List Mw)(w:World)(R:iw 5 Mw.cells (fun _=>True) w lv xs)(ad:∀ x∈xs,x.mv.ok) :
 CR ya 6 #[lv] w (fun r w' => ∃ (X W:Nat) (s:WW),r = .tuple #[.pointer (some ⟨X,0,none⟩),.pointer (some ⟨W,0,none⟩),.bool true]/\fZ (gj []) w w' (L4 cG X s W)):=by
 refine en Tryz.func6 Tryz.ntmps6 ?_
 have V:=yt w
 have ah:=R.len
 refine fS V 9 ?_
 refine ja (pvs:=[(0,(.int .i64 20)),(1,(.int .i64 40)),(2,xw),(3,(.int .i64 60))]) (v:=.agg #[(.int .i64 20),(.int .i64 40),xw,(.int .i64 60)]) rfl rfl (jq [(0,[(.int .i64 20)]),(1,[(.int .i64 40)]),(2,[xw]),(3,[(.int .i64 60)])] Db RL rfl ⟨rfl,rfl,rfl,rfl,rfl,rfl,rfl,rfl,trivial⟩ rfl) (cl OM (TY cG w d_ d_ d_ d_ d_ d_ d_) ?_)
 rintro _ q ⟨c,m,rfl,i,O⟩
 have j:=(jJ V O)
 refine fK j 20 ?_
 refine cl ON (TJ cG c m q (ye j 0 rfl)) ?_
 rintro _ D ⟨d,rfl,O⟩
 have n:=yy (ym 0 j O)
 refine gF n 24 ?_
 refine lp (α:=Nat×WW) (fun(k,s)=>[(0,lv),(5,(Zb c)),(7,(Zb d)),(8,(Za k))]) (fun(k,s) w1=>St [(w,[])] (Mm cG c s d) w1/\tf cG s k/\k<=xs.length/\k<=60) (fun(k,s)=>60-k) (0,m) ⟨rfl,rfl,rfl,gm rO,trivial⟩ (⟨n,tf.start i.1 i.2.1 i.2.2,o_,o_⟩) ?_
 rintro⟨k,s⟩ E G ⟨N,Q,ae,ag⟩
 have ab:=(sR (ye N 0 rfl)).1
 have aa:=ab.n0
 have al:=Q.now
 have am:=Q.added
 refine fS N 5 ?_
 refine kX (v:=lv) rfl rfl Tryz.underlying22 R ?_
 by_cases H:((k:Int):Int)<((xs.length:Int):Int)
 . refine fK N 3 ?_
   by_cases I:((k:Int):Int)<(60:Int)
   . refine gF N 10 ?_
     obtain⟨F,Y⟩:=pK (show k<xs.length by omega)
     have P:=ad _ (zd Y)
     have T:=P.u
     have U:=P.v
     have Z:=P.wt
     have S:=P.af
     have an : -128<=F.wt/\F.wt<=127:=Z
     have ac:=P.B8 aa o_
     have aj:0<=F.u/\F.u<=255:=T
     have ak:0<=F.v/\F.v<=255:=U
     have ai:0<=F.af/\F.af<=255:=S
     refine kY mixed [([0,2,3,4,5,6,7,8,1],[6])] [9,10] N (fun t g=>jO ?_)
     refine fK g 6 ?_
     refine rem (a:=F.af) (b:=4) (e:=F.af%4) rfl rfl rfl d_ (GH S.1) (fK g 1 ?_)
     refine cl XB (ahB cG c s t (ye g 0 rfl)) ?_
     rintro _ y ⟨rfl,O⟩
     have f:=ym 0 g O
     refine fQ f 1 ?_
     refine kJ (kZ ?_)
     refine gF f 14 ?_
     cases J:(F.wa:Bool)
     . skip
       refine oD f 10 fun z h=>?_
       refine rem (a:=F.u) (b:=12) (e:=F.u%12) rfl rfl rfl d_ (GH T.1) (fK h 6 ?_)
       refine rem (a:=F.v) (b:=12) (e:=F.v%12) rfl rfl rfl d_ (GH U.1) (fK h 8 ?_)
       refine ja (pvs:=[(0,(Zn (F.u%12))),(1,(Zn (F.v%12))),(2,(Za F.wt)),(3,(Za (s.now+(F.af%4))))]) (v:=.agg #[(Zn (F.u%12)),(Zn (F.v%12)),(Za F.wt),(Za (s.now+(F.af%4)))]) rfl rfl (jq [(0,(Zq (F.u%12))),(1,(Zq (F.v%12))),(2,(Ze F.wt)),(3,(Ze (s.now+(F.af%4))))] uR FB rfl ⟨rfl,rfl,rfl,rfl,rfl,rfl,rfl,rfl,trivial⟩ rfl) (cl EH (ahk cG c s z (ye h 0 rfl) (F.mv.B8 s.now) ac (by show s.now<=s.now+F.af%4;omega) (by show s.now+F.af%4<=1000000;omega) o_) ?_)
       rintro _ K ⟨L,A,rfl,B,O⟩
       have o:=ym 0 h O
       refine fQ o 8 ?_
       refine tN (?_)
       exact again ((k+1),A) ⟨rfl,rfl,rfl,gm rO,trivial⟩ (⟨o,Q.next B (by show s.now+F.af%4<=s.now+3;omega) (by show 0<=F.u%12/\F.u%12<12;omega) (by show 0<=F.v%12/\F.v%12<12;omega),o_,o_⟩) (by show (60-(k+1):Nat)<60-k;omega)
     . skip
       refine fS f 6 ?_
       refine cl OV (T4 cG c s y (ye f 0 rfl) (s.now+F.af%4) o_ o_) ?_
       rintro _ M ⟨C,rfl,l,O⟩
       have p:=ym 0 f O
       refine fQ p 15 ?_
       refine tN (?_)
       exact again ((k+1),C) ⟨rfl,rfl,rfl,gm rO,trivial⟩ (⟨p,Q.tick l.1 o_ l.2.1 l.2.2.1,o_,o_⟩) (by show (60-(k+1):Nat)<60-k;omega)
   . refine fQ N 20 ?_
     refine tK (v:=(Zb c)) (v' := (Zb d)) (v'' := Zf) Tryz.results6 rfl rfl rfl ?_
     exact⟨c,d,s,rfl,nV (yc [_,_] _ N)⟩
 . refine fQ N 23 ?_
   refine tK (v:=(Zb c)) (v' := (Zb d)) (v'' := Zf) Tryz.results6 rfl rfl rfl ?_
   exact⟨c,d,s,rfl,nV (yc [_,_] _ N)⟩
end
section
open Go Go.Sx
abbrev Vk.C(k:Vk)(T:Int):List Vg:=k.cls T (k.je T).length
end
section
open Go Go.Sx
theorem Wf(F n:Nat)(s:Ds)(w:World)(Y:Own (Ds.R F n s) w)(hn:n<=1000000) :
 CR ya 37 (Zi F) w (fun r w' => ∃ v:Value,v=r/\fZ (Ds.R F n s) w w' (oJ v s.lb)):=by
 refine enter (vs:=(Zh F)) Tryz.func37 rfl Tryz.ntmps37 rfl ?_
 obtain⟨⟨d,hd⟩,ae⟩:=Y.fact
 have ac:=hd.ul
 have ag:=hd.ll
 have ai:=hd.sl
 have Z:=hd.bl
 have ab:St _ (xB F s) w:=Own.of Y.un
 have o:=yc [_,_,_,_] _ ab
 refine fS ab 9 ?_
 refine jI (vl:=(Zh F)) rfl rfl IT (Iq F n s w (kP o (i:=0) rfl) d hd hn) ?_
 rintro _ A ⟨rfl,X⟩
 have h:St _ (xB F s) A:=(lP (R' := (qa F s)) 0 o rfl X rfl).unpack
 refine fK h 12 ?_
 refine iL (m:=s.up.length) 1 rfl rfl yd h rfl (qU (cf:=fR) (z0:=0) (m:=s.up.length) (c:=s.up.length) rfl rfl rfl yd gr rfl f_ d_ (zk _) o_ o_ h ?_)
 intro p q S U B
 have b:St _ [fL fR (.slice (some ⟨p,0,none⟩) s.up.length s.up.length) 3 1 (List.replicate s.up.length 0),blk F 149 [(.pointer (some ⟨F,0,none⟩)),s.uv,s.lv,s.sv,(.int .i64 s.cnt)],fL fR s.uv 3 1 s.up,fL fR s.lv 3 1 s.le,fL fV s.sv 3 1 s.sz] q:=lU (cf:=fR) B (i:=0) rfl f_ (zk _) (by simp only[maxLen];omega)
 generalize (Value.slice (some ⟨p,0,none⟩) s.up.length s.up.length)=a at b ⊢
 refine fK b 7 ?_
 refine iL (m:=(List.replicate s.up.length 0).length) 0 rfl rfl yd b rfl ?_
 have C:=yg [4,1,2,3,0] b
 have ah:(List.replicate s.up.length (0:Nat)).length=n:=by rw[sY,ac]
 have D:St _ [fL fV s.sv 3 1 s.sz,blk F 149 [(Zb F),s.uv,s.lv,s.sv,(Za s.cnt)],fL fR s.uv 3 1 s.up,fL fR s.lv 3 1 s.le,fL fR a 3 1 (qh s.lb 0)] q:=yv 4 C rfl (congrArg (fL fR a 3 1) ((congrArg (fun z=>List.replicate z 0) (ac.trans Z.symm)).trans V2))
 refine gF b 4 ?_
 refine lp (α:=Nat×List Nat) (fun(i,up)=>[(0,(Zb F)),(3,a),(15,(Za ((List.replicate s.up.length 0).length:Int))),(16,(Za i))]) (fun(i,up) w1=>St [(w,(Ds.R F n s).gG)] [fL fV s.sv 3 1 s.sz,blk F 149 [(Zb F),s.uv,s.lv,s.sv,(Za s.cnt)],fL fR s.uv 3 1 up,fL fR s.lv 3 1 s.le,fL fR a 3 1 (qh s.lb i)] w1/\(s.wu up).uM d n/\i<=n) (fun(i,up)=>n-i) (0,s.up) ⟨rfl,rfl,rfl,gm (by first|rfl|omega),trivial⟩ (⟨D,hd,o_⟩) ?_
 rintro⟨i,up⟩ V E ⟨T,aa,hi⟩
 have aj:up.length=n:=aa.ul
 have af:=Ig (l:=s.lb) (k:=i) o_
 refine fS T 2 ?_
 by_cases W:((i:Int):Int)<(((List.replicate s.up.length 0).length:Int):Int)
 . refine gF T 15 ?_
   refine kY mixed [([0,1,2,3,4,5,6,7,8],[5])] [9,10,11,12] T (fun G t=>jO ?_)
   have H:=yg [1,2,3,0,4] t
   have u:=yc [_,_,_,_] _ H
   refine fK t 8 ?_
   refine jI (vl:=(sI F i)) rfl rfl IU (Io F n (s.wu up) G (kP u (i:=0) rfl) d aa hn i o_) ?_
   rintro _ I ⟨J,e,rfl,g,X⟩
   have j:St _ [blk F 149 [(Zb F),s.uv,s.lv,s.sv,(Za s.cnt)],fL fR s.uv 3 1 e,fL fR s.lv 3 1 s.le,fL fV s.sv 3 1 s.sz,fL fR a 3 1 (qh s.lb i)] I:=(lP (R' := gj (BU F s e)) 0 u rfl X rfl).unpack
   have x:=g.1.ok
   have K:=g.1.an
   have L:=(x.gH _ K g.2).trans g.1.la
   refine fQ j 1 ?_
   refine kJ (kZ ?_)
   refine fK j 3 ?_
   refine iO (f:=(fun _=>(fJ s.le J))) 4 j (fun M y=>?_)
   refine fQ y 7 ?_
   refine tN (?_)
   have N:=yg [3,0,1,2,4] y
   have O:St _ [fL fV s.sv 3 1 s.sz,blk F 149 [(Zb F),s.uv,s.lv,s.sv,(Za s.cnt)],fL fR s.uv 3 1 e,fL fR s.lv 3 1 s.le,fL fR a 3 1 (qh s.lb (i+1))] M:=yv 4 N rfl (congrArg (fL fR a 3 1) (V1 o_ (L)))
   exact again ((i+1),e) ⟨rfl,rfl,rfl,gm (by first|rfl|omega),trivial⟩ (⟨O,x,o_⟩) (by show (n-(i+1):Nat)<n-i;omega)
 . refine fQ T 17 ?_
   refine gq (v:=a) Tryz.results37 rfl ?_
   have ad:i=n:=by omega
   have P:St _ [fL fV s.sv 3 1 s.sz,blk F 149 [(Zb F),s.uv,s.lv,s.sv,(Za s.cnt)],fL fR s.uv 3 1 up,fL fR s.lv 3 1 s.le,fL fR a 3 1 s.lb] E:=yv 4 T rfl (congrArg (fL fR a 3 1) (show _=s.lb by rw[ad,<-Z,V0]))
   have Q:=yg [4] P
   exact⟨a,rfl,yo (R' := fL fR a 3 1 s.lb) Q za⟩
theorem I4(b n:Nat)(q:Gr)(es:List Ge)(w:World)(e:Own (Gr.R b n q es) w) :
 CR ya 34 (Zi b) w (fun r w' => r = .bool true/\fZ (Gr.R b n q es) w w' (Gr.R b n q es)):=by
 refine en Tryz.func34 Tryz.ntmps34 ?_
 have d:=Own.of e
 have f:=A9 (n:=n) (es:=es)
 refine fS d 8 ?_
 refine lS (a:=some ⟨b,0,none⟩) (c:=true) rfl rfl rfl Tryz.underlying31 rfl (fK d 6 ?_)
 refine Am (a:=⟨b,0,none⟩) rfl rfl rfl Tryz.underlying31 Lf (fQ d 5 ?_)
 refine gq (v:=Zf) Tryz.results34 rfl ?_
 exact⟨rfl,yj (yc [_,_,_,_] _ d)⟩
theorem PB(f n:Nat)(q:Gr)(es:List Ge)(w:World)(h:Own (Gr.R f n q es) w)(i:n<=4096) :
 CR ya 35 (Zi f) w (fun r w' => r = .int .i64 (n:Int)/\fZ (Gr.R f n q es) w w' (Gr.R f n q es)):=by
 refine en Tryz.func35 Tryz.ntmps35 ?_
 have g:=Own.of h
 have j:=A9 (n:=n) (es:=es)
 have b:=yc [_,_,_,_] _ g
 refine fS g 9 ?_
 refine cl IS (I4 f n q es w (ye b 0 rfl)) ?_
 rintro _ d ⟨rfl,c⟩
 have a:=(yi b c)
 refine fK a 12 ?_
 refine iL (m:=(sW n es).length) 2 rfl rfl yd a rfl (ar (e:=(n:Int)) rfl rfl rfl rfl iT (fQ a 4 ?_))
 refine gq (v:=(Za n)) Tryz.results35 rfl ?_
 exact⟨rfl,yj (yc [_,_,_,_] _ a)⟩
theorem Y7(F n:Nat)(q:Gr)(es:List Ge)(w:World)(V:Own (Gr.R F n q es) w)(hn:n<=4096)(W:n9 n es)(hm:es.length<=16384) :
 CR ya 36 (Zi F) w (fun r w' => ∃ (S:Nat) (s:Ds),r = .pointer (some ⟨S,0,none⟩)/\s.lb=pL es n/\fZ (Gr.R F n q es) w w' (gj [(Gr.R F n q es),(Ds.R S n s)])):=by
 refine en Tryz.func36 Tryz.ntmps36 ?_
 have U:=Own.of V
 have ac:=A9 (n:=n) (es:=es)
 have c:=yc [_,_,_,_] _ U
 refine fS U 9 ?_
 refine cl IS (I4 F n q es w (ye c 0 rfl)) ?_
 rintro _ j ⟨rfl,k⟩
 have d:=(yi c k)
 have e:=yc [_,_,_,_] _ d
 refine fK d 9 ?_
 refine cl O3 (PB F n q es j (ye e 0 rfl) hn) ?_
 rintro _ l ⟨rfl,o⟩
 have p:=(yi e o)
 refine cl O9 (N8 n l o_) ?_
 rintro _ E ⟨a,f,rfl,t,Q⟩
 have b:=(jJ p Q)
 refine fK b 14 ?_
 refine iL (m:=es.length) 2 rfl rfl nG b rfl ?_
 have x:=yg [1,2,3,4,0] b
 have Z:f.lb=pL (es.take 0) n:=t
 refine gF b 4 ?_
 refine lp (α:=Nat×Ds) (fun(i,s)=>[(0,(Zb F)),(3,(Zb a)),(4,Zc),(19,q.ev),(20,(Za es.length)),(21,(Za i))]) (fun(i,s) w1=>St [(w,(Gr.R F n q es).gG)] [blk F 95 [(Zb F),q.ev,q.sv,q.lv],fL Ge.cells q.ev 91 3 es,fL fR q.sv 3 1 (sW n es),fL fR q.lv 3 1 (CC n es),(Ds.R a n s)] w1/\i<=es.length/\s.lb=pL (es.take i) n) (fun(i,s)=>es.length-i) (0,f) ⟨rfl,rfl,rfl,rfl,rfl,gm rO,trivial⟩ (⟨x,o_,Z⟩) ?_
 rintro⟨i,s⟩ G H ⟨O,hi,P⟩
 refine fS O 2 ?_
 by_cases I:((i:Int):Int)<((es.length:Int):Int)
 . have Y:i<es.length:=by omega
   have T:=W.at Y
   have aa:=T.1
   have ab:=T.2.1
   refine fK O 13 ?_
   refine iH O (fun J K L M y=>?_)
   refine gJ y 9 fun z g=>?_
   refine cl Pa (Ob a n s z (ye g 5 rfl) o_ ((fJ es i).u) ((fJ es i).v) o_ o_) ?_
   rintro _ N ⟨A,rfl,B,Q⟩
   have h:=ym 5 g Q
   refine fQ h 7 ?_
   refine tN (?_)
   have C:=yg [1,2,3,4,5] h
   exact again ((i+1),A) ⟨rfl,rfl,rfl,rfl,rfl,gm rO,trivial⟩ (⟨C,o_,B.trans (by rw[Y5 o_,P])⟩) (by show (es.length-(i+1):Nat)<es.length-i;omega)
 . refine fQ O 17 ?_
   refine gq (v:=(Zb a)) Tryz.results36 rfl ?_
   have X:i=es.length:=by omega
   rw[X,qz]at P
   have D:=yc [_,_,_,_] _ O
   exact⟨a,s,rfl,P,yj (yc [_,_] _ D)⟩
theorem Y4(j n:Nat)(q:Gr)(es:List Ge)(w:World)(m:Own (Gr.R j n q es) w)(p:n<=4096)(o:n9 n es)(hm:es.length<=16384) :
 CR ya 10 (Zi j) w (fun r w' => ∃ v:Value,v=r/\fZ (Gr.R j n q es) w w' (gj [(Gr.R j n q es),fL fR v 3 1 (pL es n)])):=by
 refine en Tryz.func10 Tryz.ntmps10 ?_
 have k:=yp m
 refine fS k 8 ?_
 refine cl XN (Y7 j n q es w (ye k 0 rfl) p o hm) ?_
 rintro _ d ⟨e,f,rfl,g,l⟩
 have b:=yy (ym 0 k l)
 refine cl XO (Wf e n f d (ye b 1 rfl) o_) ?_
 rintro _ i ⟨a,rfl,l⟩
 have c:=ym 1 b l
 refine fQ c 4 ?_
 refine gq (v:=a) Tryz.results10 rfl ?_
 have h:=yv 1 c rfl (congrArg (fL fR a 3 1) (g))
 exact⟨a,rfl,yj (yc [_,_] _ h)⟩
theorem TC{es:List Ge}{T:Int}{i:Nat}(h:i<es.length):((es.take (i+1)).filter fun e=>decide (e.w<=T))=((es.take i).filter fun e=>decide (e.w<=T))++(if (fJ es i).w<=T then[fJ es i]else[]):=by
 rw[nY,gy h,vh]
 congr 1
 show List.filter _ [fJ es i]=_
 split<;>rename_i a
 . exact Dz (by simpa using a)
 . exact Dy (by simpa using a)
theorem ag0{es:List Ge}{T:Int}{i:Nat}:((es.take i).filter fun e=>decide (e.w<=T)).length<=i:=kS (u7 _ _) (by rw[zx];omega)
theorem ZC(F n:Nat)(q:Gr)(es:List Ge)(w:World)(hO:Own (Gr.R F n q es) w)(hn:n<=4096)(hg:n9 n es)(hm:es.length<=16384)(T:Int) :
 CR ya 9 (Zm F T) w (fun r w' => ∃ (ac:Nat) (q2:Gr),r = .pointer (some ⟨ac,0,none⟩)/\fZ (Gr.R F n q es) w w' (gj [(Gr.R F n q es),(Gr.R ac n q2 (es.filter fun e=>decide (e.w<=T)))])):=by
 refine en Tryz.func9 Tryz.ntmps9 ?_
 have af:=Own.of hO
 have ak:=A9 (n:=n) (es:=es)
 have d:=yc [_,_,_,_] _ af
 refine fS af 9 ?_
 refine cl IS (I4 F n q es w (ye d 0 rfl)) ?_
 rintro _ o ⟨rfl,p⟩
 have a:=(yi d p)
 refine fK a 18 ?_
 refine iL (m:=es.length) 1 rfl rfl nG a rfl ?_
 have s:St _ [fL Ge.cells Zg 91 3 ((es.take 0).filter fun e=>decide (e.w<=T)),blk F 95 [(Zb F),q.ev,q.sv,q.lv],fL Ge.cells q.ev 91 3 es,fL fR q.sv 3 1 (sW n es),fL fR q.lv 3 1 (CC n es)] o:=oU a 91 3
 have t:=yg [1,2,3,4,0] s
 refine gF a 4 ?_
 refine lp (α:=Nat×Value) (fun(i,lv)=>[(0,(Zb F)),(1,(Za T)),(4,Zt),(5,lv),(14,q.ev),(15,(Za es.length)),(16,(Za i))]) (fun(i,lv) w1=>St [(w,(Gr.R F n q es).gG)] [blk F 95 [(Zb F),q.ev,q.sv,q.lv],fL Ge.cells q.ev 91 3 es,fL fR q.sv 3 1 (sW n es),fL fR q.lv 3 1 (CC n es),fL Ge.cells lv 91 3 ((es.take i).filter fun e=>decide (e.w<=T))] w1/\i<=es.length) (fun(i,lv)=>es.length-i) (0,Zg) ⟨rfl,rfl,rfl,rfl,rfl,rfl,gm rO,trivial⟩ (⟨t,o_⟩) ?_
 rintro⟨i,lv⟩ L y ⟨aa,hi⟩
 have al:=ag0 (es:=es) (T:=T) (i:=i)
 refine fS aa 2 ?_
 by_cases M:((i:Int):Int)<((es.length:Int):Int)
 . have ab:i<es.length:=by omega
   have ae:=hg.at ab
   have ai:=ae.1
   have aj:=ae.2.1
   refine fK aa 13 ?_
   refine iH aa (fun z N O P A=>?_)
   refine gJ A 8 fun Q b=>?_
   by_cases S:((fJ es i).w:Int)<=(T:Int)
   . refine fK b 7 ?_
     refine jL (vs:=[(.agg #[(Za ((fJ es i).u:Int)),(Za ((fJ es i).v:Int)),(Za ((fJ es i).w))])]) (cs:=[(Za ((fJ es i).u:Int)),(Za ((fJ es i).v:Int)),(Za ((fJ es i).w))]) rfl rfl nG uS rfl (by simp[Value.cells]) rfl rfl rfl b (fun B U V W f=>lF (cf:=Ge.cells) (ys:=((es.take i).filter fun e=>decide (e.w<=T))) (zs:=[(fJ es i)]) (LL:=fun c=>[row (Z3 B) 91 3 1 ([(Za ((fJ es i).u:Int)),(Za ((fJ es i).v:Int)),(Za ((fJ es i).w))]),blk z 91 [(Za ((fJ es i).u:Int)),(Za ((fJ es i).v:Int)),(Za ((fJ es i).w))],blk F 95 [(Zb F),q.ev,q.sv,q.lv],fL Ge.cells q.ev 91 3 es,fL fR q.sv 3 1 (sW n es),fL fR q.lv 3 1 (CC n es),fL Ge.cells c 91 3 (((es.take i).filter fun e=>decide (e.w<=T))++[(fJ es i)])]) 6 rfl rfl rfl nG uS rfl d_ f rfl (kO f (i:=0) rfl) (fun x hx=>zn.1 (show List.all _ _=true from rfl) x hx) (by simp only[ze,zh];omega) (by simp only[ze,zh];omega) f_ ?_)
     intro c X g Y
     have C:=yg [1,2,3,4,5,6] g
     refine fQ C 8 ?_
     refine tN (?_)
     have D:=yg [2,3,4,5,6] g
     have E:=yv 4 D rfl (congrArg (fL Ge.cells c 91 3) (show _=((es.take (i+1)).filter fun e=>decide (e.w<=T)) by rw[TC ab,if_pos o_]))
     exact again ((i+1),c) ⟨rfl,rfl,rfl,rfl,rfl,rfl,gm rO,trivial⟩ (⟨E,o_⟩) (by show (es.length-(i+1):Nat)<es.length-i;omega)
   . refine fQ b 11 ?_
     refine tN (?_)
     have G:=yg [1,2,3,4,5] b
     have H:=yv 4 G rfl (congrArg (fL Ge.cells lv 91 3) (show _=((es.take (i+1)).filter fun e=>decide (e.w<=T)) by rw[TC ab,if_neg o_];rw[qA]))
     exact again ((i+1),lv) ⟨rfl,rfl,rfl,rfl,rfl,rfl,gm rO,trivial⟩ (⟨H,o_⟩) (by show (es.length-(i+1):Nat)<es.length-i;omega)
 . have h:=yc [_,_,_,_] _ aa
   refine fK aa 13 ?_
   refine cl O3 (PB F n q es y (ye h 0 rfl) hn) ?_
   rintro _ I ⟨rfl,J⟩
   have j:=(yi h J)
   have ag:i=es.length:=by omega
   have k:=yv 4 j rfl (congrArg (fL Ge.cells lv 91 3) (show _=(es.filter fun e=>decide (e.w<=T)) by rw[ag,qz]))
   refine fK j 1 ?_
   refine cl O2 (PC lv n (es.filter fun e=>decide (e.w<=T)) I (ye k 4 rfl) (fun e he=>hg e (z8.1 he).1) o_ (by have:=u7 (fun e:Ge=>decide (e.w<=T)) es;omega)) ?_
   rintro _ Z ⟨ad,ah,rfl,ht⟩
   have l:=ym 4 k ht
   refine fQ l 4 ?_
   refine gq (v:=(Zb ad)) Tryz.results9 rfl ?_
   have K:=yc [_,_,_,_] _ l
   exact⟨ad,ah,rfl,yj (yc [_,_] _ K)⟩
end
section
open Go Go.Sx
theorem ahd(c:WC)(F wb:Nat)(s:WW)(k:Vk)(ae:Vk.of s k)(b:Int)(w:World)(hO:Own (xz F wb (IntKind.u64.wrap (s.added+s.jw)) k k.K.length b c s) w)(u T:Int)(hu:s.u.t.cnt u=0) :
 CR ya 12 #[(Zb F),(Zn u),(Za T)] w (fun r w' => ∃ (x:Int×Nat),r = .tuple #[.agg #[.int .u64 x.1,.int .i64 (x.2:Int)],.int .i64 0]/\x=(fJ k.K (k.gH T (gN k.K u)),k.pS T (gN k.K u))/\fZ (xz F wb (IntKind.u64.wrap (s.added+s.jw)) k k.K.length b c s) w w' (xz F wb (IntKind.u64.wrap (s.added+s.jw)) k k.K.length b c s)):=by
 refine en Tryz.func12 Tryz.ntmps12 ?_
 have af:=(yp hO).unpack
 refine fS af 2 ?_
 refine ij af (fun d P Q R y=>?_)
 refine ij y (fun e S U V z=>?_)
 refine iH z (fun W A X Y g=>?_)
 refine fK g 7 ?_
 refine cl vU (yP F wb _ A (ye g 3 rfl)) ?_
 rintro _ B ⟨rfl,ht⟩
 have j:=ym 3 g ht
 have C:=yg [3,5,0,1,2,4] j
 have l:=yc [_,_] _ C
 refine fK j 11 ?_
 refine cl Ce (Gf c F wb s _ B (ye l 0 rfl) u hu) ?_
 rintro _ Z ⟨rfl,D⟩
 have m:=(yi l D)
 refine fK m 8 ?_
 refine iH m (fun f E aa ab n=>?_)
 refine fK n 5 ?_
 refine mD (vf:=[]) (vc:=(vF d e f)) rfl rfl rfl ?_
 have G:=yg [5,4,0,1,2,3,6] n
 have H:=yc [_,_,_] _ G
 have I:=yg [1,4,2,0,3] H
 have p:=yc [_,_,_,_] _ I
 refine cl Cd (Lo c F wb s E (gj [blk d 40 (Zq u),blk e 2 (Ze T),blk f 42 vE]) (fun x:Int×Nat=>gj [blk d 40 (Zq u),blk e 2 (Ze T),blk f 42 (sJ x.1 x.2)]) (fun k x=>x=(fJ k.K (k.gH T (gN k.K u)),k.pS T (gN k.K u))) 42 (vF d e f) O4 (fun k w1 ae hO=>NK d e f u T k w1 hO (ae.mem hu)) k ae b (ye p 0 rfl)) ?_
 rintro _ ac ⟨a,rfl,J,L⟩
 have M:=(yi p L)
 have N:=yg [3,0,1,2,4] M
 have q:=yy N
 refine fK q 5 ?_
 refine jM 6 q (fun ad h=>?_)
 refine fQ h 4 ?_
 refine nO (v:=(.agg #[(Zn a.1),(Za a.2)])) (v' := Zc) Tryz.results12 (nE (cs:=(sJ a.1 a.2)) rfl Bn rfl wN rfl (lM h (i:=6) (o:=0) (vs:=(sJ a.1 a.2)) rfl rfl)) (oC rfl) ?_
 have O:=yg [3,4,5] h
 exact⟨a,rfl,J,yj (yc [_,_,_] _ O)⟩
theorem ahc(c:WC)(F I:Nat)(s:WW)(w:World)(J:Own (uq F I c s) w)(N:c.fO<=12)(T:Int) :
 CR ya 11 (Zm F T) w (fun r w' => ∃ (k:Vk) (v:Value),v=r/\Vk.of s k/\fZ (uq F I c s) w w' (gj [blk F 89 (BD I (IntKind.u64.wrap (s.added+s.jw)) k k.K.length),Vk.R k,(WW.R c I s),fL Vg.cells v 42 2 (k.cls T (k.je T).length)])):=by
 refine en Tryz.func11 Tryz.ntmps11 ?_
 have L:=(yp J).unpack
 refine fS L 2 ?_
 refine ij L (fun a m B C d=>?_)
 refine fK d 7 ?_
 refine cl vU (yP F I _ m (ye d 1 rfl)) ?_
 rintro _ D ⟨rfl,M⟩
 have g:=ym 1 d M
 refine fK g 8 ?_
 refine iH g (fun b n E G h=>?_)
 refine fK h 5 ?_
 refine mD (vf:=[]) (vc:=(Z5 a b)) rfl rfl rfl ?_
 have o:=yg [1,0,2,3] h
 have p:=yc [_,_] _ o
 have q:=yg [1,2,0] p
 have i:=yc [_,_,_] _ q
 refine cl Cd (TR c F I s n (gj [blk a 2 (Ze T),blk b 38 nq]) (fun x:Value×List Vg=>gj [blk a 2 (Ze T),blk b 38 [x.1],fL Vg.cells x.1 42 2 x.2]) (fun k x=>x.2=k.cls T (k.je T).length) 39 (Z5 a b) XP (fun k w1 O J=>V3 a b T k w1 J) (ye i 0 rfl) N) ?_
 rintro _ H ⟨t,e,rfl,j,u⟩
 have y:=(yi i u)
 have z:=yg [3,0,1,2] y
 have f:=yy z
 refine fK f 5 ?_
 refine sL (v:=e.1) rfl rfl (fQ f 3 ?_)
 refine gq (v:=e.1) Tryz.results11 rfl ?_
 have A:=yg [3,4,5,2] f
 have l:=A
 rw[j.2]at l
 exact⟨t,e.1,rfl,j.1,yj (yc [_,_,_,_] _ l)⟩
end
section
open Go Go.Sx
theorem Vk.cfg{k:Vk}{w:World}(a:Own (Vk.R k) w):gV k.es k.K.length k.c.f:=(y0 (jP (yp a)).unpack (i:=6) rfl)
theorem acG{K:List Int}(hs:K.Pairwise fun a b=>a<b){i:Nat}(hi:i<K.length):gN K (fJ K i)=i:=by
 have h:=wC hs (zd (gy hi))
 exact HL hs h.1 hi h.2
theorem Vk.T8{k:Vk}{T:Int}:(k.C T).length=(k.je T).length:=by
 show (k.cls T (k.je T).length).length=_
 unfold Vk.cls
 rw[zo,qz]
theorem Vk.T7{k:Vk}{T:Int}{j:Nat}(h:j<(k.je T).length):fJ (k.C T) j=⟨fJ k.K (fJ (k.je T) j).l,(fJ (k.je T) j).s⟩:=by
 show fJ (k.cls T (k.je T).length) j=_
 unfold Vk.cls
 rw[qz]
 refine iE ?_
 rw[kR,gy h]
 rfl
theorem aeB:ya.stoodInHeld 42=false:=by kernel_rfl
theorem YZ:ya.eqGuardType ya.depth 42=false:=by kernel_rfl
theorem Yq(a b c d:Int)(w:World):(Op.equal 42 (.agg #[.int .u64 a,.int .i64 c]) (.agg #[.int .u64 b,.int .i64 d])).run ya w = .ok ((a==b)&&(c==d)) w :=
 Sm Bn aeB d_ d_ (rV yk _ 0 _ rfl) (rV yk _ 0 _ rfl) (rV yf _ 1 _ rfl) (rV yf _ 1 _ rfl) (CZ 9998 yk a b) (CZ 9998 yf c d)
theorem Yr{a b c d:Int}(h1:a=b)(e:c=d)(w:World):(Op.equal 42 (.agg #[.int .u64 a,.int .i64 c]) (.agg #[.int .u64 b,.int .i64 d])).run ya w = .ok true w:=by
 subst h1 e
 rw[Yq,beq_self_eq_true,beq_self_eq_true]
 rfl
theorem NO(lv:Value)(xs:List Mw)(T:Int){o:Obj}(w:World)(hl:iw 5 Mw.cells (fun _=>True) w lv xs)(bw:∀ x∈xs,x.mv.ok)(hT:(jN o).holds w) :
 CR ya 3 #[lv,(Za T)] w (fun r w' => r = .bool true/\gx [] w w'):=by
 refine en Tryz.func3 Tryz.ntmps3 ?_
 have bh:=yt w
 refine fS bh 8 ?_
 refine cl XX (abw lv xs w hl bw) ?_
 rintro _ Z ⟨g,p,h,rfl,ht⟩
 have M:=yy (jJ bh ht)
 have aa:=yg [1,0] M
 have N:=yc [_,_] _ aa
 refine fK M 22 ?_
 refine cl X6 (ZA cG p g h Z (ye N 0 rfl) d_) ?_
 rintro _ ab ⟨B,ac,aD,b,ad,t,rfl,H,ht⟩
 have ae:=yy (ym 0 N ht)
 have u:=yy ae
 have a0:=H.1
 have a5:=H.2.1
 have a6:=H.2.2
 have a4:=sR (ye u 1 rfl)
 have bB:ad.length<=40:=a5.len a4.2.1
 have bA:b.length<=10:=a0.len a4.2.1 a4.2.2
 have bz:=a6.len
 refine fK u 10 ?_
 refine iL (m:=b.length) 2 rfl rfl yz u rfl ?_
 have a2:=mO.PG a4.2.1 a5 a6
 have be:=a0.k7
 refine fK u 1 ?_
 refine cl Pc (PI ac b.length t ab (Sl.any (y8 u 3 rfl)) a2 o_ o_) ?_
 rintro _ af ⟨ag,ah,rfl,ht⟩
 have I:=(jJ u ht)
 refine fK I 21 ?_
 refine cl Yj (ZC ag b.length ah t af (ye I 0 rfl) o_ a2 o_ T) ?_
 rintro _ ai ⟨bi,bx,rfl,ht⟩
 have O:=yy (ym 0 I ht)
 refine cl Wq (Y4 bi b.length bx (t.filter fun e=>decide (e.w<=T)) ai (ye O 1 rfl) o_ (fun e he=>a2 e (z8.1 he).1) (by have:=u7 (fun e:Ge=>decide (e.w<=T)) t;omega)) ?_
 rintro _ aj ⟨z,rfl,ht⟩
 have ak:=yg [1,0,2,3,4,5] O
 have al:=yy (ym 0 ak ht)
 obtain⟨lab,bc⟩:∃ l,pL (t.filter fun e=>decide (e.w<=T)) b.length=l:=⟨_,rfl⟩
 have P:=yv 1 al rfl (congrArg (fL fR z 3 1) (bc))
 have aY:mN b.length lab:=bc▸(EV (fun e he=>have h9:=a2 e (z8.1 he).1;⟨h9.1,h9.2.1⟩)).ok
 have bD:=aY.len
 have am:=yg [3,4,0,1,2,5,6] P
 have Q:=yc [_,_] _ am
 refine fK P 7 ?_
 refine cl Wv (ahc cG p g h aj (ye Q 0 rfl) d_ T) ?_
 rintro _ aE ⟨d,D,rfl,an,ao⟩
 have J:=(yi Q ao)
 have ba:=an
 have bf:=Vk.cfg (ye J 1 rfl)
 have aX:d.K=b:=fW.oI.uniq ba.ids a0
 have bk:d.es=t:=by obtain⟨L9,h1,h2⟩:=ba.Ry;obtain rfl:=fW.mo.uniq h1 a5;rw[aX]at h2;exact mO.uniq be h2 a6
 have bb:gU d.es d.K.length d.c.f T=lab:=by rw[bf.Qi,bk,aX];exact bc
 have a9:d.je T=kL b.length lab:=by show kL _ (gU _ _ _ _)=_;rw[bb,aX]
 have bj:(d.C T).length=(kL b.length lab).length:=by rw[Vk.T8,a9]
 have ap:=yg [0,1,2,7,5,3] J
 refine gF J 16 ?_
 refine lp (α:=Nat) (fun i=>[(1,(Za T)),(5,(Zb g)),(6,(Zb p)),(8,B),(12,z),(13,D),(14,(Za (pU lab i:Int))),(15,(Za ((rts lab i).length:Int))),(16,(Za i))]) (fun i w1=>St [(w,[])] [blk p 89 (BD g (IntKind.u64.wrap (h.added+h.jw)) d d.K.length),(Vk.R d),(WW.R cG g h),fL gW B 40 1 b,fL fR z 3 1 lab,fL Vg.cells D 42 2 (d.C T)] w1/\i<=b.length) (fun i=>b.length-i) 0 ⟨rfl,rfl,rfl,rfl,rfl,rfl,gm rO,gm rO,gm rO,trivial⟩ (⟨ap,o_⟩) ?_
 rintro i aF S ⟨F,hi⟩
 have bH:=adH (lab:=lab) (i:=i)
 have bL:=aY.SV hi
 refine fS F 5 ?_
 refine iL (m:=b.length) 3 rfl rfl yz F rfl ?_
 by_cases aG:((i:Int):Int)<((b.length:Int):Int)
 . have U:=yc [_,_,_] _ F
   refine fK F 16 ?_
   refine cl Iy (ahd cG p g h d ba 1 S (ye U 0 rfl) (fJ b i) T (TW.vO ((a0.mem _).1 (zd (gy (show i<b.length by omega)))))) ?_
   rintro _ aH ⟨n,rfl,L,aq⟩
   have V:=(yi U aq)
   have a1:i<b.length:=by omega
   have bo:gN d.K (fJ b i)=i:=by rw[aX];exact acG be a1
   rw[bo]at L
   have bE:=aY.low i a1
   have bn:d.gH T i=fJ lab i:=by rw[<-bb];exact(Ql (by rw[aX];exact a1)).symm
   have bt:d.pS T i=lab.count (fJ lab i):=by have h9:=bf.pS (T:=T) (y:=i) (by rw[aX];exact a1);rw[bb]at h9;exact h9
   have bv:n.1=fJ b (fJ lab i):=by rw[L];show fJ d.K (d.gH T i)=_;rw[bn,aX]
   have bd:n.2=lab.count (fJ lab i):=by rw[L];exact bt
   refine fK V 3 ?_
   refine iH V (fun W aI aJ aK ar=>?_)
   refine tL ar 16 fun aL au=>?_
   have av:=yg [1,2,3,4,5,6,0] au
   refine lp (α:=Nat) (fun j=>[(1,(Za T)),(5,(Zb g)),(6,(Zb p)),(8,B),(12,z),(13,D),(14,(Za (pU lab i:Int))),(15,(Za ((rts lab i).length:Int))),(16,(Za i)),(17,(Zb W)),(18,Zc),(19,(Za ((lab.take j).count (fJ lab i):Int))),(20,(Za j))]) (fun j w1=>St [(w,[])] [blk p 89 (BD g (IntKind.u64.wrap (h.added+h.jw)) d d.K.length),(Vk.R d),(WW.R cG g h),fL gW B 40 1 b,fL fR z 3 1 lab,fL Vg.cells D 42 2 (d.C T),blk W 42 (sJ n.1 n.2)] w1/\j<=b.length) (fun j=>b.length-j) 0 ⟨rfl,rfl,rfl,rfl,rfl,rfl,rfl,rfl,rfl,rfl,rfl,gm rO,gm rO,trivial⟩ (⟨av,o_⟩) ?_
   rintro j aM aN ⟨a3,hj⟩
   have bl:=LO (l:=lab.take j) (a:=fJ lab i)
   rw[zx]at bl
   refine fS a3 5 ?_
   refine iL (m:=b.length) 3 rfl rfl yz a3 rfl ?_
   by_cases aO:((j:Int):Int)<((b.length:Int):Int)
   . refine gJ a3 18 fun aP E=>?_
     by_cases aQ:((((fJ lab j):Nat):Int):Int)=((((fJ lab i):Nat):Int):Int)
     . refine fQ E 16 ?_
       refine tN (?_)
       have a8:=N1 (l:=lab) (j:=j) (x:=fJ lab i) o_
       rw[if_pos o_]at a8
       exact again (j+1) ⟨rfl,rfl,rfl,rfl,rfl,rfl,rfl,rfl,rfl,rfl,rfl,gm o_,gm rO,trivial⟩ (⟨E,o_⟩) (by show (b.length-(j+1):Nat)<b.length-j;omega)
     . refine fQ E 12 ?_
       refine tN (?_)
       have a8:=N1 (l:=lab) (j:=j) (x:=fJ lab i) o_
       rw[if_neg o_]at a8
       exact again (j+1) ⟨rfl,rfl,rfl,rfl,rfl,rfl,rfl,rfl,rfl,rfl,rfl,gm o_,gm rO,trivial⟩ (⟨E,o_⟩) (by show (b.length-(j+1):Nat)<b.length-j;omega)
   . have bC:j=b.length:=by omega
     have bu:(lab.take j).count (fJ lab i)=lab.count (fJ lab i):=by rw[u6 o_]
     refine gJ a3 30 fun aR A=>?_
     refine cmp rfl rfl rfl (qd (by rw[bd,bu])) (fK A 13 ?_)
     by_cases aS:((((fJ lab i):Nat):Int):Int)=((i:Int):Int)
     . have aZ:fJ lab i=i:=by omega
       obtain⟨br,bs⟩:=aY.root a1 aZ
       have a7:=Vk.T7 (k:=d) (T:=T) (j:=(rts lab i).length) (by rw[a9];exact br)
       refine gF A 6 ?_
       rw[a9,bs,aX]at a7
       have bO:n.2=lab.count i:=by rw[bd,aZ]
       have bN:=aeK aZ
       have bJ:=adI aZ
       have bM:=aY.SV (i:=i+1) o_
       have bp:(fJ (d.C T) (rts lab i).length).a=n.1:=by rw[a7,bv,aZ]
       have bq:((fJ (d.C T) (rts lab i).length).s:Int)=(n.2:Int):=by rw[a7,bd,aZ]
       refine oD A 3 fun aT G=>?_
       refine iL (m:=(d.C T).length) 5 rfl rfl Dm G rfl (cmp rfl rfl rfl (oh (by rw[bj];omega)) (fK G 6 ?_))
       refine JW (c:=true) (xs:=#[(Zn ((fJ (d.C T) ((rts lab i).length)).a)),(Za ((fJ (d.C T) ((rts lab i).length)).s:Int))]) (ys:=#[(Zn n.1),(Za n.2)]) rfl rfl rfl YZ (fun w=>Yr bp bq w) (fQ G 30 ?_)
       refine tN (?_)
       have aw:=yg [0,1,2,3,4,5] G
       exact again (i+1) ⟨rfl,rfl,rfl,rfl,rfl,rfl,gm rO,gm rO,gm rO,trivial⟩ (⟨aw,o_⟩) (by show (b.length-(i+1):Nat)<b.length-i;omega)
     . refine fQ A 12 ?_
       refine tN (?_)
       have ax:=yg [0,1,2,3,4,5] A
       have bF:=aeL (lab:=lab) (i:=i) o_
       have bG:=adJ (lab:=lab) (i:=i) o_
       exact again (i+1) ⟨rfl,rfl,rfl,rfl,rfl,rfl,gm o_,gm o_,gm rO,trivial⟩ (⟨ax,o_⟩) (by show (b.length-(i+1):Nat)<b.length-i;omega)
 . have bg:i=b.length:=by omega
   have bI:(kL b.length lab).length=(rts lab i).length:=by rw[bg];exact aY.roots
   have bK:pU lab i=b.length:=by rw[bg];exact aY.SU
   refine fK F 13 ?_
   refine iL (m:=(d.C T).length) 5 rfl rfl Dm F rfl (cmp rfl rfl rfl (oM o_) (fK F 3 ?_))
   refine iL (m:=b.length) 3 rfl rfl yz F rfl (cmp rfl rfl rfl (oM o_) (fK F 3 ?_))
   refine cl Om (TQ cG g h S (ye F 2 rfl) d_) ?_
   rintro _ ay ⟨aU,aV,rfl,az,ht⟩
   have aA:=yg [2,0,1,3,4,5] F
   have aB:=yy (ym 0 aA ht)
   have bm:=fW.oI.uniq az a0
   have q:=aB
   rw[bm]at q
   refine iL (m:=b.length) 1 rfl rfl yz q rfl (fK q 1 ?_)
   refine iL (m:=b.length) 4 rfl rfl yz q rfl (cmp rfl rfl rfl (oM o_) (fK q 2 ?_))
   refine cl WM (ahC ay (St.xM q (X:=[]) s_ hT s_)) ?_
   rintro _ aW ⟨rfl,aC⟩
   have Y:=yq q aC
   refine fQ Y 5 ?_
   refine gq (v:=Zf) Tryz.results3 rfl ?_
   exact⟨rfl,Y.gz s_⟩
end
end Go.Proofs.YtoceanggliccgaaGreatDoor
