/- What the functions that the statements reach do: walks through the code of the program and of the references, one theorem a function; under what is said of its arguments. -/
import Derived.Test.YtoceanggliccgaaGreatDoorFb
import Derived.Test.YtoceanggliccgaaGreatDoorVa
import Derived.Test.YtoceanggliccgaaGreatDoorFc
import Derived.Test.YtoceanggliccgaaGreatDoorVg
import Derived.Test.YtoceanggliccgaaGreatDoorVe
set_option linter.unusedVariables false
set_option linter.unusedSimpArgs false
set_option maxRecDepth 100000
set_option maxHeartbeats 4000000
namespace Go.Proofs.YtoceanggliccgaaGreatDoor
section
open Go Go.Sx
structure kE where
 a:Int
 b:Int
instance:Inhabited kE:=⟨⟨0,0⟩⟩
def kE.cells(x:kE):List Value:=[.int .u64 x.a,.int .u64 x.b]
abbrev Vk.mg(k:Vk):List Mg:=nE k.es k.K.length k.f k.f.length
def Vk.mI(k:Vk)(j:Nat):List kE:=(k.mg.take j).map fun m=>⟨fJ k.K m.a,fJ k.K m.b⟩
def Vk.mH(k:Vk)(j:Nat):List Int:=(k.mg.take j).map Mg.h
abbrev Mx(a:Nat) b (c:Nat) d e f:=(gj [blk a 116 [b],blk c 48 [d],fL kE.cells b 119 2 e,fL fS d 2 1 f]:fT)
abbrev MZ a (b:Nat) c (d:Nat) e f g:=(gj [Vk.R a,gj [blk b 116 [c],blk d 48 [e],fL kE.cells c 119 2 f,fL fS e 2 1 g]]:fT)
abbrev MD(a b:Nat)(c:Int)(d:Vk)(e f:Int) g h i j k l:=(gj [blk a 89 [.pointer (some ⟨b,0,none⟩),.bool true,.int .u64 c,d.iv,.int .i64 e,d.lv,d.rv,d.pv,d.hv,d.sv,.pointer (some ⟨d.cb,0,none⟩),.pointer (some ⟨d.mb,0,none⟩),.int .i64 f],Vk.R d,WW.R g b h,fL kE.cells i 119 2 j,fL fS k 2 1 l]:fT)
abbrev BQ(a:Nat) b (c:Nat) d e f g h (i:Nat) j (k:Nat) l m n o p (q r:Nat) s (t:mJ) u v x:=([blk a 116 [b],blk c 48 [d],fL kE.cells b 119 2 e,fL fS d 2 1 f,fL Mg.cells g 178 5 h,blk i 87 (B2 j k l m n o p q r),fL gV j 40 1 s,fL fS l 3 1 t.l,fL fS m 3 1 t.r,fL fS n 3 1 t.p,fL fS o 2 1 t.h,fL fV p 3 1 t.s,Cv.R q k u v,Mf.R r k u x]:List fT)
abbrev Mo a (b:Nat) (c d e f:Int) (g:Nat) h (i:Nat) j k l m n o (p:Nat) q (r:Nat) s t u v x (y z:Nat) aa (ab:mJ) ac ad ae:=([a,blk b 178 (B0 c d e f),blk g 116 [h],blk i 48 [j],fL kE.cells k 119 2 l,fL fS j 2 1 m,fL Mg.cells n 178 5 o,blk p 87 (B2 q r s t u v x y z),fL gV q 40 1 aa,fL fS s 3 1 ab.l,fL fS t 3 1 ab.r,fL fS u 3 1 ab.p,fL fS v 2 1 ab.h,fL fV x 3 1 ab.s,Cv.R y r ac ad,Mf.R z r ac ae]:List fT)
abbrev MM(a:Nat) b (c:Nat) (d e f g:Int) (h:Nat) i (j:Nat) k l m n o p (q:Nat) r (s:Nat) t u v x y (z A:Nat) ab (w:mJ) ad ae af:=([ic .i64 (Z3 a) 2 b,blk c 178 (B0 d e f g),blk h 116 [i],blk j 48 [k],fL kE.cells i 119 2 l,fL fS m 2 1 n,fL Mg.cells o 178 5 p,blk q 87 (B2 r s t u v x y z A),fL gV r 40 1 ab,fL fS t 3 1 w.l,fL fS u 3 1 w.r,fL fS v 3 1 w.p,fL fS x 2 1 w.h,fL fV y 3 1 w.s,Cv.R z s ad ae,Mf.R A s ad af]:List fT)
theorem Vk.abd{k:Vk}(h:iA k.es k.K.length k.f){i:Nat}(hi:i<k.f.length):(fJ k.mg i).a<k.K.length/\(fJ k.mg i).b<k.K.length:=by
 rw[jf (show k.mg[i]? = some (Jz k.es k.K.length k.f i) by show ((List.range k.f.length).map _)[i]? = _;simp[hi])]
 have:=h.st hi
 show nA _ _ _ _<_/\nB _ _ _ _<_
 omega
theorem Vk.aaZ{k:Vk}{j:Nat}(h:j<k.mg.length):k.mI (j+1)=k.mI j++[⟨fJ k.K (fJ k.mg j).a,fJ k.K (fJ k.mg j).b⟩]:=Bj _ h
theorem Vk.aaX{k:Vk}{j:Nat}(h:j<k.mg.length):k.mH (j+1)=k.mH j++[(fJ k.mg j).h]:=Bj _ h
theorem Vk.aaY{k:Vk}{j:Nat}:(k.mI j).length<=j:=by simp[Vk.mI];omega
theorem Vk.aaW{k:Vk}{j:Nat}:(k.mH j).length<=j:=by simp[Vk.mH];omega
theorem aa6(b2 b3:Nat)(k:Vk)(w:World)(hO:Own (GN k b2 b3) w) :
 CR ya 86 (GS k k.K.length b2 b3) w (fun r w' => r = .tuple #[]/\∃ x:Value×Value×List kE×List Int,(x.2.2.1=k.mI k.mg.length/\x.2.2.2=k.mH k.mg.length)/\fZ (GN k b2 b3) w w' (MZ k b2 x.1 b3 x.2.1 x.2.2.1 x.2.2.2)):=by
 refine enter (vs:=[(Hu k k.K.length),(Zb b2),(Zb b3)]) Tryz.func86 rfl Tryz.ntmps86 rfl ?_
 have aI:St _ [Vk.R k,(GP b2 b3)] w:=Own.of hO
 have T:=pP aI
 have aR:=T.n
 have aL:St _ [fL gV k.iv 40 1 k.K,fL fS k.lv 3 1 ((fU k.es k.K.length k.f).l),fL fS k.rv 3 1 ((fU k.es k.K.length k.f).r),fL fS k.pv 3 1 ((fU k.es k.K.length k.f).p),fL fS k.hv 2 1 ((fU k.es k.K.length k.f).h),fL fV k.sv 3 1 ((fU k.es k.K.length k.f).s),(pZ k k.K.length),(Z6 k k.K.length),(GP b2 b3)] w:=(jO aI).unpack
 have S:=yg [8,0,1,2,3,4,5,6,7] aL
 have M:St _ [blk b2 116 ng,blk b3 48 ng,fL gV k.iv 40 1 k.K,fL fS k.lv 3 1 ((fU k.es k.K.length k.f).l),fL fS k.rv 3 1 ((fU k.es k.K.length k.f).r),fL fS k.pv 3 1 ((fU k.es k.K.length k.f).p),fL fS k.hv 2 1 ((fU k.es k.K.length k.f).h),fL fV k.sv 3 1 ((fU k.es k.K.length k.f).s),(pZ k k.K.length),(Z6 k k.K.length)] w:=yz S
 have aK:k.mg.length=k.f.length:=QE
 have aO:=T.fg.f.room T.fg.g
 refine fR M 2 ?_
 refine gW M (fun e U am an t=>?_)
 refine fK t 6 ?_
 refine jK (vl:=(DZ k.K.length k.lv k.rv k.pv k.hv k.sv)) rfl rfl X3 (VR k.es k.K.length k.f T.fg o_ k.lv k.rv k.pv k.hv k.sv U ⟨(uV t (i:=4) rfl f_).any,(uV t (i:=5) rfl f_).any,(uV t (i:=6) rfl f_).any,(uV t (i:=7) rfl f_).any,(uV t (i:=8) rfl f_).any⟩) ?_
 rintro _ D ⟨d,rfl,ht⟩
 have A:St _ [fL Mg.cells d 178 5 k.mg,blk e 87 (o6 k k.K.length),blk b2 116 ng,blk b3 48 ng,fL gV k.iv 40 1 k.K,fL fS k.lv 3 1 ((fU k.es k.K.length k.f).l),fL fS k.rv 3 1 ((fU k.es k.K.length k.f).r),fL fS k.pv 3 1 ((fU k.es k.K.length k.f).p),fL fS k.hv 2 1 ((fU k.es k.K.length k.f).h),fL fV k.sv 3 1 ((fU k.es k.K.length k.f).s),(pZ k k.K.length),(Z6 k k.K.length)] D:=(jN (R:=fL Mg.cells d 178 5 k.mg) t ht)
 refine fK A 10 ?_
 refine jb (m:=k.mg.length) 0 rfl rfl Gj A rfl ?_
 have V:St _ [fL kE.cells Zg 119 2 (k.mI 0),fL Mg.cells d 178 5 k.mg,blk e 87 (o6 k k.K.length),blk b2 116 ng,blk b3 48 ng,fL gV k.iv 40 1 k.K,fL fS k.lv 3 1 ((fU k.es k.K.length k.f).l),fL fS k.rv 3 1 ((fU k.es k.K.length k.f).r),fL fS k.pv 3 1 ((fU k.es k.K.length k.f).p),fL fS k.hv 2 1 ((fU k.es k.K.length k.f).h),fL fV k.sv 3 1 ((fU k.es k.K.length k.f).s),(pZ k k.K.length),(Z6 k k.K.length)] D:=pO A 119 2
 have W:St _ [fL fS Zg 2 1 (k.mH 0),fL kE.cells Zg 119 2 (k.mI 0),fL Mg.cells d 178 5 k.mg,blk e 87 (o6 k k.K.length),blk b2 116 ng,blk b3 48 ng,fL gV k.iv 40 1 k.K,fL fS k.lv 3 1 ((fU k.es k.K.length k.f).l),fL fS k.rv 3 1 ((fU k.es k.K.length k.f).r),fL fS k.pv 3 1 ((fU k.es k.K.length k.f).p),fL fS k.hv 2 1 ((fU k.es k.K.length k.f).h),fL fV k.sv 3 1 ((fU k.es k.K.length k.f).s),(pZ k k.K.length),(Z6 k k.K.length)] D:=pO V 2 1
 have X:=yg [4,5,1,0,2,3,6,7,8,9,10,11,12,13] W
 refine gE A 4 ?_
 refine lp (α:=Nat×Value×Value) (fun(i,F,hv)=>[(1,(Zb b2)),(2,(Zb b3)),(3,(Zb e)),(14,d),(15,(Za k.mg.length)),(16,(Za i))]) (fun(i,F,hv) w1=>St [(w,(GN k b2 b3).gG)] (BQ b2 F b3 hv (k.mI i) (k.mH i) d k.mg e k.iv k.K.length k.lv k.rv k.pv k.hv k.sv k.cb k.mb k.K (fU k.es k.K.length k.f) k.es k.c k.q) w1/\i<=k.mg.length) (fun(i,F,hv)=>k.mg.length-i) (0,Zg,Zg) ⟨rfl,rfl,rfl,rfl,rfl,gp (by first|rfl|omega),trivial⟩ (⟨X,o_⟩) ?_
 rintro⟨i,F,hv⟩ ao B ⟨aF,hi⟩
 have aQ:=Vk.aaY (k:=k) (j:=i)
 have aP:=Vk.aaW (k:=k) (j:=i)
 refine fR aF 2 ?_
 by_cases ap:((i:Int):Int)<((k.mg.length:Int):Int)
 . have aJ:i<k.f.length:=by have h7:=aK;omega
   have aG:=Vk.abd T.fg aJ
   have aM:=aG.1
   have aN:=aG.2
   refine fK aF 13 ?_
   refine iM aF (fun y aq ar au Y=>?_)
   refine tE Y 4 fun aw Z=>?_
   refine kV mixed [([0,1,2,3,4,5,6,7,8,9,10,11,12,13,14],[0])] [15,16] Z (fun ax N=>jM ?_)
   refine fK N 13 ?_
   refine i7 (pvs:=[(0,(Zn (fJ k.K ((fJ k.mg i).a)))),(1,(Zn (fJ k.K ((fJ k.mg i).b))))]) (v:=.agg (ve (fJ k.K ((fJ k.mg i).a)) (fJ k.K ((fJ k.mg i).b)))) rfl rfl (uk [(0,(Zq (fJ k.K ((fJ k.mg i).a)))),(1,(Zq (fJ k.K ((fJ k.mg i).b))))] tH y9 jA rfl ⟨rfl,rfl,rfl,rfl,trivial⟩ rfl s_) (jF (vs:=[(Ho (fJ k.K ((fJ k.mg i).a)) (fJ k.K ((fJ k.mg i).b)))]) (cs:=[(Zn (fJ k.K ((fJ k.mg i).a))),(Zn (fJ k.K ((fJ k.mg i).b)))]) rfl rfl Bo tH rfl (by simp[Value.cells]) rfl rfl rfl N ?_)
   intro E aa ay az z
   have z:St _ [row (Z3 E) 119 2 1 ([(Zn (fJ k.K ((fJ k.mg i).a))),(Zn (fJ k.K ((fJ k.mg i).b)))]),blk y 178 (B0 ((fJ k.mg i).a:Int) ((fJ k.mg i).b:Int) ((fJ k.mg i).h) ((fJ k.mg i).s:Int)),blk b2 116 [F],blk b3 48 [hv],fL kE.cells F 119 2 (k.mI i),fL fS hv 2 1 (k.mH i),fL Mg.cells d 178 5 k.mg,blk e 87 (o6 k k.K.length),fL gV k.iv 40 1 k.K,fL fS k.lv 3 1 ((fU k.es k.K.length k.f).l),fL fS k.rv 3 1 ((fU k.es k.K.length k.f).r),fL fS k.pv 3 1 ((fU k.es k.K.length k.f).p),fL fS k.hv 2 1 ((fU k.es k.K.length k.f).h),fL fV k.sv 3 1 ((fU k.es k.K.length k.f).s),(pZ k k.K.length),(Z6 k k.K.length)] aa:=z
   refine fQ z 1 ?_
   refine kL (kW ?_)
   refine lE (cf:=kE.cells) (ys:=(k.mI i)) (zs:=[(⟨(fJ k.K ((fJ k.mg i).a)),(fJ k.K ((fJ k.mg i).b))⟩:kE)]) (LL:=fun o=>(Mo (row (.slice (some ⟨E,0,none⟩) 1 1) 119 2 1 ([(.int .u64 (fJ k.K ((fJ k.mg i).a))),(.int .u64 (fJ k.K ((fJ k.mg i).b)))])) y ((fJ k.mg i).a:Int) ((fJ k.mg i).b:Int) ((fJ k.mg i).h) ((fJ k.mg i).s:Int) b2 F b3 hv o ((k.mI i)++[(⟨(fJ k.K ((fJ k.mg i).a)),(fJ k.K ((fJ k.mg i).b))⟩:kE)]) (k.mH i) d k.mg e k.iv k.K.length k.lv k.rv k.pv k.hv k.sv k.cb k.mb k.K (fU k.es k.K.length k.f) k.es k.c k.q)) 4 rfl rfl rfl Bo tH rfl d_ z rfl (kX z (i:=0) rfl) (fun x hx=>zm.1 (show List.all _ _=true from rfl) x hx) (by simp only[zd,zh,maxLen];omega) (by simp only[zd,zh,maxLen];omega) f_ ?_
   intro o ab G aA
   have G:St _ (Mo (row (.slice (some ⟨E,0,none⟩) 1 1) 119 2 1 ([(.int .u64 (fJ k.K ((fJ k.mg i).a))),(.int .u64 (fJ k.K ((fJ k.mg i).b)))])) y ((fJ k.mg i).a:Int) ((fJ k.mg i).b:Int) ((fJ k.mg i).h) ((fJ k.mg i).s:Int) b2 F b3 hv o ((k.mI i)++[(⟨(fJ k.K ((fJ k.mg i).a)),(fJ k.K ((fJ k.mg i).b))⟩:kE)]) (k.mH i) d k.mg e k.iv k.K.length k.lv k.rv k.pv k.hv k.sv k.cb k.mb k.K (fU k.es k.K.length k.f) k.es k.c k.q) ab:=G
   have H:=yg [1,2,3,4,5,6,7,8,9,10,11,12,13,14,15] G
   refine jV 1 H (fun aB O=>?_) (hvs:=(cells_one (yw H (i:=3) rfl))) (h1:=(ia (yw H (i:=3) rfl) kR))
   refine fK O 7 ?_
   refine jF (vs:=(Ze ((fJ k.mg i).h))) (cs:=(Ze ((fJ k.mg i).h))) rfl rfl yk ti2 rfl (by simp[Value.cells]) rfl rfl rfl O ?_
   intro I ac aC aD C
   have C:St _ [ic .i64 (Z3 I) 2 ([(fJ k.mg i).h]),blk y 178 (B0 ((fJ k.mg i).a:Int) ((fJ k.mg i).b:Int) ((fJ k.mg i).h) ((fJ k.mg i).s:Int)),blk b2 116 [o],blk b3 48 [hv],fL kE.cells o 119 2 ((k.mI i)++[(⟨(fJ k.K ((fJ k.mg i).a)),(fJ k.K ((fJ k.mg i).b))⟩:kE)]),fL fS hv 2 1 (k.mH i),fL Mg.cells d 178 5 k.mg,blk e 87 (o6 k k.K.length),fL gV k.iv 40 1 k.K,fL fS k.lv 3 1 ((fU k.es k.K.length k.f).l),fL fS k.rv 3 1 ((fU k.es k.K.length k.f).r),fL fS k.pv 3 1 ((fU k.es k.K.length k.f).p),fL fS k.hv 2 1 ((fU k.es k.K.length k.f).h),fL fV k.sv 3 1 ((fU k.es k.K.length k.f).s),(pZ k k.K.length),(Z6 k k.K.length)] ac:=C
   refine lE (cf:=fS) (ys:=(k.mH i)) (zs:=[(fJ k.mg i).h]) (LL:=fun u=>(MM I ([(fJ k.mg i).h]) y ((fJ k.mg i).a:Int) ((fJ k.mg i).b:Int) ((fJ k.mg i).h) ((fJ k.mg i).s:Int) b2 o b3 hv ((k.mI i)++[(⟨(fJ k.K ((fJ k.mg i).a)),(fJ k.K ((fJ k.mg i).b))⟩:kE)]) u ((k.mH i)++[(fJ k.mg i).h]) d k.mg e k.iv k.K.length k.lv k.rv k.pv k.hv k.sv k.cb k.mb k.K (fU k.es k.K.length k.f) k.es k.c k.q)) 5 rfl rfl rfl yk ti2 rfl d_ C rfl (kX C (i:=0) rfl) (fun x hx=>zm.1 (show List.all _ _=true from rfl) x hx) (by simp only[zd,zh,maxLen];omega) (by simp only[zd,zh,maxLen];omega) f_ ?_
   intro u ad J aE
   have J:St _ (MM I ([(fJ k.mg i).h]) y ((fJ k.mg i).a:Int) ((fJ k.mg i).b:Int) ((fJ k.mg i).h) ((fJ k.mg i).s:Int) b2 o b3 hv ((k.mI i)++[(⟨(fJ k.K ((fJ k.mg i).a)),(fJ k.K ((fJ k.mg i).b))⟩:kE)]) u ((k.mH i)++[(fJ k.mg i).h]) d k.mg e k.iv k.K.length k.lv k.rv k.pv k.hv k.sv k.cb k.mb k.K (fU k.es k.K.length k.f) k.es k.c k.q) ad:=J
   have L:=yg [1,2,3,4,5,6,7,8,9,10,11,12,13,14,15] J
   refine jV 2 L (fun P Q=>?_) (hvs:=(cells_one (yw L (i:=4) rfl))) (h1:=(ia (yw L (i:=4) rfl) kR))
   refine fQ Q 7 ?_
   refine tN (?_)
   have ae:=yg [1,2,3,4,5,6,7,8,9,10,11,12,13,14] Q
   have af:St _ (BQ b2 o b3 u (k.mI (i+1)) ((k.mH i)++[(fJ k.mg i).h]) d k.mg e k.iv k.K.length k.lv k.rv k.pv k.hv k.sv k.cb k.mb k.K (fU k.es k.K.length k.f) k.es k.c k.q) P:=yv 2 ae rfl (congrArg (fL kE.cells o 119 2) ((Vk.aaZ o_).symm))
   have ag:St _ (BQ b2 o b3 u (k.mI (i+1)) (k.mH (i+1)) d k.mg e k.iv k.K.length k.lv k.rv k.pv k.hv k.sv k.cb k.mb k.K (fU k.es k.K.length k.f) k.es k.c k.q) P:=yv 3 af rfl (congrArg (fL fS u 2 1) ((Vk.aaX o_).symm))
   exact again ((i+1),o,u) ⟨rfl,rfl,rfl,rfl,rfl,gp (by first|rfl|omega),trivial⟩ (⟨ag,o_⟩) (by show (k.mg.length-(i+1):Nat)<k.mg.length-i;omega)
 . refine fQ aF 9 ?_
   refine iO Tryz.results86 ?_
   have aH:i=k.mg.length:=by omega
   have ah:St _ (BQ b2 F b3 hv (k.mI k.mg.length) (k.mH i) d k.mg e k.iv k.K.length k.lv k.rv k.pv k.hv k.sv k.cb k.mb k.K (fU k.es k.K.length k.f) k.es k.c k.q) B:=yv 2 aF rfl (congrArg (fL kE.cells F 119 2) (congrArg k.mI aH))
   have ai:St _ (BQ b2 F b3 hv (k.mI k.mg.length) (k.mH k.mg.length) d k.mg e k.iv k.K.length k.lv k.rv k.pv k.hv k.sv k.cb k.mb k.K (fU k.es k.K.length k.f) k.es k.c k.q) B:=yv 3 ah rfl (congrArg (fL fS hv 2 1) (congrArg k.mH aH))
   have aj:St _ [(Mx b2 F b3 hv (k.mI k.mg.length) (k.mH k.mg.length)),fL Mg.cells d 178 5 k.mg,blk e 87 (o6 k k.K.length),fL gV k.iv 40 1 k.K,fL fS k.lv 3 1 ((fU k.es k.K.length k.f).l),fL fS k.rv 3 1 ((fU k.es k.K.length k.f).r),fL fS k.pv 3 1 ((fU k.es k.K.length k.f).p),fL fS k.hv 2 1 ((fU k.es k.K.length k.f).h),fL fV k.sv 3 1 ((fU k.es k.K.length k.f).s),(pZ k k.K.length),(Z6 k k.K.length)] B:=yc [_,_,_,_] _ ai
   have ak:=yg [3,4,5,6,7,8,9,10,0,1,2] aj
   have al:St _ [(Vk.R k),(Mx b2 F b3 hv (k.mI k.mg.length) (k.mH k.mg.length)),fL Mg.cells d 178 5 k.mg,blk e 87 (o6 k k.K.length)] B:=yr (p:=Vk.ok k) (yc [_,_,_,_,_,_,_,_] _ ak) T
   exact⟨rfl,(F,hv,k.mI k.mg.length,k.mH k.mg.length),⟨rfl,rfl⟩,yp (R' := (MZ k b2 F b3 hv (k.mI k.mg.length) (k.mH k.mg.length))) (yc [_,_] _ al) za⟩
theorem ag3(c:WC)(F Q:Nat)(s:WW)(k:Vk)(T:Vk.of s k)(b:Int)(w:World)(R:Own (zY F Q (IntKind.u64.wrap (s.added+s.jr)) k k.K.length b c s) w) :
 CR ya 48 (Zi F) w (fun r w' => ∃ (S hv:Value),r = .tuple #[S,hv]/\fZ (zY F Q (IntKind.u64.wrap (s.added+s.jr)) k k.K.length b c s) w w' (MD F Q (IntKind.u64.wrap (s.added+s.jr)) k k.K.length b c s S (k.mI k.mg.length) hv (k.mH k.mg.length))):=by
 refine en Tryz.func48 Tryz.ntmps48 ?_
 have U:=(yt R).unpack
 refine fR U 2 ?_
 refine iM U (fun a G H I p=>?_)
 refine iM p (fun d q J L j=>?_)
 refine fK j 6 ?_
 refine cl vG (wB F Q _ q (yf j 2 rfl)) ?_
 rintro _ t ⟨rfl,V⟩
 have l:=yn 2 j V
 refine fK l 9 ?_
 refine lW (vf:=[]) (vc:=(Z5 a d)) rfl rfl rfl ?_
 have u:=yg [1,0,2,3,4] l
 have y:=yc [_,_] _ u
 have z:=yg [1,2,3,0] y
 have m:=yc [_,_,_,_] _ z
 refine cl Ci (Li c F Q s t (GP a d) (fun x:Value×Value×List kE×List Int=>gj [blk a 116 [x.1],blk d 48 [x.2.1],fL kE.cells x.1 119 2 x.2.2.1,fL fS x.2.1 2 1 x.2.2.2]) (fun k x=>x.2.2.1=k.mI k.mg.length/\x.2.2.2=k.mH k.mg.length) 86 (Z5 a d) X0 (fun k w1 T R=>aa6 a d k w1 R) k T b (yf m 0 rfl)) ?_
 rintro _ M ⟨e,rfl,A,B⟩
 have C:=(yi m B)
 have D:=yg [3,0,1,2] C
 have n:=yz D
 refine gE n 3 ?_
 refine kV mixed [([0,1,2],[1])] [3] n (fun N f=>jM ?_)
 refine fK f 2 ?_
 refine jV 0 f (fun O g=>?_) (hvs:=(cells_one (yw f (i:=2) rfl))) (h1:=(ia (yw f (i:=2) rfl) kR))
 refine fQ g 1 ?_
 refine kL (kW ?_)
 refine jV 1 g (fun P h=>?_) (hvs:=(cells_one (yw g (i:=3) rfl))) (h1:=(ia (yw g (i:=3) rfl) kR))
 refine fQ h 3 ?_
 refine oh (v:=e.1) (v' := e.2.1) Tryz.results48 (Bb rfl Bo rfl (kP h 0 rfl rfl)) (Bb rfl yk rfl (kP h 1 rfl rfl)) ?_
 have E:=yg [4,5,6,2,3] h
 obtain⟨W,X⟩:=A
 have o:=E
 rw[W,X]at o
 exact⟨e.1,e.2.1,rfl,yj (yc [_,_,_,_,_] _ o)⟩
end
section
open Go Go.Sx
theorem Lg(c:WC)(a:Nat)(s:WW)(w:World)(h:Own (WW.R c a s) w)(x:Lv)(j:x.ok)(k:s.now<=x.t)(l:x.t<=1000000)(i:s.added<1000000)(d:s.u.gJ c.fO c.fM x.u x.v=0) :
 CR ya 29 (wX a x) w (fun r w' => ∃ (s2:WW),r = .int .i64 0/\WW.Ins c s s2 x/\fZ (WW.R c a s) w w' (WW.R c a s2)) :=
 CR.mono (Tx c a s w h x j k l i) fun r w' ⟨e,s2,f,b,g⟩=>⟨s2,by rw[f,b.room d],b.ins (b.room d),g⟩
theorem Jq{u v w t:Int}(h:0<=u/\u<=100/\0<=v/\v<=100/\0<=w/\w<=100/\0<=t/\t<=100):Lv.ok ⟨0,0,u,v,w,t,0⟩ :=
 ⟨ku (by show _/\_;dsimp only;omega),oJ (by show _/\_;dsimp only;omega),oJ (by show _/\_;dsimp only;omega),oJ (by show _/\_;dsimp only;omega),ku (by show _/\_;dsimp only;omega),ku (by show _/\_;dsimp only;omega),ku (by show _/\_;dsimp only;omega)⟩
def GK(s:WW):Prop:=∀ K L es,s.u.qx K->s.u.mW L->pW K L es L.length->K=[1,2,3]/\L.length=3/\es=lU
structure Vk.wk (s:WW) (k:Vk):Prop where
 of:Vk.of s k
 K:k.K=[1,2,3]
 es:k.es=lU
theorem Vk.of.wk{s:WW}{k:Vk}(h:Vk.of s k)(d:GK s):Vk.wk s k:=by
 obtain⟨L,b,c⟩:=h.pic
 obtain⟨e1,e,a⟩:=d _ _ _ h.ids b c
 exact⟨h,e1,a⟩
instance:DecidableEq kE:=fun a b=>by
 cases a with|mk a1 a2=>cases b with|mk b1 b2=>exact decidable_of_iff (a1=b1/\a2=b2) s_
abbrev wI:List kE:=[⟨1,2⟩,⟨1,3⟩]
abbrev wH:List Int:=[5,7]
theorem Vk.wk.Vd{s:WW}{k:Vk}(h:Vk.wk s k)(a:iA k.es k.K.length k.c.f):fJ k.K (k.gH 7 (gN k.K 3))=1/\k.tF 7 (gN k.K 3)=3:=by
 obtain⟨_,e,g⟩:=h
 unfold Vk.gH Vk.tF Vk.top
 revert a
 rw[e,g]
 intro a
 obtain⟨b,d⟩:=TM a
 obtain⟨b,d⟩:=TM (f:=k.c.f) a
 rw[show gN [1,2,3] 3=2 by decide]
 refine⟨?_,d⟩
 show fJ [1,2,3] (Go.Sx.gH lU 3 k.c.f (jm (fU lU 3 k.c.f).p (fU lU 3 k.c.f).h 7 2))=1
 rw[b]
 rfl
theorem Vk.wk.mmx{s:WW}{k:Vk}(h:Vk.wk s k)(e:iA k.es k.K.length k.q.f){x:Int×Bool}(c:k.mm (gN k.K 1) (gN k.K 3) x):x=(7,true):=by
 obtain⟨_,m,n⟩:=h
 unfold Vk.mm at c
 revert e c
 rw[m,n]
 intro e c
 obtain⟨z,g,j,o⟩:=c.2 d_
 rw[show gN [1,2,3] 1=0 by decide,show gN [1,2,3] 3=2 by decide]at g
 obtain⟨d,l⟩:=ahy e g
 have i:=(j d).trans l
 obtain⟨a,b⟩:=x
 simp only at d i
 rw[d,i]
theorem Vk.wk.mg{s:WW}{k:Vk}(h:Vk.wk s k)(a:iA k.es k.K.length k.f):k.mI k.mg.length=wI/\k.mH k.mg.length=wH:=by
 obtain⟨_,c,d⟩:=h
 unfold Vk.mI Vk.mH Vk.mg
 revert a
 rw[c,d]
 intro a
 obtain⟨b,e⟩:=ahx a
 rw[b]
 exact⟨d_,d_⟩
theorem Vk.parts{k:Vk}{w:World}(h:Own (Vk.R k) w):k.ok/\iA k.es k.K.length k.c.f/\iA k.es k.K.length k.q.f:=by
 have a:=Own.of h.un
 exact⟨h.fact,(y8 a (i:=6) rfl),(y8 a (i:=7) rfl)⟩
theorem aha(c:WC)(a b:Nat)(s:WW)(w:World)(m:Own (DI a b c s) w)(o:c.fO<=12)(l:GK s)(n:s.u.t.cnt 3=0):CR ya 12 #[(Zb a),.int .u64 3,.int .i64 7] w (fun r w' => ∃ (k:Vk),r = .tuple #[.agg #[.int .u64 1,.int .i64 3],.int .i64 0]/\Vk.wk s k/\fZ (DI a b c s) w w' (MC a b (IntKind.u64.wrap (s.added+s.jr)) k k.K.length c s)) :=
 CR.mono (agZ c a b s w m o 3 7 n) fun r w' ⟨k,x,h,⟨j,d⟩,e⟩=>by
  have f:=j.wk l
  obtain⟨e1,g⟩:=f.Vd (Vk.parts (lq (Own.of e.own) (i:=1) rfl)).2.1
  rw[e1,g]at d
  subst d
  exact⟨k,h,f,e⟩
theorem ahm{o:Obj}(c:WC)(a d:Nat)(s:WW)(k:Vk)(l:Vk.of s k)(b:Int)(w:World)(f:Own (ua a d (IntKind.u64.wrap (s.added+s.jr)) k k.K.length b c s (jL o)) w)(hk:Vk.wk s k)(m:s.u.t.cnt 1=0)(n:s.u.t.cnt 3=0):CR ya 47 #[(Zb a),.int .u64 1,.int .u64 3] w (fun r w' => r = .tuple #[.int .i64 7,.bool true,.int .i64 0]/\fZ (ua a d (IntKind.u64.wrap (s.added+s.jr)) k k.K.length b c s (jL o)) w w' (ua a d (IntKind.u64.wrap (s.added+s.jr)) k k.K.length b c s (jL o))) :=
 CR.mono (ag4 c a d s k l b w f 1 3 m n) fun r w' ⟨x,g,h,j⟩=>by
  have e:=hk.mmx (Vk.parts (lq (Own.of f) (i:=1) rfl)).2.2 h
  subst e
  exact⟨g,j⟩
theorem ahl(c:WC)(a f:Nat)(s:WW)(k:Vk)(l:Vk.of s k)(b:Int)(w:World)(h:Own (zY a f (IntKind.u64.wrap (s.added+s.jr)) k k.K.length b c s) w)(hk:Vk.wk s k):CR ya 48 (Zi a) w (fun r w' => ∃ (d hv:Value),r = .tuple #[d,hv]/\fZ (zY a f (IntKind.u64.wrap (s.added+s.jr)) k k.K.length b c s) w w' (MD a f (IntKind.u64.wrap (s.added+s.jr)) k k.K.length b c s d wI hv wH)) :=
 CR.mono (ag3 c a f s k l b w h) fun r w' ⟨d,hv,j,g⟩=>by
  have e:=hk.mg (Vk.parts (lq (Own.of h) (i:=1) rfl)).1.fg
  rw[e.1,e.2]at g
  exact⟨d,hv,j,g⟩
theorem agV(d e:Nat)(k:Vk)(b g:Int)(w:World)(h:Own (GR d e g k k.K.length b) w) :
 CR ya 24 (Zi d) w (fun r w' => r = .int .i64 b/\fZ (GR d e g k k.K.length b) w w' (GR d e g k k.K.length b)):=by
 refine en Tryz.func24 Tryz.ntmps24 ?_
 have f:=yt h
 refine fR f 9 ?_
 refine cl vG (wB d e _ w (yf f 0 rfl)) ?_
 rintro _ c ⟨rfl,i⟩
 have a:=yn 0 f i
 refine fQ a 16 ?_
 refine gq (v:=(Za b)) Tryz.results24 rfl ?_
 exact⟨rfl,yj a⟩
end
section
open Go Go.Sx
theorem VU(es:List Ge)(n:Nat)(f:List Nat)(x:iA es n f)(y:n<=4096)(j m k i o:Value)(w:World)(u:Own (BT j (fU es n f) m k i o) w) :
 CR ya 203 (BM n j m k i o) w (fun r w' => ∃ t,r = .func (.func 256) #[] (Zi t)/\fZ (BT j (fU es n f) m k i o) w w' (gj [fL fS j 3 1 ((fU es n f).l),fL fS m 3 1 ((fU es n f).r),fL fS k 3 1 ((fU es n f).p),fL fS i 2 1 ((fU es n f).h),fL fV o 3 1 ((fU es n f).s),blk t 83 (Zr n j m k i o)])):=by
 refine en Tryz.func203 Tryz.ntmps203 ?_
 have q:=Own.of u
 refine fR q 2 ?_
 refine gW q (fun a d e g b=>?_)
 refine fK b 5 ?_
 refine lW (vf:=[]) (vc:=(Zh a)) rfl rfl rfl (fQ b 4 ?_)
 refine gq (v:=(.func (.func 256) #[] (Zi a))) Tryz.results203 rfl ?_
 have c:=yg [1,2,3,4,5,0] b
 exact⟨a,rfl,yj (yc [_,_,_,_,_,_] _ c)⟩
theorem VT(es:List Ge)(n:Nat)(f:List Nat)(y z s u A:Value)(o:Nat->fT)(l q:Nat)(w:World)(E:∀ (x:Nat) (bs:List (World×List Nat)) (L:List fT) (w1:World),x<n+f.length->St bs (o (x+1) :: L) w1->YR ya l (Zo x (fJ (fU es n f).p x)) w1 (fun v w' => v = .bool true/\St bs (o x :: L) w'))(C:Own (DN (o (n+f.length)) q n y z s u A ((fU es n f).p)) w)(N:n+f.length<=1000000) :
 CR ya 256 (DT (.func (.yield l) #[] #[]) q) w (fun r w' => r = .tuple #[]/\fZ (DN (o (n+f.length)) q n y z s u A ((fU es n f).p)) w w' (DN (o 0) q n y z s u A ((fU es n f).p))):=by
 refine en Tryz.func256 Tryz.ntmps256 ?_
 have B:=Own.of C
 obtain⟨H,I,J,K,M⟩:=lJ (es:=es) (n:=n) (f:=f)
 refine fR B 4 ?_
 refine jb (m:=((fU es n f).p).length) 2 rfl rfl yd B rfl (ar (e:=((n+f.length:Nat):Int)-1) rfl rfl rfl rfl iT (gE B 4 ?_))
 refine lp (α:=Nat) (fun j=>[(0,(.func (.yield l) #[] #[])),(1,(Zb q)),(3,(Za ((j:Int)-1)))]) (fun j w1=>St [(w,(DN (o (n+f.length)) q n y z s u A ((fU es n f).p)).gG)] [o j,blk q 83 (Zr n y z s u A),fL fS s 3 1 ((fU es n f).p)] w1/\j<=n+f.length) (fun j=>j) (n+f.length) ⟨rfl,rfl,gp rO,trivial⟩ (⟨B,o_⟩) ?_
 rintro j c d ⟨t,F⟩
 have G:(j:Int)-1<(fU es n f).p.length:=by omega
 refine fR t 4 ?_
 by_cases g:(((j:Int)-1):Int)≥(0:Int)
 . obtain⟨x,D⟩:∃ x,j=x+1:=⟨j-1,o_⟩
   refine fK t 1 ?_
   subst D
   rw[show ((x+1:Nat):Int)-1=(x:Int) by omega]
   have a:=t
   refine fK a 14 ?_
   refine iD (cf:=fS) (k:=x) (i:=((x:Int))) rfl rfl rfl yd gr (y0 a 2 rfl) o_ o_ (gB om) (fK a 1 ?_)
   refine yl (vl:=(Zo x (fJ ((fU es n f).p) x))) rfl rfl rfl (E x _ _ _ o_ a) ?_
   rintro _ h ⟨rfl,b⟩
   refine fK b 9 ?_
   refine ar (e:=((x:Nat):Int)-1) rfl rfl rfl rfl (ot o_) (fQ b 2 ?_)
   refine tN (?_)
   exact again x ⟨rfl,rfl,gp rO,trivial⟩ (⟨b,o_⟩) o_
 . refine fQ t 8 ?_
   refine iO Tryz.results256 ?_
   obtain rfl:j=0:=by omega
   exact⟨rfl,yj (yc [_,_,_] _ t)⟩
theorem adi(es:List Ge)(n:Nat)(f:List Nat)(hF:iA es n f)(hn:n<=4096)(F tr tp th ts:Value)(T:Int)(w:World)(hO:Own (BT F (fU es n f) tr tp th ts) w) :
 CR ya 136 (zP n F tr tp th ts T) w (fun r w' => ∃ (v:Value),r = .tuple #[v,.int .i64 0]/\fZ (BT F (fU es n f) tr tp th ts) w w' (gj [fL fS F 3 1 ((fU es n f).l),fL fS tr 3 1 ((fU es n f).r),fL fS tp 3 1 ((fU es n f).p),fL fS th 2 1 ((fU es n f).h),fL fV ts 3 1 ((fU es n f).s),fL fV v 3 1 (gY es n f T)])):=by
 refine Ar (vs:=[(zK n F tr tp th ts),(Za T)]) Tryz.func136 rfl Tryz.ntmps136 rfl ?_
 have aM:=Own.of hO
 obtain⟨aT,aU,aV,aW,aX⟩:=lJ (es:=es) (n:=n) (f:=f)
 have aS:=hF.f.room hF.g
 refine fR aM 2 ?_
 refine gW aM (fun b ak al am J=>?_)
 refine gW J (fun c K an ao e=>?_)
 refine fK e 7 ?_
 refine cl Ip (Jl es n f hF hn F tr tp th ts K ⟨(y0 e 2 rfl).any,(y0 e 3 rfl).any,(y0 e 4 rfl).any,(y0 e 5 rfl).any,(y0 e 6 rfl).any⟩) ?_
 rintro _ M ⟨m,rfl,ht⟩
 have q:=(jN e ht)
 refine fK q 20 ?_
 refine cl Cj (Ca m ((wV n f).map (gH es n f)) M (y0 q 0 rfl).any (by first|omega|(simp;omega))) ?_
 rintro a N hz
 have O:St _ [fL fV a 3 1 ((wV n f).map (gH es n f)),fL fV m 3 1 ((wV n f).map (gH es n f)),blk c 2 (Ze T),blk b 83 (Zr n F tr tp th ts),fL fS F 3 1 ((fU es n f).l),fL fS tr 3 1 ((fU es n f).r),fL fS tp 3 1 ((fU es n f).p),fL fS th 2 1 ((fU es n f).h),fL fV ts 3 1 ((fU es n f).s)] N:=qV q hz.2 hz.1
 refine iM O (fun j ap aq ar t=>?_)
 refine jV 0 t (fun P B=>?_) (hvs:=(cells_one (yw t (i:=1) rfl))) (h1:=(ia (yw t (i:=1) rfl) kR))
 have Q:=yg [5,6,7,8,9,0,1,2,3,4] B
 have C:=yc [_,_,_,_,_] _ Q
 refine fK B 6 ?_
 refine cl WT (VU es n f hF hn F tr tp th ts P (yf C 0 rfl)) ?_
 rintro _ au ⟨o,rfl,R⟩
 have D:=(yi C R)
 have S:=yv 7 D rfl (congrArg (fL fV a 3 1) (show _=(kB es n f T (n+f.length)) from aap.symm))
 have U:=yg [10,9,6,7,3,0,1,2,4,5,8] S
 refine gE D 3 ?_
 refine rf (α:=Nat) (ps:=[22,23]) (fi:=[]) (ca:=(Zh o)) (fun z=>[blk b 83 (Zr n F tr tp th ts),blk c 2 (Ze T),blk j 35 [a],fL fV a 3 1 (kB es n f T z),fL fS th 2 1 ((fU es n f).h),fL fS F 3 1 ((fU es n f).l),fL fS tr 3 1 ((fU es n f).r),fL fS tp 3 1 ((fU es n f).p),fL fV ts 3 1 ((fU es n f).s),blk o 83 (Zr n F tr tp th ts),fL fV m 3 1 ((wV n f).map (gH es n f))]) (fun z=>z=0) U rfl Xf ?_ ?_
 . intro fn dd l wl rc aI aQ
   have V:=yg [0,2,3,4,5,6,1,7,8,9,10,11,12] aQ
   have aO:=yc (DX (iQ l rc) b n F tr tp th ts c T j a (kB es n f T (n+f.length)) ((fU es n f).h)) [jW dd (some []),fL fS F 3 1 ((fU es n f).l),fL fS tr 3 1 ((fU es n f).r),fL fS tp 3 1 ((fU es n f).p),fL fV ts 3 1 ((fU es n f).s),blk o 83 (Zr n F tr tp th ts),fL fV m 3 1 ((wV n f).map (gH es n f))] V
   have aF:rc.state = .ready:=by rw[aI]
   have aH:rc.pending=none:=by rw[aI]
   have aP:∀ (x:Nat) (bs:List (World×List Nat)) (L:List fT) (w1:World),x<n+f.length->St bs ((fun(z:Nat)=>gj (DX (iQ l rc) b n F tr tp th ts c T j a (kB es n f T z) ((fU es n f).h))) (x+1) :: L) w1->YR ya l (Zo x (fJ (fU es n f).p x)) w1 (fun v w' => v = .bool true/\St bs ((fun(z:Nat)=>gj (DX (iQ l rc) b n F tr tp th ts c T j a (kB es n f T z) ((fU es n f).h))) x :: L) w'):=by
    intro x bs LT wr aG aE
    have aE:=aE.unpack
    have aY:=hF.qP.up x o_
    have aN:=xD (es:=es) (n:=n) (f:=f) (T:=T) (x:=x+1)
    refine xX (vl:=(Zo x (fJ (fU es n f).p x))) 0 aI aE rfl rfl rfl (iH aE 8 ?_)
    refine tN (?_)
    refine Af 0 aE rfl aF rfl (fun av W=>nI W 4 fun aw d=>?_)
    by_cases ax:((fJ (fU es n f).p x):Int)≥(0:Int)
    . refine fK d 5 ?_
      refine iD (cf:=fS) (k:=(fJ (fU es n f).p x).toNat) (i:=(fJ (fU es n f).p x)) rfl rfl rfl yk ti2 (y0 d 5 rfl) o_ o_ (gB om) (fK d 2 ?_)
      by_cases ay:((fJ ((fU es n f).h) ((fJ (fU es n f).p x).toNat)):Int)<=(T:Int)
      . refine gI d 10 fun az u=>?_
        refine iD (cf:=fV) (k:=(fJ (fU es n f).p x).toNat) (i:=(fJ (fU es n f).p x)) rfl rfl rfl yd gr (y0 u 4 rfl) o_ o_ (gB om) (fK u 2 ?_)
        refine iK (f:=(fun _=>(fJ (kB es n f T (x+1)) ((fJ (fU es n f).p x).toNat)))) 4 u (fun aA E=>?_)
        refine fQ E 2 ?_
        refine vD 0 E rfl aF aH rfl ?_
        intro aB X
        have Y:=yv 4 X rfl (congrArg (fL fV a 3 1) ((aar hF aG o_ o_).2))
        exact⟨_,rfl,rfl,yc [_,_,_,_,_,_] _ Y⟩
      . refine fQ d 7 ?_
        refine vD 0 d rfl aF aH rfl ?_
        intro aC Z
        have aa:=yv 4 Z rfl (congrArg (fL fV a 3 1) (Qi hF aG o_))
        exact⟨_,rfl,rfl,yc [_,_,_,_,_,_] _ aa⟩
    . refine fQ d 15 ?_
      refine vD 0 d rfl aF aH rfl ?_
      intro aD ab
      have ac:=yv 4 ab rfl (congrArg (fL fV a 3 1) (Qi hF aG o_))
      exact⟨_,rfl,rfl,yc [_,_,_,_,_,_] _ ac⟩
   have ad:=lu aO (List.Perm.cons _ (List.Perm.cons _ (List.Perm.cons _ (List.Perm.cons _ (List.Perm.cons _ (List.Perm.swap _ _ _))))))
   have ae:=yg [0,5,4,1,2,3,6,7] ad
   have aL:=yc [_,_,_] _ ae
   refine CR.mono (VT es n f F tr tp th ts (fun(z:Nat)=>gj (DX (iQ l rc) b n F tr tp th ts c T j a (kB es n f T z) ((fU es n f).h))) l o wl aP (yf aL 0 rfl) o_) ?_
   rintro _ w9 ⟨-,aR⟩
   have aK:=(yi aL aR)
   have aJ:=yz aK
   have aK:=aJ
   have af:=yg [0,8,1,2,3,4,5,9,10,7,11,6,12] aK
   exact⟨_,rfl,af⟩
 . rintro z dd G hC ag
   have y:=yv 4 ag rfl (congrArg (fL fV a 3 1) (show _=(kB es n f T 0) by rw[hC]))
   have aN:=xD (es:=es) (n:=n) (f:=f) (T:=T) (x:=0)
   refine CP tt none y 7 ?_
   refine Ss (l:=0) (h:=n) rfl rfl yd gr (y0 (cf:=fV) y 4 rfl) rfl ⟨_,gp o_⟩ o_ o_ ?_
   have H:St _ [jW dd (some []),blk b 83 (Zr n F tr tp th ts),blk c 2 (Ze T),blk j 35 [a],fL fV (mM 1 a 0 n) 3 1 ((kB es n f T 0).take n),fL fS th 2 1 ((fU es n f).h),fL fS F 3 1 ((fU es n f).l),fL fS tr 3 1 ((fU es n f).r),fL fS tp 3 1 ((fU es n f).p),fL fV ts 3 1 ((fU es n f).s),blk o 83 (Zr n F tr tp th ts),fL fV m 3 1 ((wV n f).map (gH es n f))] G:=St.Sa y (i:=4) rfl f_ o_
   refine cl Cj (Ca (mM 1 a 0 n) ((kB es n f T 0).take n) G (y0 H 4 rfl).any (by first|omega|(simp;omega))) ?_
   rintro A ah hz
   have I:St _ [fL fV A 3 1 ((kB es n f T 0).take n),jW dd (some []),blk b 83 (Zr n F tr tp th ts),blk c 2 (Ze T),blk j 35 [a],fL fV (mM 1 a 0 n) 3 1 ((kB es n f T 0).take n),fL fS th 2 1 ((fU es n f).h),fL fS F 3 1 ((fU es n f).l),fL fS tr 3 1 ((fU es n f).r),fL fS tp 3 1 ((fU es n f).p),fL fV ts 3 1 ((fU es n f).s),blk o 83 (Zr n F tr tp th ts),fL fV m 3 1 ((wV n f).map (gH es n f))] ah:=qV H hz.2 hz.1
   refine fQ I 5 ?_
   refine xE 1 I rfl rfl ?_
   intro w8 aJ
   have ai:=yv 0 aJ rfl (congrArg (fL fV A 3 1) (aaq (zj _)))
   have aj:=yg [7,8,9,6,10,0] ai
   exact⟨_,results_tmp2 Tryz.results136 _ _ _,_,rfl,by rw[p6,p6];exact⟨A,rfl,yj (yc [_,_,_,_,_,_] _ aj)⟩⟩
end
section
open Go Go.Sx
theorem aaf(b:Nat)(w:World) :
 CR ya 78 #[(.map (some b))] w (fun r w' => ∃ h,r = .func (.func 138) #[] (Zi h)/\fZ (gj []) w w' (blk h 153 [(.map (some b))])):=by
 refine en Tryz.func78 Tryz.ntmps78 ?_
 have g:=yu w
 refine fR g 2 ?_
 refine gW g (fun a d e f c=>?_)
 refine fK c 5 ?_
 refine lW (vf:=[]) (vc:=(Zh a)) rfl rfl rfl (fQ c 4 ?_)
 refine gq (v:=(Hv a)) Tryz.results78 rfl ?_
 exact⟨a,rfl,nO c⟩
theorem aae{γ:Type}(F:γ->fT)(G:γ->List Int)(z0:γ)(b I:Nat)(mm:List (Int×Nat))(l:Nat)(w:World)(T:∀ (z:γ) (x:Int) (bs:List (World×List Nat)) (L:List fT) (w1:World),(G z).length<mm.length->x∈mm.map Prod.fst->St bs (F z :: L) w1->YR ya l (Ze x) w1 (fun v w' => v = .bool true/\∃ O,G O=G z++[x]/\St bs (F O :: L) w'))(U:G z0=[])(P:Own (gj [F z0,blk I 153 [(.map (some b))],gM b .i64 (fun x:Nat=>Value.int .i64 (x:Int)) mm]) w) :
 CR ya 138 (DT (.func (.yield l) #[] #[]) I) w (fun r w' => ∃ z:γ,r = .tuple #[]/\(G z).Perm (mm.map Prod.fst)/\fZ (gj [F z0,blk I 153 [(.map (some b))],gM b .i64 (fun x:Nat=>Value.int .i64 (x:Int)) mm]) w w' (gj [F z,blk I 153 [(.map (some b))],gM b .i64 (fun x:Nat=>Value.int .i64 (x:Int)) mm])):=by
 refine en Tryz.func138 Tryz.ntmps138 ?_
 have N:=Own.of P
 refine fR N 3 ?_
 refine RY (k:=.i64) (enc:=(fun x:Nat=>Value.int .i64 (x:Int))) (mm:=mm) 2 rfl rfl Bp N rfl (fun e t f=>gE f 3 ?_)
 refine lp (α:=γ×List (Int×Nat)×List (Int×Nat)×(Option (Int×Nat))) (fun(z,E,H,cur)=>[(0,(.func (.yield l) #[] #[])),(5,(Zb e))]) (fun(z,E,H,cur) w1=>St [(w,(gj [F z0,blk I 153 [(.map (some b))],gM b .i64 (fun x:Nat=>Value.int .i64 (x:Int)) mm]).gG)] [(F z),blk I 153 [(.map (some b))],lG b e .i64 (fun x:Nat=>Value.int .i64 (x:Int)) mm H cur] w1/\(E++H).Perm mm/\G z=E.map Prod.fst) (fun(z,E,H,cur)=>H.length) (z0,[],mm,none) ⟨rfl,rfl,trivial⟩ (⟨f,List.Perm.refl _,U⟩) ?_
 rintro⟨z,E,H,cur⟩ u y ⟨K,J,M⟩
 obtain⟨m,A⟩:∃ q,QB ya K (i:=2) rfl=q:=⟨_,rfl⟩
 refine fR K 2 ?_
 rcases m with ⟨g,n⟩|⟨a,h,B,c⟩
 . skip
   refine Fl rfl rfl (n _) ?_
   have C:=g
   refine fQ K 9 ?_
   refine iO Tryz.results138 ?_
   have o:=St.QA K (i:=2) rfl
   exact⟨z,rfl,by rw[g,sJ]at J;rw[M];exact J.map _,yj (yc [_,_,_] _ o)⟩
 . skip
   refine Fl rfl rfl (c.run _) ?_
   have d:=c.st
   refine fK d 10 ?_
   refine N5 (p:=a) 2 rfl rfl d rfl ?_
   have R:=c.perm.length_eq
   have Q:=J.length_eq
   refine fK d 8 ?_
   rw[zd]at R
   rw[zq]at Q
   have W:(G z).length=E.length:=by rw[M,zn]
   have S:a.1∈mm.map Prod.fst:=z7.2 ⟨a,J.mem_iff.1 (zo.2 (.inr (c.perm.mem_iff.2 za))),rfl⟩
   refine yl (vl:=(Ze a.1)) rfl rfl rfl (T z _ _ _ _ o_ S d) ?_
   rintro _ D ⟨rfl,s,V,j⟩
   refine fQ j 6 ?_
   refine tN (?_)
   exact again (s,(E++[a]),h,(some a)) ⟨rfl,rfl,trivial⟩ (⟨j,by rw[ox];exact(List.Perm.append_left E c.perm.symm).trans J,by rw[V,M,sK];rfl⟩) (by show h.length<H.length;omega)
theorem Uu(b N:Nat)(mm:List (Int×Nat))(w:World)(X:Own (gj [blk N 153 [(.map (some b))],gM b .i64 (fun x:Nat=>Value.int .i64 (x:Int)) mm]) w)(ag:mm.length<=1000000) :
 CR ya 204 #[Zg,(Hv N)] w (fun r w' => ∃ (v:Value) (F:List Int),v=r/\F.Perm (mm.map Prod.fst)/\fZ (gj [blk N 153 [(.map (some b))],gM b .i64 (fun x:Nat=>Value.int .i64 (x:Int)) mm]) w w' (gj [blk N 153 [(.map (some b))],gM b .i64 (fun x:Nat=>Value.int .i64 (x:Int)) mm,fL fS v 3 1 F])):=by
 refine Ar (vs:=[Zg,(Hv N)]) Tryz.func204 rfl Tryz.ntmps204 rfl ?_
 have U:=Own.of X
 refine fR U 2 ?_
 refine gW U (fun a k A B e=>?_)
 have m:St _ [fL fS Zg 3 1 ([]:List Int),blk a 35 ng,blk N 153 [(.map (some b))],gM b .i64 (fun x:Nat=>Value.int .i64 (x:Int)) mm] k:=pO e 3 1
 have n:=yg [1,0,2,3] m
 have o:=n
 refine gE e 10 ?_
 refine rf (α:=Value×List Int) (ps:=[7]) (fi:=[]) (ca:=(Zh N)) (fun(v,F)=>[blk a 35 [v],fL fS v 3 1 F,blk N 153 [(.map (some b))],gM b .i64 (fun x:Nat=>Value.int .i64 (x:Int)) mm]) (fun(v,F)=>F.Perm (mm.map Prod.fst)) o rfl Wk ?_ ?_
 . intro fn dd l wl rc P ae
   have p:=yg [0,2,3,4,5,1] ae
   have Z:=yc [iQ l rc,blk a 35 ng,fL fS Zg 3 1 ([])] [blk N 153 [(.map (some b))],gM b .i64 (fun x:Nat=>Value.int .i64 (x:Int)) mm,jW dd (some [])] p
   have T:rc.state = .ready:=by rw[P]
   have ab:rc.pending=none:=by rw[P]
   have ac:∀ (z:Value×List Int) (x:Int) (bs:List (World×List Nat)) (L:List fT) (w1:World),((Prod.snd:Value×List Int->List Int) z).length<mm.length->x∈mm.map Prod.fst->St bs ((fun((v,F):Value×List Int)=>gj [iQ l rc,blk a 35 [v],fL fS v 3 1 F]) z :: L) w1->YR ya l (Ze x) w1 (fun v w' => v = .bool true/\∃ V,(Prod.snd:Value×List Int->List Int) V=(Prod.snd:Value×List Int->List Int) z++[x]/\St bs ((fun((v,F):Value×List Int)=>gj [iQ l rc,blk a 35 [v],fL fS v 3 1 F]) V :: L) w'):=by
    intro z x bs R wr Y ah O
    have O:=O.unpack
    have ai:z.2.length<mm.length:=Y
    refine xX (vl:=(Ze x)) 0 P O rfl rfl rfl (iH O 3 ?_)
    refine tN (?_)
    refine Af 0 O rfl T rfl (fun C f=>fR f 4 ?_)
    refine jF (vs:=(Ze x)) (cs:=(Ze x)) rfl rfl yd gr rfl (by simp[Value.cells]) rfl rfl rfl f (fun q D E G g=>lE (cf:=fS) (ys:=z.2) (zs:=[x]) (LL:=fun c=>(ic .i64 (Z3 q) 3 ([x]) :: iQ l { rc with state:=.busy } :: blk a 35 [z.1] :: fL fS c 3 1 (z.2++[x]) :: R)) 3 rfl rfl rfl yd gr rfl d_ g rfl (kX g (i:=0) rfl) (fun x hx=>zm.1 (show List.all _ _=true from rfl) x hx) (by simp only[zd,zh,maxLen];omega) (by simp only[zd,zh,maxLen];omega) f_ ?_)
    intro c H s I
    have d:=St.sub (L' := (iQ l { rc with state:=.busy } :: blk a 35 [z.1] :: fL fS c 3 1 (z.2++[x]) :: R)) s (List.Sublist.cons _ (List.Sublist.refl _))
    refine jV 1 d (fun J h=>?_) (hvs:=(cells_one (yw d (i:=2) rfl))) (h1:=(ia (yw d (i:=2) rfl) kR))
    refine fQ h 2 ?_
    refine vD 0 h rfl T ab rfl ?_
    intro K t
    exact⟨_,rfl,rfl,(c,z.2++[x]),rfl,yc [_,_,_] _ t⟩
   have S:=yc [_,_,_] _ Z
   refine CR.mono (aae (fun((v,F):Value×List Int)=>gj [iQ l rc,blk a 35 [v],fL fS v 3 1 F]) Prod.snd (.slice none 0 0,[]) b N mm l wl ac rfl (yf S 0 rfl)) ?_
   rintro _ w9 ⟨z,-,aa,af⟩
   have Q:=yz (yi S af)
   have ad:=Q
   have u:=yg [0,5,1,2,3,4] ad
   exact⟨(z.1,z.2),aa,u⟩
 . rintro⟨v,F⟩ dd M W j
   refine qO tt none j 9 ?_
   refine xE 0 j rfl rfl ?_
   intro w8 Q
   have y:=yg [3,4,2,0,1] Q
   exact⟨_,results_tmp Tryz.results204 _ _ _,_,rfl,by rw[p6];exact⟨v,F,rfl,W,yj (yc [_,_,_] _ y)⟩⟩
theorem Vz(b i:Nat)(mm:List (Int×Nat))(w:World)(l:Own (gj [blk i 153 [(.map (some b))],gM b .i64 (fun x:Nat=>Value.int .i64 (x:Int)) mm]) w)(m:mm.length<=1000000) :
 CR ya 137 (Mh i) w (fun r w' => ∃ (v:Value) (k:List Int),v=r/\k.Perm (mm.map Prod.fst)/\fZ (gj [blk i 153 [(.map (some b))],gM b .i64 (fun x:Nat=>Value.int .i64 (x:Int)) mm]) w w' (gj [blk i 153 [(.map (some b))],gM b .i64 (fun x:Nat=>Value.int .i64 (x:Int)) mm,fL fS v 3 1 k])):=by
 refine en Tryz.func137 Tryz.ntmps137 ?_
 have j:=Own.of l
 have a:=yc [_,_] _ j
 refine fR j 8 ?_
 refine cl WU (Uu b i mm w (yf a 0 rfl) m) ?_
 rintro _ h ⟨c,e,rfl,f,g⟩
 have d:=(yi a g)
 refine fQ d 4 ?_
 refine gq (v:=c) Tryz.results137 rfl ?_
 exact⟨c,e,rfl,f,yj (yc [_,_,_] _ d)⟩
theorem aaH(x y:Int)(w:World) :
 CR ya 163 (Zx x y) w (fun r w' => r = .bool (decide (x<y))/\gw [] w w'):=by
 refine en Tryz.func163 Tryz.ntmps163 ?_
 have e:=yu w
 refine fR e 8 ?_
 refine cl Iq (JF x w) ?_
 rintro _ c ⟨rfl,b⟩
 have a:=yo e b
 refine fK a 8 ?_
 by_cases d:(x:Int)<(y:Int)
 . refine fQ a 6 ?_
   refine gq (v:=Zf) Tryz.results163 rfl ?_
   exact⟨congrArg Value.bool (decide_eq_true o_).symm,a.gy s_⟩
 . refine fQ a 6 ?_
   refine gq (v:=Zp) Tryz.results163 rfl ?_
   exact⟨congrArg Value.bool (decide_eq_false o_).symm,a.gy s_⟩
theorem ZR(v:Value)(xs:List Int)(w:World)(J:Own (ri v xs) w)(M:xs.length<=1000000) :
 CR ya 157 #[v,Zc,(Za xs.length)] w (fun r w' => ∃ ys:List Int,r = .tuple #[]/\(ys.Perm xs/\mL ys ys.length)/\fZ (ri v xs) w w' (ri v ys)):=by
 refine en Tryz.func157 Tryz.ntmps157 ?_
 have H:=yt J
 refine qg H 8 ?_
 refine lp (α:=Nat×List Int) (fun(i,ys)=>[(0,v),(1,Zc),(2,(Za xs.length)),(6,(Za i))]) (fun(i,ys) w1=>St [(w,(ri v xs).gG)] [fL fS v 3 1 ys] w1/\ys.Perm xs/\mL ys i/\1<=i) (fun(i,ys)=>xs.length+1-i) (1,xs) ⟨rfl,rfl,rfl,gp rO,trivial⟩ (⟨H,List.Perm.refl _,mL.zero,o_⟩) ?_
 rintro⟨i,ys⟩ m n ⟨B,E,F,hi⟩
 have N:=E.length_eq
 refine fR B 5 ?_
 by_cases o:((i:Int):Int)<((xs.length:Int):Int)
 . refine gE B 15 ?_
   refine lp (α:=Nat×List Int) (fun(j,zs)=>[(0,v),(1,Zc),(2,(Za xs.length)),(6,(Za i)),(7,(Za j))]) (fun(j,zs) w1=>St [(w,(ri v xs).gG)] [fL fS v 3 1 zs] w1/\zs.Perm xs/\sP zs i j/\j<=i) (fun(j,zs)=>j) (i,ys) ⟨rfl,rfl,rfl,rfl,gp rO,trivial⟩ (⟨B,E,F.at,o_⟩) ?_
   rintro⟨j,zs⟩ s t ⟨K,D,C,G⟩
   have O:=D.length_eq
   refine nI K 5 fun h a=>?_
   by_cases u:((j:Int):Int)>(0:Int)
   . refine fK a 9 ?_
     refine iD (cf:=fS) (k:=(j-1)) (i:=(j:Int)-1) rfl rfl rfl yd gr (y0 a 0 rfl) o_ o_ (gB om) (fK a 1 ?_)
     refine cl Wy (aaH (fJ zs j) (fJ zs (j-1)) h) ?_
     rintro _ x ⟨rfl,l⟩
     have b:=yo a l
     refine gE b 3 ?_
     cases d:(decide ((fJ zs j)<(fJ zs (j-1))):Bool)
     . skip
       refine iH b 12 ?_
       refine tN (?_)
       exact again ((i+1),zs) ⟨rfl,rfl,rfl,gp rO,trivial⟩ (⟨b,D,C.done o_ G (of_decide_eq_false d),o_⟩) (by show (xs.length+1-(i+1):Nat)<xs.length+1-i;omega)
     . skip
       refine nI b 14 fun y c=>?_
       refine iD (cf:=fS) (k:=(j-1)) (i:=(j:Int)-1) rfl rfl rfl yd gr (y0 c 0 rfl) o_ o_ (gB om) (fK c 6 ?_)
       refine iK (f:=(fun _=>(fJ zs (j-1)))) 0 c (fun z e=>?_)
       refine iD (cf:=fS) (k:=(j-1)) (i:=(j:Int)-1) rfl rfl rfl yd gr (y0 e 0 rfl) o_ o_ (gB om) (iK (f:=(fun _=>(fJ zs j))) 0 e (fun A g=>?_))
       refine fQ g 8 ?_
       refine tN (?_)
       exact again ((j-1),fN (fN zs j (fun _=>(fJ zs (j-1)))) (j-1) (fun _=>(fJ zs j))) ⟨rfl,rfl,rfl,rfl,gp rO,trivial⟩ (⟨g,(SF o_ o_).trans D,C.swap o_ G o_ (of_decide_eq_true d),o_⟩) (by show ((j-1):Nat)<j;omega)
   . refine fQ a 27 ?_
     refine tN (?_)
     exact again ((i+1),zs) ⟨rfl,rfl,rfl,gp rO,trivial⟩ (⟨a,D,(by rw[show j=0 by omega]at C;exact C.N0),o_⟩) (by show (xs.length+1-(i+1):Nat)<xs.length+1-i;omega)
 . refine fQ B 8 ?_
   refine iO Tryz.results157 ?_
   exact⟨ys,rfl,⟨E,fun p q I L=>F p q I o_⟩,yj B⟩
theorem ab3(v:Value)(xs:List Int)(w:World)(i:Own (ri v xs) w)(z:Int)(l:xs.length<=12) :
 CR ya 99 (Ml v xs.length z) w (fun r w' => ∃ ys:List Int,r = .tuple #[]/\(ys.Perm xs/\mL ys ys.length)/\fZ (ri v xs) w w' (ri v ys)):=by
 refine en Tryz.func99 Tryz.ntmps99 ?_
 have h:=yt i
 refine qg h 11 ?_
 refine lp (α:=Nat) (fun k=>[(0,v),(1,Zc),(2,(Za xs.length)),(3,(Za z)),(8,Zf),(9,Zf)]) (fun k w1=>St [(w,(ri v xs).gG)] [fL fS v 3 1 xs] w1) (fun k=>0) 0 ⟨rfl,rfl,rfl,rfl,rfl,rfl,trivial⟩ h ?_
 rintro k e b g
 refine fR g 13 ?_
 refine cmp rfl rfl rfl (um o_) (fK g 8 ?_)
 refine cl Ww (ZR v xs b (yf g 0 rfl) o_) ?_
 rintro _ f ⟨c,rfl,d,j⟩
 have a:=yn 0 g j
 refine fQ a 7 ?_
 refine xW Tryz.results99 ?_
 exact⟨c,rfl,d,yj a⟩
theorem ad8(v:Value)(xs:List Int)(w:World)(j:Own (ri v xs) w)(k:xs.length<=12) :
 CR ya 57 #[v] w (fun r w' => ∃ ys:List Int,r = .tuple #[]/\(ys.Perm xs/\mL ys ys.length)/\fZ (ri v xs) w w' (ri v ys)):=by
 refine en Tryz.func57 Tryz.ntmps57 ?_
 have i:=yt j
 refine fR i 3 ?_
 refine jb (m:=xs.length) 0 rfl rfl yd i rfl (fK i 8 ?_)
 refine cl H9 (HC xs.length w o_) ?_
 rintro _ c ⟨d,rfl,e⟩
 have a:=yo i e
 refine cl X6 (ab3 v xs c (yf a 0 rfl) d k) ?_
 rintro _ h ⟨f,rfl,g,l⟩
 have b:=yn 0 a l
 refine fQ b 1 ?_
 refine iO Tryz.results57 ?_
 exact⟨f,rfl,g,yj b⟩
theorem ael(b m:Nat)(mm:List (Int×Nat))(w:World)(q:Own (gj [blk m 153 [(.map (some b))],gM b .i64 (fun x:Nat=>Value.int .i64 (x:Int)) mm]) w)(s:mm.length<=1000000)(u:mm.length<=12) :
 CR ya 77 (Mh m) w (fun r w' => ∃ (v:Value) (ys:List Int),v=r/\(∃ o,o.Perm (mm.map Prod.fst)/\ys.Perm o/\mL ys ys.length)/\fZ (gj [blk m 153 [(.map (some b))],gM b .i64 (fun x:Nat=>Value.int .i64 (x:Int)) mm]) w w' (gj [blk m 153 [(.map (some b))],gM b .i64 (fun x:Nat=>Value.int .i64 (x:Int)) mm,fL fS v 3 1 ys])):=by
 refine en Tryz.func77 Tryz.ntmps77 ?_
 have n:=Own.of q
 have d:=yc [_,_] _ n
 refine fR n 8 ?_
 refine cl Wj (Vz b m mm w (yf d 0 rfl) s) ?_
 rintro _ h ⟨a,i,rfl,e,j⟩
 have c:=(yi d j)
 refine fK c 6 ?_
 refine cl XE (ad8 a i h (yf c 2 rfl) (by have p:=e.length_eq;rw[zn]at p;omega)) ?_
 rintro _ l ⟨k,rfl,f,t⟩
 have g:=yn 2 c t
 refine fQ g 9 ?_
 refine gq (v:=a) Tryz.results77 rfl ?_
 exact⟨a,k,rfl,⟨_,e,f.1,f.2⟩,yj (yc [_,_,_] _ g)⟩
end
section
open Go Go.Sx
theorem U3(cb n:Nat)(es:List Ge)(c:Cv)(w:World)(s:Own (Cv.R cb n es c) w)(t:n<=4096)(T:Int) :
 CR ya 76 (Zm cb T) w (fun r w' => ∃ v:Value,v=r/\fZ (Cv.R cb n es c) w w' (gj [(Cv.R cb n es c),fL fV v 3 1 (gY es n c.f T)])):=by
 refine en Tryz.func76 Tryz.ntmps76 ?_
 have q:iA es n c.f:=s.fact
 have u:=Own.of s.un
 obtain⟨z,A,B,C,D⟩:=lJ (es:=es) (n:=n) (f:=c.f)
 have y:=q.f.room q.g
 have x:=rZ.of s
 refine fR u 9 ?_
 refine cl Og (NX cb n es c w x t) ?_
 rintro _ h ⟨rfl,i⟩
 have a:=yo u i
 have j:=yg [2,3,4,5,6,0,1,7] a
 have b:=yc [_,_,_,_,_] _ j
 refine fK a 13 ?_
 refine cl Wi (adi es n c.f q t c.lv c.rv c.pv c.hv c.sv T h (yf b 0 rfl)) ?_
 rintro _ o ⟨d,rfl,k⟩
 have e:=(yi b k)
 refine fQ e 14 ?_
 refine gq (v:=d) Tryz.results76 rfl ?_
 have l:=yg [6,7,0,1,2,3,4,8,5] e
 have m:=yr (p:=iA es n c.f) (yc [_,_,_,_,_,_,_,_] _ l) q
 exact⟨d,rfl,yj (yc [_,_] _ m)⟩
theorem aeF{l:List Nat}{k:Nat}(hk:k<l.length):l.take (k+1)=l.take k++[fJ l k]:=by
 rw[pQ,gB hk]
 rfl
theorem Ui{n k:Nat}{lab:List Nat}(h:k<(jE n lab).length):(ny n lab).take (k+1)=(ny n lab).take k++[⟨fJ (jE n lab) k,lab.count (fJ (jE n lab) k)⟩]:=by
 have e:(ny n lab)[k]? = some ⟨fJ (jE n lab) k,lab.count (fJ (jE n lab) k)⟩:=by
  unfold ny
  rw[lK,gB h]
  rfl
 rw[pQ,e]
 rfl
theorem adw (v:Value)(e:TypeId)(l:List Nat):fL fS v e 1 (gx l)=fL fV v e 1 l:=by
 have h:(gx l).flatMap fS=l.flatMap fV:=by
  unfold gx
  rw[List.flatMap_map]
  rfl
 unfold fL
 rw[h]
 simp[gx]
theorem ND(cb n:Nat)(es:List Ge)(c:Cv)(w:World)(hO:Own (Cv.R cb n es c) w)(hn:n<=4096)(aJ:n<=12)(T:Int) :
 CR ya 40 (Zm cb T) w (fun r w' => ∃ v:Value,v=r/\fZ (Cv.R cb n es c) w w' (gj [(Cv.R cb n es c),fL Gp.cells v 102 2 (ny n (gY es n c.f T))])):=by
 refine en Tryz.func40 Tryz.ntmps40 ?_
 have ap:iA es n c.f:=hO.fact
 have aq:=yt hO
 have aG:=aas (es:=es) (n:=n) (f:=c.f) (T:=T)
 refine fR aq 7 ?_
 refine mkV (fun x:Nat=>Value.int .i64 (x:Int)) .i64 rfl rfl aq (fun b B V W j=>fK j 8 ?_)
 refine cl XQ (U3 cb n es c B (yf j 1 rfl) hn T) ?_
 rintro _ X ⟨d,rfl,ht⟩
 have C:=yg [1,0] j
 have o:=yz (yn 0 C ht)
 refine jb (m:=(gY es n c.f T).length) 1 rfl rfl yd o rfl (gE o 4 ?_)
 refine lp (α:=Nat×List (Int×Nat)) (fun(i,mm)=>[(5,(.map (some b))),(14,d),(15,(Za ((gY es n c.f T).length:Int))),(16,(Za i))]) (fun(i,mm) w1=>St [(w,(Cv.R cb n es c).gG)] [(Cv.R cb n es c),fL fV d 3 1 (gY es n c.f T),gM b .i64 (fun x:Nat=>Value.int .i64 (x:Int)) mm] w1/\i<=(gY es n c.f T).length/\rY ((gY es n c.f T).take i) mm) (fun(i,mm)=>(gY es n c.f T).length-i) (0,[]) ⟨rfl,rfl,rfl,gp rO,trivial⟩ (⟨o,o_,rY.start⟩) ?_
 rintro⟨i,mm⟩ Y Z ⟨F,hi,hM⟩
 refine fR F 2 ?_
 by_cases aa:((i:Int):Int)<(((gY es n c.f T).length:Int):Int)
 . have aF:i<(gY es n c.f T).length:=by omega
   have aH:=hM.get (fJ (gY es n c.f T) i)
   have av:=List.count_le_length (a:=fJ (gY es n c.f T) i) (l:=(gY es n c.f T).take i)
   refine fK F 17 ?_
   rw[zy]at av
   refine fK F 2 ?_
   refine pE (a:=(((fJ (gY es n c.f T) i):Nat):Int)) (mm:=mm) (enc:=(fun x:Nat=>Value.int .i64 (x:Int))) (k:=.i64) 2 rfl rfl rfl Bp ye gr rfl F rfl (ar (e:=((((gY es n c.f T).take i).count (fJ (gY es n c.f T) i)+1:Nat):Int)) rfl rfl rfl rfl iT (qa (a:=(((fJ (gY es n c.f T) i):Nat):Int)) (c:=(((gY es n c.f T).take i).count (fJ (gY es n c.f T) i)+1)) (mm:=mm) (enc:=(fun x:Nat=>Value.int .i64 (x:Int))) (k:=.i64) (L' := [(Cv.R cb n es c),fL fV d 3 1 (gY es n c.f T),gM b .i64 (fun x:Nat=>Value.int .i64 (x:Int)) (gD mm (((fJ (gY es n c.f T) i):Nat):Int) (((gY es n c.f T).take i).count (fJ (gY es n c.f T) i)+1))]) 2 rfl rfl rfl rfl Bp ye F rfl rfl (fun ab q=>fQ q 7 ?_)))
   refine tN (?_)
   exact again ((i+1),(gD mm (((fJ (gY es n c.f T) i):Nat):Int) (((gY es n c.f T).take i).count (fJ (gY es n c.f T) i)+1))) ⟨rfl,rfl,rfl,gp rO,trivial⟩ (⟨q,o_,by rw[aeF o_];exact hM.next _⟩) (by show ((gY es n c.f T).length-(i+1):Nat)<(gY es n c.f T).length-i;omega)
 . have ax:i=(gY es n c.f T).length:=by omega
   refine fK F 1 ?_
   rw[ax,tU]at hM
   have aI:=hM.len (Qj ap)
   have au:=Hx (n:=n) (lab:=(gY es n c.f T))
   refine fK F 12 ?_
   refine pv rfl rfl (aaF (mm:=mm) (enc:=(fun x:Nat=>Value.int .i64 (x:Int))) (k:=.i64) 2 rfl Bp F rfl) (rF (cf:=Gp.cells) (z0:=(⟨0,0⟩:Gp)) (m:=0) (c:=mm.length) rfl rfl rfl Bw uO rfl f_ d_ (mU _) o_ o_ F ?_)
   intro s t ac ad D
   have E:St _ [fL Gp.cells (zO s mm.length) 102 2 ((List.replicate mm.length (⟨0,0⟩:Gp)).take 0),(Cv.R cb n es c),fL fV d 3 1 (gY es n c.f T),gM b .i64 (fun x:Nat=>Value.int .i64 (x:Int)) mm] t:=lR (cf:=Gp.cells) D (i:=0) rfl f_ (mU _) (by simp only[maxLen];omega)
   have u:=E
   refine fK u 7 ?_
   refine cl XS (aaf b t) ?_
   rintro _ G ⟨H,rfl,ht⟩
   have I:=(jN u ht)
   have J:=yg [0,4,1,2,3] I
   have y:=yc [_,_] _ J
   refine cl XR (ael b H mm G (yf y 0 rfl) o_ o_) ?_
   rintro _ ae ⟨g,af,rfl,K,L⟩
   have M:=(yi y L)
   obtain⟨aK,aA,aB,aC⟩:=K
   have aD:=hM.keys (Qj ap) aA aB aC
   have p:=yv 2 M rfl ((congrArg (fL fS g 3 1) aD).trans (adw _ _ _))
   refine jb (m:=(jE n (gY es n c.f T)).length) 2 rfl rfl yd p rfl ?_
   have N:=yg [4,1,2,3] p
   have aw:(ny n (gY es n c.f T)).length=(jE n (gY es n c.f T)).length:=by unfold ny;rw[zn]
   refine gE p 4 ?_
   refine lp (α:=Nat×Value) (fun(k,gv)=>[(5,(.map (some b))),(8,gv),(30,g),(31,(Za ((jE n (gY es n c.f T)).length:Int))),(32,(Za k))]) (fun(k,gv) w1=>St [(w,(Cv.R cb n es c).gG)] [(Cv.R cb n es c),gM b .i64 (fun x:Nat=>Value.int .i64 (x:Int)) mm,fL fV g 3 1 (jE n (gY es n c.f T)),fL Gp.cells gv 102 2 ((ny n (gY es n c.f T)).take k)] w1/\k<=(jE n (gY es n c.f T)).length) (fun(k,gv)=>(jE n (gY es n c.f T)).length-k) (0,(zO s mm.length)) ⟨rfl,rfl,rfl,rfl,gp rO,trivial⟩ (⟨N,o_⟩) ?_
   rintro⟨k,gv⟩ ag ah ⟨ao,hk⟩
   refine fR ao 2 ?_
   by_cases ai:((k:Int):Int)<(((jE n (gY es n c.f T)).length:Int):Int)
   . have az:k<(jE n (gY es n c.f T)).length:=by omega
     have aE:(((ny n (gY es n c.f T)).take k)).length<=k:=by rw[zy];omega
     have au:=Hx (n:=n) (lab:=(gY es n c.f T))
     refine fK ao 21 ?_
     refine pE (a:=(((fJ (jE n (gY es n c.f T)) k):Nat):Int)) (mm:=mm) (enc:=(fun x:Nat=>Value.int .i64 (x:Int))) (k:=.i64) 1 rfl rfl rfl Bp ye gr rfl ao rfl (i7 (pvs:=[(0,(Za (((fJ (jE n (gY es n c.f T)) k):Nat):Int))),(1,(Za ((gi mm (((fJ (jE n (gY es n c.f T)) k):Nat):Int):Nat):Int)))]) (v:=.agg (Zx (((fJ (jE n (gY es n c.f T)) k):Nat):Int) ((gi mm (((fJ (jE n (gY es n c.f T)) k):Nat):Int):Nat):Int))) rfl rfl (jk [(0,(Ze (((fJ (jE n (gY es n c.f T)) k):Nat):Int))),(1,(Ze ((gi mm (((fJ (jE n (gY es n c.f T)) k):Nat):Int):Nat):Int)))] uO Rv rfl ⟨rfl,rfl,rfl,rfl,trivial⟩ rfl) (jF (vs:=(DY (((fJ (jE n (gY es n c.f T)) k):Nat):Int) ((gi mm (((fJ (jE n (gY es n c.f T)) k):Nat):Int):Nat):Int))) (cs:=(Zo (((fJ (jE n (gY es n c.f T)) k):Nat):Int) ((gi mm (((fJ (jE n (gY es n c.f T)) k):Nat):Int):Nat):Int))) rfl rfl Bw uO rfl (by simp[Value.cells]) rfl rfl rfl ao (fun O aj ak al z=>lE (cf:=Gp.cells) (ys:=((ny n (gY es n c.f T)).take k)) (zs:=[(⟨(fJ (jE n (gY es n c.f T)) k),(gi mm (((fJ (jE n (gY es n c.f T)) k):Nat):Int))⟩:Gp)]) (LL:=fun h=>[row (Z3 O) 102 2 1 ((Zo (((fJ (jE n (gY es n c.f T)) k):Nat):Int) ((gi mm (((fJ (jE n (gY es n c.f T)) k):Nat):Int):Nat):Int))),(Cv.R cb n es c),gM b .i64 (fun x:Nat=>Value.int .i64 (x:Int)) mm,fL fV g 3 1 (jE n (gY es n c.f T)),fL Gp.cells h 102 2 (((ny n (gY es n c.f T)).take k)++[(⟨(fJ (jE n (gY es n c.f T)) k),(gi mm (((fJ (jE n (gY es n c.f T)) k):Nat):Int))⟩:Gp)])]) 4 rfl rfl rfl Bw uO rfl d_ z rfl (kX z (i:=0) rfl) (fun x hx=>zm.1 (show List.all _ _=true from rfl) x hx) (by simp only[zd,zh,maxLen];omega) (by simp only[zd,zh,maxLen];omega) f_ ?_)))
     intro h am P an
     have A:=yg [1,2,3,4] P
     refine fQ A 8 ?_
     refine tN (?_)
     have Q:=yv 3 A rfl (congrArg (fL Gp.cells h 102 2) (show _=((ny n (gY es n c.f T)).take (k+1)) by rw[hM.get];exact(Ui az).symm))
     exact again ((k+1),h) ⟨rfl,rfl,rfl,rfl,gp rO,trivial⟩ (⟨Q,o_⟩) (by show ((jE n (gY es n c.f T)).length-(k+1):Nat)<(jE n (gY es n c.f T)).length-k;omega)
   . refine fQ ao 17 ?_
     refine gq (v:=gv) Tryz.results40 rfl ?_
     have ay:k=(jE n (gY es n c.f T)).length:=by omega
     have S:=yv 3 ao rfl (congrArg (fL Gp.cells gv 102 2) (show _=(ny n (gY es n c.f T)) by rw[ay,<-aw,tU]))
     have U:=yg [0,3] S
     exact⟨gv,rfl,yj (yc [_,_] _ U)⟩
end
section
open Go Go.Sx
theorem fW.NU{fO fM:Nat}{s:fW}(h:s.ok fO fM){x:Lv}(b:s.has x){id:Int}(a:x.u=id\/x.v=id):s.t.cnt id=0:=by
 obtain⟨i,hi,rfl⟩:=b
 exact TW.xl ((h.mem id).2 ⟨i,hi,a⟩)
theorem fW.Vw{fO fM:Nat}{s:fW}(h:s.ok fO fM){id:Int}(c:∀ x,s.has x->x.u≠id/\x.v≠id):s.t.cnt id≠0:=by
 rw[TW.sZ fun hm=>?_]
 . decide
 . obtain⟨i,hi,b⟩:=(h.mem id).1 hm
   have a:=c _ ⟨i,hi,rfl⟩
   exact b.elim a.1 a.2
theorem YG:ya.eqGuardType ya.depth 119=false:=by kernel_rfl
theorem Ye(a b:Int)(w:World):(Op.equal 119 (Ho a b) (Ho a b)).run ya w = .ok true w:=by
 rw[adF y9 ym jA]
 simp
theorem ahp{o:Obj}(w:World)(hO:Own (jL o) w) :
 CR ya 14 #[] w (fun r w' => r = .bool true/\fZ (jL o) w w' (jL o)):=by
 refine en Tryz.func14 Tryz.ntmps14 ?_
 have aL:=yt hO
 have aY:wI.length=2:=rfl
 have aX:wH.length=2:=rfl
 refine fR aL 7 ?_
 refine i7 (pvs:=[(0,w6),(1,rm),(2,rm),(3,rm)]) (v:=.agg #[w6,rm,rm,rm]) rfl rfl (jk [(0,[w6]),(1,[rm]),(2,[rm]),(3,[rm])] C8 RF rfl ⟨rfl,rfl,rfl,rfl,rfl,rfl,rfl,rfl,trivial⟩ rfl) (cl OG (TH cW w d_ d_ d_ d_ d_ d_ d_) ?_)
 rintro _ P ⟨d,B,rfl,p,T⟩
 have g:=(jN aL T)
 have aG:=tw (yf g 0 rfl)
 have aK:=p.2.2
 have aD:=p.1
 have aC:=p.2.1
 have aR:B.u.last=0:=by have h7:=aG.1.la;have h8:=aG.2.1.sn;omega
 refine fK g 14 ?_
 refine uw (a:=some ⟨d,0,none⟩) (c:=false) rfl rfl rfl Dh rfl (fK g 9 ?_)
 refine i7 (pvs:=[(0,vm),(1,zN),(2,(.int .i64 5))]) (v:=.agg #[vm,zN,(.int .i64 5),Zc]) rfl rfl (jk [(0,[vm]),(1,[zN]),(2,[(.int .i64 5)])] uP Ft rfl ⟨rfl,rfl,rfl,rfl,rfl,rfl,trivial⟩ rfl) ?_
 have aS:=fW.HM aG.2.1 aG.2.2 (u:=1) (v:=2) d_ (L:=[]) (K:=[1,2]) d_ (fun x F=>absurd F (aK x)) (fun x F=>absurd F (aK x)) d_ d_ d_
 refine cl Ez (Lg cW d B P (yf g 0 rfl) ⟨0,0,1,2,5,0,0⟩ (Jq d_) (by rw[aD];decide) d_ (by rw[aC];decide) aS) ?_
 rintro _ Q ⟨C,rfl,q,T⟩
 have j:=yn 0 g T
 have aN:=tw (yf j 0 rfl)
 obtain⟨⟨i1,aI⟩,aP⟩:=ahs aK aR q
 have aD:=q.now
 have aC:C.added=1:=q.added.trans (by rw[aC];rfl)
 refine fK j 6 ?_
 refine i7 (pvs:=[(0,zN),(1,vo),(2,(.int .i64 7)),(3,rm)]) (v:=.agg #[zN,vo,(.int .i64 7),rm]) rfl rfl (jk [(0,[zN]),(1,[vo]),(2,[(.int .i64 7)]),(3,[rm])] uP Ft rfl ⟨rfl,rfl,rfl,rfl,rfl,rfl,rfl,rfl,trivial⟩ rfl) ?_
 have aT:=fW.HM aN.2.1 aN.2.2 (u:=2) (v:=3) d_ (L:=[wE i1 1 1 2 5 0]) (K:=[1,2,3]) (by show (1:Nat)<4;decide) (fun x F=>by rw[(aI x).1 F];simp) (fun x F=>by rw[(aI x).1 F];simp) d_ d_ d_
 refine cl Ez (Lg cW d C Q (yf j 0 rfl) ⟨0,0,2,3,7,4,0⟩ (Jq d_) (by rw[aD];decide) d_ (by rw[aC];decide) aT) ?_
 rintro _ R ⟨D,rfl,s,T⟩
 have l:=yn 0 j T
 have aO:=tw (yf l 0 rfl)
 obtain⟨⟨i2,aJ⟩,aQ⟩:=aht aI aP s
 have aD:=s.now
 have aC:D.added=2:=s.added.trans (by rw[aC];rfl)
 refine fK l 6 ?_
 refine i7 (pvs:=[(0,vm),(1,vo),(2,xd),(3,zM)]) (v:=.agg #[vm,vo,xd,zM]) rfl rfl (jk [(0,[vm]),(1,[vo]),(2,[xd]),(3,[zM])] uP Ft rfl ⟨rfl,rfl,rfl,rfl,rfl,rfl,rfl,rfl,trivial⟩ rfl) ?_
 have aU:=fW.HM aO.2.1 aO.2.2 (u:=1) (v:=3) d_ (L:=[wE i1 1 1 2 5 0,wE i2 2 2 3 7 4]) (K:=[1,2,3]) (by show (2:Nat)<4;decide) (fun x F=>by rcases(aJ x).1 F with h|h<;>rw[h]<;>simp) (fun x F=>by rcases(aJ x).1 F with h|h<;>rw[h]<;>simp) d_ d_ d_
 refine cl Ez (Lg cW d D R (yf l 0 rfl) ⟨0,0,1,3,9,6,0⟩ (Jq d_) (by rw[aD];decide) d_ (by rw[aC];decide) aU) ?_
 rintro _ S ⟨e,rfl,y,T⟩
 have n:=yn 0 l T
 have aH:=tw (yf n 0 rfl)
 obtain⟨i3,aE⟩:=ahu aJ aQ y
 have aD:=y.now
 have aC:e.added=3:=y.added.trans (by rw[aC];rfl)
 have hG:GK e:=fun K L es h1 h2 h3=>ahw aH.2.1 aE h1 h2 h3
 have aV:=fW.NU aH.2.1 ((aE _).2 (.inl (.inl rfl))) (.inl rfl)
 have aM:=fW.NU aH.2.1 ((aE _).2 (.inr rfl)) (.inr rfl)
 have aW:e.u.t.cnt 4≠0:=fW.Vw aH.2.1 fun x F=>by rcases(aE x).1 F with (h|h)|h<;>rw[h]<;>simp
 refine fK n 6 ?_
 refine cl OH (Tv cW d e S (yf n 0 rfl)) ?_
 rintro _ U ⟨f,rfl,T⟩
 have z:=yz (yn 0 n T)
 refine fK z 26 ?_
 refine uw (a:=some ⟨f,0,none⟩) (c:=false) rfl rfl rfl Tryz.underlying24 rfl ?_
 have V:=yg [1,0,2] z
 have E:=yc [_,_] _ V
 refine fK z 9 ?_
 refine cl Ob (aha cW f d e U (yf E 0 rfl) d_ hG aM) ?_
 rintro _ an ⟨A,rfl,W,X⟩
 have G:=(yi E X)
 have aF:=W
 refine fK G 3 ?_
 refine iM G (fun ao ap aq ar Y=>?_)
 refine gI Y 7 fun Z aa=>?_
 have ab:=yg [1,2,3,4,0] aa
 have H:=yc [_,_,_,_] _ ab
 refine cl Xy (ahm cW f d e A aF.of 1 Z (yf H 0 rfl) aF aV aM) ?_
 rintro _ ac ⟨rfl,ad⟩
 have I:=(yi H ad)
 have ae:=yg [0,2,1,3,4] I
 have J:=yc [_,_] _ ae
 refine fK I 12 ?_
 refine cl Ob (agY cW f d e _ ac (yf J 0 rfl) 4 7 aW) ?_
 rintro _ au ⟨rfl,af⟩
 have M:=(yi J af)
 refine fK M 3 ?_
 refine iM M (fun av aw ax ay ag=>?_)
 refine gI ag 7 fun ah ai=>?_
 have aj:=yg [1,3,2,0,4,5] ai
 have N:=yc [_,_,_] _ aj
 refine cl Xz (ahl cW f d e A aF.of 1 ah (yf N 0 rfl) aF) ?_
 rintro _ ak ⟨az,aA,rfl,al⟩
 have b:=(yi N al)
 refine fK b 38 ?_
 refine jb (m:=wI.length) 3 rfl rfl Bo b rfl (fK b 4 ?_)
 refine iD (cf:=kE.cells) (k:=1) (i:=1) rfl rfl rfl Bo tH (y0 b 3 rfl) o_ o_ (gB om) (fK b 1 ?_)
 refine i7 (pvs:=[(0,vm),(1,vo)]) (v:=.agg GY) rfl rfl (uk [(0,[vm]),(1,[vo])] tH y9 jA rfl ⟨rfl,rfl,rfl,rfl,trivial⟩ rfl s_) (X8 (c:=true) (xs:=GY) (ys:=GY) rfl rfl rfl YG (fun w=>Ye _ _ w) (fK b 3 ?_))
 refine jb (m:=wH.length) 4 rfl rfl yk b rfl (fK b 4 ?_)
 refine iD (cf:=fS) (k:=1) (i:=1) rfl rfl rfl yk ti2 (y0 b 4 rfl) o_ o_ (gB om) (fK b 5 ?_)
 refine cl W3 (agV f d A 1 _ ak (yf b 0 rfl)) ?_
 rintro _ aB ⟨rfl,T⟩
 have O:=yn 0 b T
 refine fQ O 6 ?_
 refine gq (v:=Zf) Tryz.results14 rfl ?_
 have am:=yg [6,0,1,2,3,4,5,7] O
 exact⟨rfl,yj am⟩
theorem aho{o:Obj}(w:World)(a:(jL o).holds w):CR ya 14 #[] w (fun r w' => r = .bool true/\gw [] w w') :=
 CR.mono (ahp w (aeE a)) fun r w' ⟨b,c⟩=>⟨b,aeC a c⟩
end
section
open Go Go.Sx
structure Vg where
 a:Int
 s:Nat
instance:Inhabited Vg:=⟨⟨0,0⟩⟩
def Vg.cells(x:Vg):List Value:=(wY x.a x.s)
abbrev Vk.iJ(k:Vk)(T:Int):List Gp:=ny k.K.length (gY k.es k.K.length k.c.f T)
def Vk.cls(k:Vk)(T:Int)(j:Nat):List Vg:=((k.iJ T).take j).map fun g=>⟨fJ k.K g.l,g.s⟩
abbrev LV(a b:Nat)(c:Int)(d:Vk)(e:Int) f g (h:Nat) i j k l m:=([blk a 89 [.pointer (some ⟨b,0,none⟩),.bool true,.int .u64 c,d.iv,.int .i64 e,d.lv,d.rv,d.pv,d.hv,d.sv,.pointer (some ⟨d.cb,0,none⟩),.pointer (some ⟨d.mb,0,none⟩),.int .i64 1],Vk.R d,WW.R f b g,fL fS (Z1 h) 2 1 i,fL fS j 2 1 k,fL Vg.cells l 42 2 m]:List fT)
theorem Vk.Vc{k:Vk}{T:Int}{j:Nat}(h:j<(k.iJ T).length):k.cls T (j+1)=k.cls T j++[⟨fJ k.K (fJ (k.iJ T) j).l,(fJ (k.iJ T) j).s⟩]:=Bj _ h
theorem Vk.NQ{k:Vk}{T:Int}{j:Nat}:(k.cls T j).length<=j:=by simp[Vk.cls];omega
theorem Vk.Co{k:Vk}{T:Int}:(k.iJ T).length<=k.K.length:=by
 show (ny _ _).length<=_
 unfold ny
 rw[zn]
 exact Hx
theorem Vk.YK{k:Vk}{T:Int}{j:Nat}(h:j<(k.iJ T).length):(fJ (k.iJ T) j).l<k.K.length:=by
 have b:=zg (gB h)
 have a:fJ (k.iJ T) j∈ny k.K.length (gY k.es k.K.length k.c.f T):=b
 unfold ny at a
 obtain⟨x,d,e⟩:=z7.1 a
 rw[<-e]
 exact(Ni d).1
theorem VF(b3 F:Nat)(T:Int)(k:Vk)(w:World)(hO:Own (GO k b3 T F) w) :
 CR ya 39 (GS k k.K.length b3 F) w (fun r w' => r = .tuple #[]/\∃ x:Value×List Vg,x.2=k.cls T (k.iJ T).length/\fZ (GO k b3 T F) w w' (gj [Vk.R k,(gj [blk b3 2 (Ze T),blk F 38 [x.1],fL Vg.cells x.1 42 2 x.2])])):=by
 refine en Tryz.func39 Tryz.ntmps39 ?_
 have al:=Own.of hO
 have ak:=pP al
 have au:=ak.n
 have ao:=(jO al).unpack
 have y:=yg [8,0,1,2,3,4,5,6,7] ao
 have q:=yz y
 have ar:=Vk.Co (k:=k) (T:=T)
 refine fR q 2 ?_
 refine gW q (fun a z S U e=>?_)
 refine fK e 7 ?_
 refine cl OU (ND k.cb k.K.length k.es k.c z (yf e 9 rfl) o_ o_ T) ?_
 rintro _ A ⟨b,rfl,ht⟩
 have B:=yg [9,0,1,2,3,4,5,6,7,8,10] e
 have f:=yz (yn 0 B ht)
 refine jb (m:=(k.iJ T).length) 1 rfl rfl Bw f rfl ?_
 have C:St _ [fL Vg.cells Zg 42 2 (k.cls T 0),(pZ k k.K.length),fL Gp.cells b 102 2 (k.iJ T),blk a 87 (o6 k k.K.length),blk b3 2 (Ze T),blk F 38 ng,fL gV k.iv 40 1 k.K,fL fS k.lv 3 1 ((Zj k).l),fL fS k.rv 3 1 ((Zj k).r),fL fS k.pv 3 1 ((Zj k).p),fL fS k.hv 2 1 ((Zj k).h),fL fV k.sv 3 1 ((Zj k).s),(Z6 k k.K.length)] A:=pO f 42 2
 have D:=yg [4,5,0,2,3,6,7,8,9,10,11,1,12] C
 refine gE f 4 ?_
 refine lp (α:=Nat×Value) (fun(i,gv)=>[(1,(Zb b3)),(2,(Zb F)),(3,(Zb a)),(9,b),(10,(Za ((k.iJ T).length:Int))),(11,(Za i))]) (fun(i,gv) w1=>St [(w,(GO k b3 T F).gG)] [blk b3 2 (Ze T),blk F 38 [gv],fL Vg.cells gv 42 2 (k.cls T i),fL Gp.cells b 102 2 (k.iJ T),blk a 87 (o6 k k.K.length),fL gV k.iv 40 1 k.K,fL fS k.lv 3 1 ((Zj k).l),fL fS k.rv 3 1 ((Zj k).r),fL fS k.pv 3 1 ((Zj k).p),fL fS k.hv 2 1 ((Zj k).h),fL fV k.sv 3 1 ((Zj k).s),(pZ k k.K.length),(Z6 k k.K.length)] w1/\i<=(k.iJ T).length) (fun(i,gv)=>(k.iJ T).length-i) (0,Zg) ⟨rfl,rfl,rfl,rfl,rfl,gp rO,trivial⟩ (⟨D,o_⟩) ?_
 rintro⟨i,gv⟩ V W ⟨aj,hi⟩
 have ap:=Vk.NQ (k:=k) (T:=T) (j:=i)
 refine fR aj 2 ?_
 by_cases X:((i:Int):Int)<(((k.iJ T).length:Int):Int)
 . have an:i<(k.iJ T).length:=by omega
   have aq:=Vk.YK an
   refine fK aj 13 ?_
   refine iM aj (fun E Y Z aa G=>?_)
   refine tE G 3 fun ab H=>?_
   refine kV mixed [([0,1,2,3,4,5,6,7,8,9,10],[0])] [11,12] H (fun ac t=>jM ?_)
   refine fK t 9 ?_
   refine i7 (pvs:=[(0,(Zn (fJ k.K ((fJ (k.iJ T) i).l)))),(1,(Za ((fJ (k.iJ T) i).s:Int)))]) (v:=.agg #[(Zn (fJ k.K ((fJ (k.iJ T) i).l))),(Za ((fJ (k.iJ T) i).s:Int))]) rfl rfl (jk [(0,(Zq (fJ k.K ((fJ (k.iJ T) i).l)))),(1,(Ze ((fJ (k.iJ T) i).s:Int)))] yG RE rfl ⟨rfl,rfl,rfl,rfl,trivial⟩ rfl) (jF (vs:=[(.agg #[(Zn (fJ k.K ((fJ (k.iJ T) i).l))),(Za ((fJ (k.iJ T) i).s:Int))])]) (cs:=(wY (fJ k.K ((fJ (k.iJ T) i).l)) ((fJ (k.iJ T) i).s:Int))) rfl rfl Gl yG rfl (by simp[Value.cells]) rfl rfl rfl t (fun I ad ae af g=>fQ g 1 ?_))
   refine kL (kW ?_)
   refine lE (cf:=Vg.cells) (ys:=(k.cls T i)) (zs:=[(⟨(fJ k.K ((fJ (k.iJ T) i).l)),((fJ (k.iJ T) i).s)⟩:Vg)]) (LL:=fun d=>[row (Z3 I) 42 2 1 ((wY (fJ k.K ((fJ (k.iJ T) i).l)) ((fJ (k.iJ T) i).s:Int))),blk E 102 (Zo ((fJ (k.iJ T) i).l:Int) ((fJ (k.iJ T) i).s:Int)),blk b3 2 (Ze T),blk F 38 [gv],fL Vg.cells d 42 2 ((k.cls T i)++[(⟨(fJ k.K ((fJ (k.iJ T) i).l)),((fJ (k.iJ T) i).s)⟩:Vg)]),fL Gp.cells b 102 2 (k.iJ T),blk a 87 (o6 k k.K.length),fL gV k.iv 40 1 k.K,fL fS k.lv 3 1 ((Zj k).l),fL fS k.rv 3 1 ((Zj k).r),fL fS k.pv 3 1 ((Zj k).p),fL fS k.hv 2 1 ((Zj k).h),fL fV k.sv 3 1 ((Zj k).s),(pZ k k.K.length),(Z6 k k.K.length)]) 4 rfl rfl rfl Gl yG rfl d_ g rfl (kX g (i:=0) rfl) (fun x hx=>zm.1 (show List.all _ _=true from rfl) x hx) (by simp only[zd,zh,maxLen];omega) (by simp only[zd,zh,maxLen];omega) f_ ?_
   intro d ag J ah
   have o:=yg [1,2,3,4,5,6,7,8,9,10,11,12,13,14] J
   refine jV 2 o (fun ai u=>?_) (hvs:=(cells_one (yw o (i:=3) rfl))) (h1:=(ia (yw o (i:=3) rfl) kR))
   refine fQ u 7 ?_
   refine tN (?_)
   have L:=yg [1,2,3,4,5,6,7,8,9,10,11,12,13] u
   have M:=yv 2 L rfl (congrArg (fL Vg.cells d 42 2) ((Vk.Vc o_).symm))
   exact again ((i+1),d) ⟨rfl,rfl,rfl,rfl,rfl,gp rO,trivial⟩ (⟨M,o_⟩) (by show ((k.iJ T).length-(i+1):Nat)<(k.iJ T).length-i;omega)
 . refine fQ aj 9 ?_
   refine iO Tryz.results39 ?_
   have am:i=(k.iJ T).length:=by omega
   have N:=yv 2 aj rfl (congrArg (fL Vg.cells gv 42 2) (congrArg (k.cls T) am))
   have O:=yc [_,_,_] _ N
   have P:=yg [3,4,5,6,7,8,9,10,0,1,2] O
   have Q:=yr (p:=Vk.ok k) (yc [_,_,_,_,_,_,_,_] _ P) ak
   exact⟨rfl,(gv,k.cls T (k.iJ T).length),rfl,yj (yc [_,_] _ Q)⟩
theorem agX(c:WC)(F I:Nat)(s:WW)(k:Vk)(L:Vk.of s k)(b:Int)(w:World)(J:Own (zY F I (IntKind.u64.wrap (s.added+s.jr)) k k.K.length b c s) w)(T:Int) :
 CR ya 11 (Zm F T) w (fun r w' => ∃ (v:Value),v=r/\fZ (zY F I (IntKind.u64.wrap (s.added+s.jr)) k k.K.length b c s) w w' (gj [blk F 89 [(Zb I),Zf,(Zn (IntKind.u64.wrap (s.added+s.jr))),k.iv,(Za k.K.length),k.lv,k.rv,k.pv,k.hv,k.sv,(Zb k.cb),(Zb k.mb),(Za b)],Vk.R k,(WW.R c I s),fL Vg.cells v 42 2 (k.cls T (k.iJ T).length)])):=by
 refine en Tryz.func11 Tryz.ntmps11 ?_
 have M:=(yt J).unpack
 refine fR M 2 ?_
 refine gW M (fun a m B C e=>?_)
 refine fK e 7 ?_
 refine cl vG (wB F I _ m (yf e 1 rfl)) ?_
 rintro _ D ⟨rfl,N⟩
 have h:=yn 1 e N
 refine fK h 8 ?_
 refine iM h (fun d n E G i=>?_)
 refine fK i 5 ?_
 refine lW (vf:=[]) (vc:=(Z5 a d)) rfl rfl rfl ?_
 have o:=yg [1,0,2,3,4] i
 have p:=yc [_,_] _ o
 have q:=yg [1,2,3,0] p
 have j:=yc [_,_,_,_] _ q
 refine cl Ci (Li c F I s n (gj [blk a 2 (Ze T),blk d 38 ng]) (fun x:Value×List Vg=>gj [blk a 2 (Ze T),blk d 38 [x.1],fL Vg.cells x.1 42 2 x.2]) (fun k x=>x.2=k.cls T (k.iJ T).length) 39 (Z5 a d) Xv (fun k w1 L J=>VF a d T k w1 J) k L b (yf j 0 rfl)) ?_
 rintro _ H ⟨f,rfl,t,u⟩
 have y:=(yi j u)
 have z:=yg [3,0,1,2] y
 have g:=yz z
 refine fK g 5 ?_
 refine r8 (v:=f.1) rfl rfl (fQ g 3 ?_)
 refine gq (v:=f.1) Tryz.results11 rfl ?_
 have A:=yg [3,4,5,2] g
 have l:=A
 rw[t]at l
 exact⟨f.1,rfl,yj (yc [_,_,_,_] _ l)⟩
end
section
open Go Go.Sx
structure wU (w:World) (hb:Nat) (bnv cnv:Value) (bs cs:List Int) (t0:Int):Prop where
 b:(blk hb 181 [bnv,cnv,(Za t0)]).holds w
 bd:gU 1 fS (fun _=>True) w bnv bs
 ct:gU 1 fS (fun _=>True) w cnv cs
 kj:bs.Pairwise fun a b=>a<b
 n:bs.length<=1024
 ln:cs.length=bs.length+1
theorem wU.to{d:List (World×List Nat)}{L:List fT}{w w0:World}{hb:Nat}{c e:Value}{bs cs:List Int}{f:Int}(h:wU w0 hb c e bs cs f)(hs:St d L w)(a:(w0,[])∈d):wU w hb c e bs cs f :=
 ⟨tM hs a h.b,yx hs a d_ h.bd,yx hs a d_ h.ct,h.kj,h.n,h.ln⟩
theorem IX(hb:Nat)(g f:Value)(bs cs:List Int)(h:Int)(w:World)(e:wU w hb g f bs cs h) :
 CR ya 89 (Zi hb) w (fun r w' => r = .bool true/\gw [] w w'):=by
 refine en Tryz.func89 Tryz.ntmps89 ?_
 have d:=yu w
 have i:=e.n
 have j:=e.ln
 refine fR d 8 ?_
 refine mA (a:=some ⟨hb,0,none⟩) (c:=true) rfl rfl rfl Tryz.underlying120 rfl (fK d 4 ?_)
 refine ld rfl rfl yk rfl (j9 d s_ e.b rfl) (jX (v:=f) rfl rfl yk e.ct (cmp rfl rfl rfl (HE o_) (fQ d 5 ?_)))
 refine gq (v:=Zf) Tryz.results89 rfl ?_
 exact⟨rfl,d.gy s_⟩
theorem UI(hb:Nat)(f g:Value)(bs cs:List Int)(j:Int)(w:World)(e:wU w hb f g bs cs j)(x:Int)(b2 b3:Nat)(h1:(blk b2 120 (Zh hb)).holds w)(l:(blk b3 2 (Ze x)).holds w)(i:Nat)(hi:i<bs.length) :
 CR ya 152 (Mj i b2 b3) w (fun r w' => r = .bool (decide (x<fJ bs i))/\gw [] w w'):=by
 refine en Tryz.func152 Tryz.ntmps152 ?_
 have h:=yu w
 have m:=e.n
 have o:=e.ln
 refine nI h 10 fun c a=>?_
 refine ld rfl rfl yk rfl (j9 a s_ e.b rfl) (fK a 1 ?_)
 refine iD (k:=i) (i:=(i:Int)) rfl rfl rfl yk ti2 e.bd o_ o_ (gB hi) (iY rfl rfl pN rfl (yx a s_ d_ e.bd) (gB hi) rfl (fK a 1 ?_))
 by_cases d:((fJ bs i):Int)>(x:Int)
 . refine fQ a 5 ?_
   refine gq (v:=Zf) Tryz.results152 rfl ?_
   exact⟨congrArg Value.bool (decide_eq_true o_).symm,a.gy s_⟩
 . refine fQ a 5 ?_
   refine gq (v:=Zp) Tryz.results152 rfl ?_
   exact⟨congrArg Value.bool (decide_eq_false o_).symm,a.gy s_⟩
theorem aek(hb:Nat)(q s:Value)(bs cs:List Int)(u:Int)(w:World)(p:wU w hb q s bs cs u)(x:Int)(b2 b3:Nat)(h1:(blk b2 120 (Zh hb)).holds w)(y:(blk b3 2 (Ze x)).holds w) :
 CR ya 151 #[(Za bs.length),(M5 b2 b3)] w (fun r w' => r = .int .i64 ((mq bs x:Nat):Int)/\gw [] w w'):=by
 refine en Tryz.func151 Tryz.ntmps151 ?_
 have t:=yu w
 have B:=p.n
 refine qg t 14 ?_
 refine lp (α:=Nat×Nat) (fun(i,j)=>[(1,(M5 b2 b3)),(5,(Za i)),(6,(Za j))]) (fun(i,j) w1=>St [(w,[])] [] w1/\mG bs (x+1) i j/\i<=j/\j<=bs.length) (fun(i,j)=>j-i) (0,bs.length) ⟨rfl,gp rO,gp rO,trivial⟩ (⟨t,mG.start,o_,o_⟩) ?_
 rintro⟨i,j⟩ h f ⟨m,o,C,D⟩
 refine fR m 5 ?_
 by_cases k:((i:Int):Int)<((j:Int):Int)
 . refine fK m 13 ?_
   refine shr (a:=(i:Int)+(j:Int)) (b:=1) (e:=(((i+j) / 2:Nat):Int)) rfl rfl rfl d_ (Ph (i+j) 1 64 d_) (fK m 8 ?_)
   refine pq (fi:=[]) (ca:=(Z5 b2 b3)) rfl rfl rfl Wu (UI hb q s bs cs u f (p.to m s_) x b2 b3 (tM m s_ h1) (tM m s_ y) ((i+j) / 2) o_) ?_
   rintro _ l ⟨rfl,g⟩
   have c:=yo m g
   refine gE c 3 ?_
   cases d:(decide (x<fJ bs ((i+j) / 2)):Bool)
   . skip
     refine iH c 7 ?_
     refine tN (?_)
     exact again (((i+j) / 2+1),j) ⟨rfl,gp rO,rfl,trivial⟩ (⟨c,o.up p.kj o_ (by have z:=of_decide_eq_false d;omega),o_,o_⟩) (by show (j-((i+j) / 2+1):Nat)<j-i;omega)
   . skip
     refine iH c 6 ?_
     refine tN (?_)
     exact again (i,((i+j) / 2)) ⟨rfl,rfl,gp rO,trivial⟩ (⟨c,o.down p.kj (by have z:=of_decide_eq_true d;omega),o_,o_⟩) (by show (((i+j) / 2)-i:Nat)<j-i;omega)
 . refine fQ m 16 ?_
   refine gq (v:=(Za i)) Tryz.results151 rfl ?_
   have A:i=mq bs x:=mG.gN (by rw[show j=i by omega]at o;exact o) o_
   exact⟨by rw[A],m.gy s_⟩
theorem YO(hb:Nat)(z A:Value)(bs cs:List Int)(B:Int)(w:World)(y:wU w hb z A bs cs B)(x:Int) :
 CR ya 91 (Zm hb x) w (fun r w' => r = .int .i64 ((mq bs x:Nat):Int)/\gw [] w w'):=by
 refine en Tryz.func91 Tryz.ntmps91 ?_
 have C:=yu w
 have D:=y.n
 have E:=y.ln
 refine fR C 2 ?_
 refine gW C (fun d o p q g=>?_)
 refine gW g (fun e h s t c=>?_)
 refine fK c 7 ?_
 refine cl Iz (IX hb z A bs cs B h (y.to c s_)) ?_
 rintro _ j ⟨rfl,k⟩
 have a:=yo c k
 refine fK a 11 ?_
 refine ld rfl rfl yk rfl (j9 a s_ y.b rfl) (jX (v:=z) rfl rfl yk y.bd (lW (vf:=[]) (vc:=(Z5 d e)) rfl rfl rfl (cl Wt (aek hb z A bs cs B j (y.to a s_) x d e (St.at a (i:=1) rfl) (St.at a (i:=0) rfl)) ?_)))
 rintro _ u ⟨rfl,l⟩
 have f:=yo a l
 refine fQ f 4 ?_
 refine gq (v:=(Za ((mq bs x:Nat):Int))) Tryz.results91 rfl ?_
 have m:=yg [] f
 exact⟨rfl,m.gy s_⟩
end
section
open Go Go.Sx
theorem HR(v:Value)(xs:List Int)(w:World)(hv:gU 1 fS (fun _=>True) w v xs)(m:xs.length<=1000000) :
 CR ya 88 #[v] w (fun r w' => oC 1 fS w w' r 2 xs/\gw [] w w'):=by
 refine en Tryz.func88 Tryz.ntmps88 ?_
 have l:=yu w
 refine fR l 9 ?_
 refine Au (v:=v) rfl rfl rfl yk hv (gE l 2 ?_)
 cases e:(uG v:Bool)
 . skip
   refine fR l 5 ?_
   refine jF (vs:=[]) (cs:=[]) rfl rfl yk ti2 rfl (by intro v hv;simp at hv) rfl rfl rfl l ?_
   intro f g h i c
   have d:=c
   refine fK c 1 ?_
   refine lE (cf:=fS) (ys:=[]) (zs:=xs) (LL:=fun a=>[fL fS a 2 1 xs]) 0 rfl rfl rfl yk ti2 rfl d_ d rfl (gU.src (yx d s_ d_ hv) f_) (vJ f_ _) (by simp only[zh];omega) (by simp only[zh];omega) f_ (fun a j b k=>fQ b 4 ?_)
   refine gq (v:=a) Tryz.results88 rfl ?_
   exact⟨By b s_,b.gy s_⟩
 . skip
   refine iH l 8 ?_
   refine gq (v:=Zg) Tryz.results88 rfl ?_
   obtain rfl:=AQ e hv
   exact⟨oC.AP, l.gy s_⟩
theorem Ub(a:Int)(w:World)(h:0<=a/\a<=1000000):CR ya 90 #[.int .i64 a,.int .i64 1] w (fun r w' => r = .tuple (vk (a+1))/\gw [] w w') :=
 CR.mono (Nf a 1 w (ku o_) (ku d_)) fun r w' b=>⟨by rw[b.1,xh o_],b.2⟩
structure zI (bs:List Int) (l:List Nat):Prop where
 kj:bs.Pairwise fun a b=>a<b
 n:bs.length<=1024
 ln:l.length<=1000
def pU.R(hb:Nat)(a b:Value)(bs:List Int)(l:List Nat):fT:=j3 (zI bs l) (gj [blk hb 181 [a,b,(Za ((l).length:Int))],fL fS a 2 1 bs,fL fS b 2 1 (jJ bs l)])
theorem YN(hb:Nat)(B A:Value)(bs:List Int)(l:List Nat)(w:World)(E:Own (pU.R hb B A bs l) w)(x:Nat)(K:l.length<1000) :
 CR ya 51 #[(Zb hb),(Za x),pX] w (fun r w' => r = .int .i64 0/\fZ (pU.R hb B A bs l) w w' (pU.R hb B A bs (l++[x]))):=by
 refine en Tryz.func51 Tryz.ntmps51 ?_
 have C:zI bs l:=E.fact
 have I:=C.n
 have L:=C.ln
 have D:=Own.of E.un
 have F:=s9 (bs:=bs) (l:=l)
 have G:=HB (bs:=bs) (x:=(x:Int))
 have J:=IS (bs:=bs) (l:=l) G
 refine fR D 9 ?_
 refine cl Iz (IX hb B A bs (jJ bs l) _ w ⟨St.at D (i:=0) rfl,(y0 D 1 rfl).any,(y0 D 2 rfl).any,C.kj,C.n,F⟩) ?_
 rintro _ e ⟨rfl,g⟩
 have c:=yo D g
 refine fK c 23 ?_
 refine cl O4 (Ub ((l).length:Int) e o_) ?_
 rintro _ u ⟨rfl,h⟩
 have j:=yo c h
 refine tE j 27 fun y k=>?_
 refine kV mixed [([0,1,2,3,4,5,9,6],[3])] [7,8,10,11,12] k (fun m a=>jM ?_)
 refine fK a 7 ?_
 refine cl X4 (YO hb B A bs (jJ bs l) _ m ⟨St.at a (i:=0) rfl,(y0 a 1 rfl).any,(y0 a 2 rfl).any,C.kj,C.n,F⟩ x) ?_
 rintro _ z ⟨rfl,o⟩
 have b:=yo a o
 refine fQ b 1 ?_
 refine kL (kW ?_)
 refine fK b 4 ?_
 refine iK (f:=(fun _=>(fJ (jJ bs l) (mq bs x))+1)) 2 b (fun q d=>?_)
 refine fQ d 8 ?_
 refine gq (v:=Zc) Tryz.results51 rfl ?_
 have s:=yv 2 d rfl (congrArg (fL fS A 2 1) (YY))
 have H:((l++[x]).length:Int)=(l.length:Int)+1:=by simp
 have t:St [(w,(pU.R hb B A bs l).gG)] [blk hb 181 [B,A,(Za ((l++[x]).length:Int))],fL fS B 2 1 bs,fL fS A 2 1 (jJ bs (l++[x]))] q:=by rw[H];exact s
 exact⟨rfl,yp (yr (p:=zI bs (l++[x])) (yc [_,_,_] _ t) ⟨C.kj,C.n,by rw[zq,zd,zh];omega⟩) za⟩
theorem YP(hb:Nat)(j h:Value)(bs:List Int)(l:List Nat)(w:World)(o:Own (pU.R hb j h bs l) w) :
 CR ya 52 (Zi hb) w (fun r w' => ∃ v:Value,v=r/\fZ (pU.R hb j h bs l) w w' (gj [(pU.R hb j h bs l),fL fS v 2 1 (jJ bs l)])):=by
 refine en Tryz.func52 Tryz.ntmps52 ?_
 have k:zI bs l:=o.fact
 have t:=k.n
 have u:=k.ln
 have m:=Own.of o.un
 have s:=s9 (bs:=bs) (l:=l)
 refine fR m 9 ?_
 refine cl Iz (IX hb j h bs (jJ bs l) _ w ⟨St.at m (i:=0) rfl,(y0 m 1 rfl).any,(y0 m 2 rfl).any,k.kj,k.n,s⟩) ?_
 rintro _ d ⟨rfl,e⟩
 have a:=yo m e
 refine fK a 12 ?_
 refine cl Iy (HR h (jJ bs l) d (y0 a 2 rfl).any (by first|omega|(simp;omega))) ?_
 rintro b f q
 have c:St _ [fL fS b 2 1 (jJ bs l),blk hb 181 [j,h,(Za ((l).length:Int))],fL fS j 2 1 bs,fL fS h 2 1 (jJ bs l)] f:=qV a q.2 q.1
 refine fQ c 4 ?_
 refine gq (v:=b) Tryz.results52 rfl ?_
 have g:=yg [1,2,3,0] c
 exact⟨b,rfl,yp (yc [_,_] _ (yr (p:=zI bs l) (yc [_,_,_] _ g) k)) za⟩
abbrev acz:List (List Nat):=[[],[0],[],[2],[2,3],[2,3,4],[0,1,2,3,4,5],[0,1,2,3,4,5,6],[0,1,2,3,4,5,6,7],[0,1,2,3,4,5,6,7,8]]
abbrev DK a (b:Nat) (c:Int) (d e:Nat) f g h:=(gj [Vk.R a,gj [blk b 2 (Ze c),blk d 120 (Zh e),pU.R e f g h []]]:fT)
abbrev L6(a:Nat)(b:Int)(c d:Nat) e f g h i j (k:Nat) (l:Vk) (m:Nat) (n:mJ):=([blk a 2 (Ze b),blk c 120 (Zh d),pU.R d e f g h,fL Gp.cells i 102 2 j,blk k 87 [l.iv,.int .i64 m,l.lv,l.rv,l.pv,l.hv,l.sv,.pointer (some ⟨l.cb,0,none⟩),.pointer (some ⟨l.mb,0,none⟩)],fL gV l.iv 40 1 l.K,fL fS l.lv 3 1 n.l,fL fS l.rv 3 1 n.r,fL fS l.pv 3 1 n.p,fL fS l.hv 2 1 n.h,fL fV l.sv 3 1 n.s,Cv.R l.cb m l.es l.c,Mf.R l.mb m l.es l.q]:List fT)
theorem YW(v:Value)(xs:List Int)(w:World)(hv:gU 1 fS (fun _=>True) w v xs)(hs:xs.Pairwise fun a b=>a<b)(L:xs.length<=1024) :
 CR ya 49 #[v] w (fun r w' => ∃ (hb:Nat) (J K:Value),r = .tuple (Zy hb)/\fZ (gj []) w w' (pU.R hb J K xs [])):=by
 refine en Tryz.func49 Tryz.ntmps49 ?_
 have I:=yu w
 refine fR I 10 ?_
 refine jX (v:=v) rfl rfl yk hv (cmp rfl rfl rfl (nX o_) (gE I 12 ?_))
 refine lp (α:=Nat) (fun i=>[(0,v),(4,(Za i))]) (fun i w1=>St [(w,[])] [] w1/\1<=i) (fun i=>xs.length+1-i) 1 ⟨rfl,gp rO,trivial⟩ (⟨I,o_⟩) ?_
 rintro i z A ⟨H,hi⟩
 refine fR H 5 ?_
 refine jX (v:=v) rfl rfl yk hv ?_
 by_cases B:((i:Int):Int)<((xs.length:Int):Int)
 . refine gI H 17 fun C g=>?_
   refine iD (k:=(i-1)) (i:=(i:Int)-1) rfl rfl rfl yk ti2 hv o_ o_ (gB o_) (fK g 1 ?_)
   refine cmp rfl rfl rfl (Ef (by have M:=Ae hs (p:=i-1) (q:=i) o_ o_;omega)) (fQ g 11 ?_)
   refine tN (?_)
   exact again (i+1) ⟨rfl,gp rO,trivial⟩ (⟨g,o_⟩) (by show (xs.length+1-(i+1):Nat)<xs.length+1-i;omega)
 . refine gE H 10 ?_
   refine Kg (Γ:=Value×Nat×Nat) mixed acz [1,5,7] k_ [fun(d,e,f)=>v,fun(d,e,f)=>d,fun(d,e,f)=>v,fun(d,e,f)=>(Za xs.length),fun(d,e,f)=>(Za ((xs.length:Int)+1)),fun(d,e,f)=>(Zd e (xs.length+1)),fun(d,e,f)=>(Ht d e (xs.length+1)),fun(d,e,f)=>(Zb f),fun(d,e,f)=>(Zb f),fun(d,e,f)=>Zc] [([],(fun(d,e,f)=>[],fun _ _=>True)),([1],(fun(d,e,f)=>[fL fS d 2 1 xs],fun _ _=>True)),([5],(fun(d,e,f)=>[blk e 2 ((List.replicate (xs.length+1) 0).flatMap fS)],fun _ _=>True)),([1,5],(fun(d,e,f)=>[blk e 2 ((List.replicate (xs.length+1) 0).flatMap fS),fL fS d 2 1 xs],fun _ _=>True)),([1,5,7],(fun(d,e,f)=>[blk f 181 (L4 d e (xs.length+1)),blk e 2 ((List.replicate (xs.length+1) 0).flatMap fS),fL fS d 2 1 xs],fun _ _=>True))] (Zg,0,0) (fun(d,e,f)=>(3,Zc) :: (2,(Zb f)) :: (31,(Zb f)) :: (30,(Ht d e (xs.length+1))) :: (29,(Zd e (xs.length+1))) :: (28,(Za ((xs.length:Int)+1))) :: (27,(Za xs.length)) :: (26,v) :: (25,d) :: (24,v) :: _) rfl H (fun _ _=>trivial) ?_ (fun(d,e,f)=>rfl) rfl ?_
   . skip
     refine k8 rfl (fun(d,e,f) _ _=>qv rfl rfl (kC (v:=v) rfl)) (uJ rfl ⟨⟨_,_,rfl,fun(d,e,f) E D F=>vT rfl rfl (nD rfl Iy) (HR v xs E ((yx D s_ d_ hv)).any (by first|omega|(simp;omega))) (fun j _ G=>⟨(j,e,f),⟨(qV D G.2 G.1),trivial⟩,rfl,j7 rfl sT⟩)⟩,trivial,⟨_,_,rfl,fun(d,e,f) E D F=>vT rfl rfl (nD rfl Iy) (HR v xs E ((yx D s_ d_ hv)).any (by first|omega|(simp;omega))) (fun j _ G=>⟨(j,e,f),⟨(lu (qV D G.2 G.1) (List.Perm.swap _ _ _)),trivial⟩,rfl,j7 rfl sT⟩)⟩,trivial,trivial,trivial⟩ (k8 rfl (fun(d,e,f) _ _=>qv rfl rfl (kC (v:=v) rfl)) (k8 rfl (fun(d,e,f) _ _=>qv rfl rfl (E3 (v:=v) rfl yk hv)) (k8 rfl (fun(d,e,f) _ _=>qv rfl rfl (B4 rfl rfl rfl (ot o_))) (uJ rfl ⟨⟨_,_,rfl,fun(d,e,f) E D F=>p7 (cf:=fS) (z0:=0) (m:=(xs.length+1)) (c:=(xs.length+1)) rfl rfl rfl yk ti2 rfl f_ d_ (zj _) o_ o_ D (fun l _ h=>⟨(d,l,f),⟨h,trivial⟩,rfl,j7 rfl sT⟩)⟩,⟨_,_,rfl,fun(d,e,f) E D F=>p7 (cf:=fS) (z0:=0) (m:=(xs.length+1)) (c:=(xs.length+1)) rfl rfl rfl yk ti2 rfl f_ d_ (zj _) o_ o_ D (fun l _ h=>⟨(d,l,f),⟨h,trivial⟩,rfl,j7 rfl sT⟩)⟩,trivial,trivial,trivial,trivial⟩ (xN rfl ⟨trivial,trivial,trivial,(fun(d,e,f) E D F=>qv rfl rfl (Ag (pvs:=[(0,d),(1,(Zd e (xs.length+1)))]) (v:=.agg #[d,(Zd e (xs.length+1)),Zc]) rfl (jk [(0,[d]),(1,(o5 e (xs.length+1)))] SU acg rfl ⟨rfl,(cells_one (yw D (i:=1) rfl)),rfl,rfl,trivial⟩ rfl))),trivial,trivial⟩ (uJ rfl ⟨trivial,trivial,trivial,⟨_,_,rfl,fun(d,e,f) E D F=>E8 (v:=(Ht d e (xs.length+1))) (cs:=(L4 d e (xs.length+1))) rfl rfl rfl D (fun s _ h=>⟨(d,e,s),⟨h,trivial⟩,rfl,j7 rfl sT⟩)⟩,trivial,trivial⟩ ?_)))))))
     refine k8 rfl (fun(d,e,f) _ _=>qv rfl rfl (sW (v:=(Zb f)) rfl)) (k8 rfl (fun(d,e,f) _ _=>qv rfl rfl (sW (v:=Zc) rfl)) ?_)
     exact JP
   rintro⟨d,e,f⟩ t u -
   have n:St _ [blk f 181 [d,(.slice (some ⟨e,0,none⟩) (xs.length+1) (xs.length+1)),(.int .i64 0)],fL fS (.slice (some ⟨e,0,none⟩) (xs.length+1) (xs.length+1)) 2 1 (List.replicate (xs.length+1) 0),fL fS d 2 1 xs] t:=lR (cf:=fS) u (i:=1) rfl f_ (zj _) (by simp only[maxLen];omega)
   generalize (Value.slice (some ⟨e,0,none⟩) (xs.length+1) (xs.length+1))=o at n ⊢
   refine qO tt none n 2 ?_
   refine iw (v:=(Zb f)) (v' := Zc) Tryz.results49 rfl rfl ?_
   have x:=yg [0,2,1] n
   have y:=yv 2 x rfl (congrArg (fL fS o 2 1) (PD.symm))
   exact⟨f,d,o,rfl,tL (yr (p:=zI xs []) (yc [_,_,_] _ y) ⟨hs,L,d_⟩) s_⟩
theorem YV(v:Value)(xs:List Int)(w:World)(hv:gU 1 fS (fun _=>True) w v xs)(d:xs.length=2)(hb:fJ xs 1<=fJ xs 0) :
 CR ya 49 #[v] w (fun r w' => r = .tuple #[.pointer none,.int .i64 2]/\gw [] w w'):=by
 refine en Tryz.func49 Tryz.ntmps49 ?_
 have c:=yu w
 refine fR c 10 ?_
 refine jX (v:=v) rfl rfl yk hv (cmp rfl rfl rfl (nX o_) (gE c 12 ?_))
 refine qi 1 (iz (fR c 5 ?_))
 refine jX (v:=v) rfl rfl yk hv (cmp rfl rfl rfl (oF o_) (gI c 11 fun b a=>?_))
 refine iD (k:=1) (i:=1) rfl rfl rfl yk ti2 hv o_ o_ (gB o_) (fK a 4 ?_)
 refine iD (k:=0) (i:=0) rfl rfl rfl yk ti2 hv o_ o_ (gB o_) (fK a 1 ?_)
 refine cmp rfl rfl rfl (um o_) (fQ a 15 ?_)
 refine iw (v:=Zt) (v' := (.int .i64 2)) Tryz.results49 rfl rfl ?_
 exact⟨rfl,a.gy s_⟩
end
section
open Go Go.Sx
abbrev Vk.si(k:Vk)(T:Int)(j:Nat):List Nat:=((k.iJ T).take j).map Gp.s
theorem Vk.IK{k:Vk}{T:Int}{j:Nat}:(k.si T j).length<=j:=by rw[zn,zy];omega
theorem YU(F S hb:Nat)(U V:Value)(bs:List Int)(T:Int)(k:Vk)(w:World)(hO:Own (DK k F T S hb U V bs) w) :
 CR ya 50 (GS k k.K.length F S) w (fun r w' => r = .tuple #[]/\∃ x:List Nat,x=k.si T (k.iJ T).length/\fZ (DK k F T S hb U V bs) w w' (gj [Vk.R k,(gj [blk F 2 (Ze T),blk S 120 (Zh hb),(pU.R hb U V bs x)])])):=by
 refine en Tryz.func50 Tryz.ntmps50 ?_
 have Z:=Own.of hO
 have Y:=pP Z
 have ag:=Y.n
 have ac:=(jO Z).unpack
 have o:=yg [8,0,1,2,3,4,5,6,7] ac
 have g:=yz o
 have ae:=Vk.Co (k:=k) (T:=T)
 refine fR g 2 ?_
 refine gW g (fun a q G H b=>?_)
 refine fK b 7 ?_
 refine cl OU (ND k.cb k.K.length k.es k.c q (yf b 10 rfl) o_ o_ T) ?_
 rintro _ I ⟨d,rfl,X⟩
 have t:=yg [10,0,1,2,3,4,5,6,7,8,9,11] b
 have e:=yz (yn 0 t X)
 refine jb (m:=(k.iJ T).length) 1 rfl rfl Bw e rfl ?_
 have u:=yg [3,4,5,1,2,6,7,8,9,10,11,0,12] e
 refine gE e 4 ?_
 refine lp (α:=Nat) (fun i=>[(1,(Zb F)),(2,(Zb S)),(3,(Zb a)),(9,d),(10,(Za ((k.iJ T).length:Int))),(11,(Za i))]) (fun i w1=>St [(w,(DK k F T S hb U V bs).gG)] (L6 F T S hb U V bs (k.si T i) d (k.iJ T) a k k.K.length (fU k.es k.K.length k.f)) w1/\i<=(k.iJ T).length) (fun i=>(k.iJ T).length-i) 0 ⟨rfl,rfl,rfl,rfl,rfl,gp rO,trivial⟩ (⟨u,o_⟩) ?_
 rintro i J L ⟨W,hi⟩
 have af:=Vk.IK (k:=k) (T:=T) (j:=i)
 refine fR W 2 ?_
 by_cases M:((i:Int):Int)<(((k.iJ T).length:Int):Int)
 . have ab:i<(k.iJ T).length:=by omega
   refine fK W 13 ?_
   refine iM W (fun N O P Q v=>?_)
   refine gI v 7 fun y h=>?_
   refine cl XB (YN hb U V bs (k.si T i) y (yf h 3 rfl) (fJ (k.iJ T) i).s o_) ?_
   rintro _ z ⟨rfl,X⟩
   have l:=yn 3 h X
   refine fQ l 7 ?_
   refine tN (?_)
   have A:=yg [1,2,3,4,5,6,7,8,9,10,11,12,13] l
   have ad:=Bj Gp.s ab
   have B:St [(w,(DK k F T S hb U V bs).gG)] (L6 F T S hb U V bs (k.si T (i+1)) d (k.iJ T) a k k.K.length (fU k.es k.K.length k.f)) z:=by show St _ (_ :: _ :: pU.R _ _ _ _ (((k.iJ T).take (i+1)).map Gp.s) :: _) _;rw[ad];exact A
   exact again (i+1) ⟨rfl,rfl,rfl,rfl,rfl,gp rO,trivial⟩ (⟨B,o_⟩) (by show ((k.iJ T).length-(i+1):Nat)<(k.iJ T).length-i;omega)
 . refine fQ W 9 ?_
   refine iO Tryz.results50 ?_
   have aa:i=(k.iJ T).length:=by omega
   have C:=yc [_,_,_] _ W
   have D:=yg [3,4,5,6,7,8,9,10,0,1,2] C
   have E:=yr (p:=Vk.ok k) (yc [_,_,_,_,_,_,_,_] _ D) Y
   exact⟨rfl,k.si T i,by rw[aa],yj (yc [_,_] _ E)⟩
theorem ag2(c:WC)(F Y:Nat)(s:WW)(xv:Value)(xs:List Int)(w:World)(hO:Own (MB F Y c s xv xs) w)(ac:c.fO<=12)(ae:xs.Pairwise fun a b=>a<b)(af:xs.length<=1024)(T:Int) :
 CR ya 15 #[(Zb F),(Za T),xv] w (fun r w' => ∃ (k:Vk) (v:Value),r = .tuple #[v,.int .i64 0]/\Vk.of s k/\fZ (MB F Y c s xv xs) w w' (gj [blk F 89 (GL Y (IntKind.u64.wrap (s.added+s.jr)) k k.K.length),Vk.R k,(WW.R c Y s),fL fS xv 2 1 xs,fL fS v 2 1 (jJ xs (k.si T (k.iJ T).length))])):=by
 refine en Tryz.func15 Tryz.ntmps15 ?_
 have aa:=(yt hO).unpack
 refine fR aa 2 ?_
 refine gW aa (fun e t P Q i=>?_)
 refine fK i 8 ?_
 refine cl vG (wB F Y _ t (yf i 1 rfl)) ?_
 rintro _ u ⟨rfl,Z⟩
 have j:=yn 1 i Z
 refine fK j 9 ?_
 refine cl OW (YW xv xs u (y0 j 3 rfl).any ae af) ?_
 rintro _ S ⟨d,g,h,rfl,Z⟩
 have o:=(jN j Z)
 refine fK o 3 ?_
 refine iM o (fun f U V W y=>?_)
 refine gI y 17 fun z A=>?_
 refine lW (vf:=[]) (vc:=(Z5 e f)) rfl rfl rfl ?_
 have B:=yg [2,0,1,3,4,5] A
 have C:=yc [_,_,_] _ B
 have D:=yg [1,2,0,3] C
 have p:=yc [_,_,_] _ D
 refine cl Ci (TC c F Y s z (gj [blk e 2 (Ze T),blk f 120 (Zh d),(pU.R d g h xs [])]) (fun x:List Nat=>gj [blk e 2 (Ze T),blk f 120 (Zh d),(pU.R d g h xs x)]) (fun k x=>x=k.si T (k.iJ T).length) 50 (Z5 e f) XA (fun k w1 ag hO=>YU e f d g h xs T k w1 hO) (yf p 0 rfl) ac) ?_
 rintro _ E ⟨l,G,rfl,H,I⟩
 have J:=(yi p I)
 have L:=yg [3,0,1,2,4] J
 have m:=yz L
 refine fK m 5 ?_
 refine cl XC (YP d g h xs G E (yf m 2 rfl)) ?_
 rintro _ X ⟨n,rfl,Z⟩
 have M:=yg [2,0,1,3,4,5,6] m
 have q:=yz (yn 0 M Z)
 refine fQ q 5 ?_
 refine iw (v:=n) (v' := Zc) Tryz.results15 rfl rfl ?_
 have N:=yg [4,5,6,7,1] q
 obtain⟨ab,ad⟩:=H
 have O:=yv 4 N rfl (congrArg (fL fS n 2 1) (show _=(jJ xs (l.si T (l.iJ T).length)) by rw[ad]))
 exact⟨l,n,rfl,ab,yj (yc [_,_,_,_,_] _ O)⟩
theorem ag1(t x:Nat)(cs:List Value)(u:Value)(xs:List Int)(w:World)(z:Own (gj [blk t 89 ((Zb x) :: cs),fL fS u 2 1 xs]) w)(C:xs.length=2)(B:fJ xs 1<=fJ xs 0)(T:Int) :
 CR ya 15 #[(Zb t),(Za T),u] w (fun r w' => r = .tuple #[.slice none 0 0,.int .i64 2]/\fZ (gj [blk t 89 ((Zb x) :: cs),fL fS u 2 1 xs]) w w' (gj [blk t 89 ((Zb x) :: cs),fL fS u 2 1 xs])):=by
 refine en Tryz.func15 Tryz.ntmps15 ?_
 have y:=(yt z).unpack
 refine fR y 2 ?_
 refine gW y (fun j d k l a=>?_)
 refine fK a 8 ?_
 refine cl vG (wB t x _ d (yf a 1 rfl)) ?_
 rintro _ e ⟨rfl,A⟩
 have b:=yn 1 a A
 refine fK b 9 ?_
 refine cl OW (YV u xs e (y0 b 2 rfl).any C B) ?_
 rintro _ m ⟨rfl,f⟩
 have c:=yo b f
 refine fK c 3 ?_
 refine iM c (fun n o p q g=>?_)
 refine jT g 21 fun s h=>?_
 refine iw (v:=Zg) (v' := (.int .i64 2)) Tryz.results15 rfl rfl ?_
 have i:=yg [2,3] h
 exact⟨rfl,yj (yc [_,_] _ i)⟩
end
section
open Go Go.Sx
theorem abm(lv:Value)(xs:List Mw)(w:World)(R:gU 5 Mw.cells (fun _=>True) w lv xs)(ad:∀ x∈xs,x.mv.ok) :
 CR ya 6 #[lv] w (fun r w' => ∃ (X W:Nat) (s:WW),r = .tuple #[.pointer (some ⟨X,0,none⟩),.pointer (some ⟨W,0,none⟩),.bool true]/\fZ (gj []) w w' (L5 cG X s W)):=by
 refine en Tryz.func6 Tryz.ntmps6 ?_
 have V:=yu w
 have ah:=R.len
 refine fR V 9 ?_
 refine i7 (pvs:=[(0,(.int .i64 20)),(1,(.int .i64 40)),(2,w6),(3,(.int .i64 60))]) (v:=.agg #[(.int .i64 20),(.int .i64 40),w6,(.int .i64 60)]) rfl rfl (jk [(0,[(.int .i64 20)]),(1,[(.int .i64 40)]),(2,[w6]),(3,[(.int .i64 60)])] C8 RF rfl ⟨rfl,rfl,rfl,rfl,rfl,rfl,rfl,rfl,trivial⟩ rfl) (cl OG (TH cG w d_ d_ d_ d_ d_ d_ d_) ?_)
 rintro _ q ⟨c,m,rfl,i,O⟩
 have j:=(jN V O)
 refine fK j 20 ?_
 refine cl OH (Tv cG c m q (yf j 0 rfl)) ?_
 rintro _ D ⟨d,rfl,O⟩
 have n:=yz (yn 0 j O)
 refine gE n 24 ?_
 refine lp (α:=Nat×WW) (fun(k,s)=>[(0,lv),(5,(Zb c)),(7,(Zb d)),(8,(Za k))]) (fun(k,s) w1=>St [(w,[])] (Mn cG c s d) w1/\sQ cG s k/\k<=xs.length/\k<=60) (fun(k,s)=>60-k) (0,m) ⟨rfl,rfl,rfl,gp rO,trivial⟩ (⟨n,sQ.start i.1 i.2.1 i.2.2,o_,o_⟩) ?_
 rintro⟨k,s⟩ E G ⟨N,Q,ae,ag⟩
 have ab:=(tw (yf N 0 rfl)).1
 have aa:=ab.n0
 have al:=Q.now
 have am:=Q.added
 refine fR N 5 ?_
 refine jX (v:=lv) rfl rfl Tryz.underlying22 R ?_
 by_cases H:((k:Int):Int)<((xs.length:Int):Int)
 . refine fK N 3 ?_
   by_cases I:((k:Int):Int)<(60:Int)
   . refine gE N 10 ?_
     obtain⟨F,Y⟩:=oI (show k<xs.length by omega)
     have P:=ad _ (zg Y)
     have T:=P.u
     have U:=P.v
     have Z:=P.wt
     have S:=P.af
     have an : -128<=F.wt/\F.wt<=127:=Z
     have ac:=P.Cc aa o_
     have aj:0<=F.u/\F.u<=255:=T
     have ak:0<=F.v/\F.v<=255:=U
     have ai:0<=F.af/\F.af<=255:=S
     refine kV mixed [([0,2,3,4,5,6,7,8,1],[6])] [9,10] N (fun t g=>jM ?_)
     refine fK g 6 ?_
     refine rem (a:=F.af) (b:=4) (e:=F.af%4) rfl rfl rfl d_ (yP S.1) (fK g 1 ?_)
     refine cl Xh (ahn cG c s t (yf g 0 rfl)) ?_
     rintro _ y ⟨rfl,O⟩
     have f:=yn 0 g O
     refine fQ f 1 ?_
     refine kL (kW ?_)
     refine gE f 14 ?_
     cases J:(F.wa:Bool)
     . skip
       refine nI f 10 fun z h=>?_
       refine rem (a:=F.u) (b:=12) (e:=F.u%12) rfl rfl rfl d_ (yP T.1) (fK h 6 ?_)
       refine rem (a:=F.v) (b:=12) (e:=F.v%12) rfl rfl rfl d_ (yP U.1) (fK h 8 ?_)
       refine i7 (pvs:=[(0,(Zn (F.u%12))),(1,(Zn (F.v%12))),(2,(Za F.wt)),(3,(Za (s.now+(F.af%4))))]) (v:=.agg #[(Zn (F.u%12)),(Zn (F.v%12)),(Za F.wt),(Za (s.now+(F.af%4)))]) rfl rfl (jk [(0,(Zq (F.u%12))),(1,(Zq (F.v%12))),(2,(Ze F.wt)),(3,(Ze (s.now+(F.af%4))))] uP Ft rfl ⟨rfl,rfl,rfl,rfl,rfl,rfl,rfl,rfl,trivial⟩ rfl) (cl Ez (ag5 cG c s z (yf h 0 rfl) (F.mv.Cc s.now) ac (by show s.now<=s.now+F.af%4;omega) (by show s.now+F.af%4<=1000000;omega) o_) ?_)
       rintro _ K ⟨L,A,rfl,B,O⟩
       have o:=yn 0 h O
       refine fQ o 8 ?_
       refine tN (?_)
       exact again ((k+1),A) ⟨rfl,rfl,rfl,gp rO,trivial⟩ (⟨o,Q.next B (by show s.now+F.af%4<=s.now+3;omega) (by show 0<=F.u%12/\F.u%12<12;omega) (by show 0<=F.v%12/\F.v%12<12;omega),o_,o_⟩) (by show (60-(k+1):Nat)<60-k;omega)
     . skip
       refine fR f 6 ?_
       refine cl OP (TN cG c s y (yf f 0 rfl) (s.now+F.af%4) o_ o_) ?_
       rintro _ M ⟨C,rfl,l,O⟩
       have p:=yn 0 f O
       refine fQ p 15 ?_
       refine tN (?_)
       exact again ((k+1),C) ⟨rfl,rfl,rfl,gp rO,trivial⟩ (⟨p,Q.tick l.1 o_ l.2.1 l.2.2.1,o_,o_⟩) (by show (60-(k+1):Nat)<60-k;omega)
   . refine fQ N 20 ?_
     refine tD (v:=(Zb c)) (v' := (Zb d)) (v'' := Zf) Tryz.results6 rfl rfl rfl ?_
     exact⟨c,d,s,rfl,nO (yc [_,_] _ N)⟩
 . refine fQ N 23 ?_
   refine tD (v:=(Zb c)) (v' := (Zb d)) (v'' := Zf) Tryz.results6 rfl rfl rfl ?_
   exact⟨c,d,s,rfl,nO (yc [_,_] _ N)⟩
end
section
open Go Go.Sx
theorem Kl(v:Value)(e:TypeId)(ys:List Int):ic .i64 v e ys=fL fS v e 1 ys:=by
 have h:ys.map (Value.int .i64)=ys.flatMap fS:=by
  induction ys with
  | nil=>rfl
  | cons y ys a=>rw[kf,zx,a];rfl
 show row v e 1 ys.length (ys.map (.int .i64))=row v e 1 ys.length (ys.flatMap fS)
 rw[h]
abbrev Vk.S(k:Vk)(T:Int):List Nat:=k.si T (k.iJ T).length
abbrev Vk.C(k:Vk)(T:Int):List Vg:=k.cls T (k.iJ T).length
theorem Vk.CS{k:Vk}{T:Int}:(k.C T).map Vg.s=k.S T:=by
 unfold Vk.C Vk.S Vk.cls Vk.si
 rw[Dy]
 rfl
theorem Vk.TQ{k:Vk}{T:Int}:(k.C T).length=(k.S T).length:=by rw[<-Vk.CS,zn]
theorem Vk.LP{k:Vk}{T:Int}{i:Nat}(h:i<(k.C T).length):fJ (k.S T) i=(fJ (k.C T) i).s:=by
 refine jf ?_
 rw[<-Vk.CS,lK,gB h]
 rfl
theorem N3{l:List Nat}{i:Nat}(h:i<l.length):l.drop i=fJ l i :: l.drop (i+1):=by
 rw[yS h,jf (zk h)]
theorem Ya(h l:Value)(ys:List Int)(w:World)(m:gU 1 fS (fun _=>True) w h ys)(hb:gU 1 fS (fun _=>True) w l ys)(n:ys.length<=1000000) :
 CR ya 16 #[h,l] w (fun r w' => r = .bool true/\gw [] w w'):=by
 refine en Tryz.func16 Tryz.ntmps16 ?_
 have k:=yu w
 refine fR k 9 ?_
 refine jX (v:=h) rfl rfl yk m (fK k 1 ?_)
 refine jX (v:=l) rfl rfl yk hb (cmp rfl rfl rfl (oH (Eq.refl _)) (gE k 12 ?_))
 refine lp (α:=Nat) (fun i=>[(0,h),(1,l),(5,(Za i))]) (fun i w1=>St [(w,[])] [] w1/\i<=ys.length) (fun i=>ys.length-i) 0 ⟨rfl,rfl,gp rO,trivial⟩ (⟨k,o_⟩) ?_
 rintro i b c ⟨j,hi⟩
 refine fR j 5 ?_
 refine jX (v:=h) rfl rfl yk m ?_
 by_cases d:((i:Int):Int)<((ys.length:Int):Int)
 . obtain⟨e,f⟩:=oI (show i<ys.length by omega)
   refine gI j 18 fun g a=>?_
   refine cmp rfl rfl rfl (oH (Eq.refl _)) (fQ a 11 ?_)
   refine tN (?_)
   exact again (i+1) ⟨rfl,rfl,gp rO,trivial⟩ (⟨a,o_⟩) (by show (ys.length-(i+1):Nat)<ys.length-i;omega)
 . refine fQ j 15 ?_
   refine gq (v:=Zf) Tryz.results16 rfl ?_
   exact⟨rfl,j.gy s_⟩
theorem PB {bs:List Int}{L l:List Nat}{x:Nat}(h:L=x :: l):fN (jJ bs L) (mq bs (x:Int)) (fun _=>fJ (jJ bs L) (mq bs (x:Int))-1)=jJ bs l:=by
 subst h
 exact YX
theorem PI(lv:Value)(xs:List Mw)(T a0 b0 c0:Int){o:Obj}(w:World)(hl:gU 5 Mw.cells (fun _=>True) w lv xs)(a3:∀ x∈xs,x.mv.ok)(ha:0<=a0/\a0<=255)(hb:0<=b0/\b0<=255)(hc:0<=c0/\c0<=255)(hT:(jL o).holds w) :
 CR ya 4 #[lv,(Za T),(.int .u8 a0),(.int .u8 b0),(.int .u8 c0)] w (fun r w' => r = .bool true/\gw [] w w'):=by
 refine en Tryz.func4 Tryz.ntmps4 ?_
 have aU:=yu w
 refine fR aU 8 ?_
 refine cl XG (abm lv xs w hl a3) ?_
 rintro _ ar ⟨u,p,h,rfl,ht⟩
 have y:=yz (jN aU ht)
 refine fK y 22 ?_
 refine rem (a:=a0) (b:=4) (e:=a0%4) rfl rfl rfl d_ (yP ha.1) (fK y 2 ?_)
 refine rem (a:=b0) (b:=4) (e:=b0%4) rfl rfl rfl d_ (yP hb.1) (fK y 3 ?_)
 refine rem (a:=c0) (b:=4) (e:=c0%4) rfl rfl rfl d_ (yP hc.1) (fK y 2 ?_)
 refine jF (vs:=[(Za (a0%4)),(Za (4+(b0%4))),(Za (8+(c0%4)))]) (cs:=[(Za (a0%4)),(Za (4+(b0%4))),(Za (8+(c0%4)))]) rfl rfl yk ti2 rfl (by simp[Value.cells]) rfl rfl rfl y ?_
 intro t R au av E
 have U:=yv 0 E rfl (Kl (Z1 t) 2 ([a0%4,4+(b0%4),8+(c0%4)]))
 obtain⟨F,aO⟩:∃ F:List Int,[a0%4,4+(b0%4),8+(c0%4)]=F:=⟨_,rfl⟩
 have V:=yv 0 U rfl (congrArg (fL fS (Z1 t) 2 1) (aO))
 have aT:F.Pairwise fun a b=>a<b:=by rw[<-aO];simp;omega
 have aV:F.length=3:=by rw[<-aO];rfl
 have W:=yg [2,1,0] V
 have G:=yc [_,_,_] _ W
 refine fK E 8 ?_
 refine cl Oi (ag2 cG p u h (Z1 t) F R (yf G 0 rfl) d_ aT o_ T) ?_
 rintro _ Y ⟨c,g,rfl,Z,aa⟩
 have z:=(yi G aa)
 have aZ:=Z
 refine fK z 14 ?_
 refine jb (m:=(jJ F (c.S T)).length) 4 rfl rfl yk z rfl (cmp rfl rfl rfl (oH (by rw[s9,aV];rfl)) ?_)
 have H:=yc [_,_,_] _ z
 refine fK z 10 ?_
 refine cl V7 (agX cG p u h c aZ 1 Y (yf H 0 rfl) T) ?_
 rintro _ aw ⟨A,rfl,ab⟩
 have I:=(yi H ab)
 have ac:=yg [0,1,2,4,5,3] I
 have ad:=yv 4 ac rfl (congrArg (fL fS g 2 1) (rfl))
 have aW:=Vk.TQ (k:=c) (T:=T)
 refine gE I 10 ?_
 refine lp (α:=Nat) (fun i=>[(1,(Za T)),(12,(Zb p)),(14,(Z1 t)),(15,g),(17,A),(18,(Za i))]) (fun i w1=>St [(w,[])] (LV p u (IntKind.u64.wrap (h.added+h.jr)) c c.K.length cG h t F g (jJ F ((c.S T).drop i)) A (c.C T)) w1/\i<=(c.C T).length) (fun i=>(c.C T).length-i) 0 ⟨rfl,rfl,rfl,rfl,rfl,gp rO,trivial⟩ (⟨ad,o_⟩) ?_
 rintro i ax ay ⟨aN,hi⟩
 have a5:=s9 (bs:=F) (l:=(c.S T).drop i)
 have aR:=(show Vk.ok c from y8 aN (i:=1) rfl).n
 have a4:(c.C T).length<=12:=kg Vk.NQ (kg Vk.Co aR)
 refine fR aN 5 ?_
 refine jb (m:=(c.C T).length) 5 rfl rfl Gl aN rfl ?_
 by_cases az:((i:Int):Int)<(((c.C T).length:Int):Int)
 . refine gE aN 15 ?_
   refine lp (α:=Nat) (fun p9=>[(1,(Za T)),(12,(Zb p)),(14,(Z1 t)),(15,g),(17,A),(18,(Za i)),(19,(Za p9))]) (fun p9 w1=>St [(w,[])] (LV p u (IntKind.u64.wrap (h.added+h.jr)) c c.K.length cG h t F g (jJ F ((c.S T).drop i)) A (c.C T)) w1/\p9<=3/\∀ q,q<p9->fJ F q<=((fJ (c.C T) i).s:Int)) (fun p9=>3-p9) 0 ⟨rfl,rfl,rfl,rfl,rfl,rfl,gp rO,trivial⟩ (⟨aN,o_,fun q hq=>absurd hq o_⟩) ?_
   rintro p9 aA aB ⟨a2,a6,aS⟩
   refine nI a2 4 fun aC d=>?_
   by_cases aD:((p9:Int):Int)<(3:Int)
   . refine fK d 5 ?_
     refine iY (cf:=fS) rfl rfl pN rfl (y0 d 3 rfl) (gB om) rfl (fK d 4 ?_)
     refine iY (cf:=Vg.cells) rfl rfl ye rfl (y0 d 5 rfl) (gB om) rfl ?_
     by_cases aE:((fJ F p9):Int)<=(((fJ (c.C T) i).s:Int):Int)
     . refine fQ d 14 ?_
       refine tN (?_)
       exact again (p9+1) ⟨rfl,rfl,rfl,rfl,rfl,rfl,gp rO,trivial⟩ (⟨d,o_,fun q hq=>(Nat.lt_or_eq_of_le (Nat.lt_succ_iff.1 hq)).elim (aS q) (fun e=>by rw[e];omega)⟩) (by show (3-(p9+1):Nat)<3-p9;omega)
     . have aQ:p9=mq F ((fJ (c.C T) i).s:Int):=Ns aT aS o_ o_
       have aP:(c.S T).drop i=(fJ (c.C T) i).s :: (c.S T).drop (i+1):=by rw[<-Vk.LP o_];exact N3 o_
       have aY:=IS (bs:=F) (l:=(c.S T).drop i) (j:=p9) o_
       have a1:((c.S T).drop i).length<=1000:=by rw[uZ];exact kg (Nat.sub_le _ _) (kg Vk.IK (kg Vk.Co (kg aR d_)))
       refine fK d 14 ?_
       refine iY (cf:=fS) rfl rfl pN rfl (y0 d 4 rfl) (gB om) rfl (fK d 2 ?_)
       refine iK (f:=(fun _=>(fJ (jJ F ((c.S T).drop i)) p9)-1)) 4 d (fun aF J=>?_)
       refine fQ J 8 ?_
       refine tN (?_)
       have ae:=yv 4 J rfl (congrArg (fL fS g 2 1) (show _=(jJ F ((c.S T).drop (i+1))) by rw[aQ];exact PB aP))
       exact again (i+1) ⟨rfl,rfl,rfl,rfl,rfl,gp rO,trivial⟩ (⟨ae,o_⟩) (by show ((c.C T).length-(i+1):Nat)<(c.C T).length-i;omega)
   . have aQ:p9=mq F ((fJ (c.C T) i).s:Int):=Ns aT aS o_ o_
     have aP:(c.S T).drop i=(fJ (c.C T) i).s :: (c.S T).drop (i+1):=by rw[<-Vk.LP o_];exact N3 o_
     have aY:=IS (bs:=F) (l:=(c.S T).drop i) (j:=p9) o_
     have a1:((c.S T).drop i).length<=1000:=by rw[uZ];exact kg (Nat.sub_le _ _) (kg Vk.IK (kg Vk.Co (kg aR d_)))
     refine fK d 25 ?_
     refine iY (cf:=fS) rfl rfl pN rfl (y0 d 4 rfl) (gB om) rfl (fK d 2 ?_)
     refine iK (f:=(fun _=>(fJ (jJ F ((c.S T).drop i)) p9)-1)) 4 d (fun aG L=>?_)
     refine fQ L 8 ?_
     refine tN (?_)
     have af:=yv 4 L rfl (congrArg (fL fS g 2 1) (show _=(jJ F ((c.S T).drop (i+1))) by rw[aQ];exact PB aP))
     exact again (i+1) ⟨rfl,rfl,rfl,rfl,rfl,gp rO,trivial⟩ (⟨af,o_⟩) (by show ((c.C T).length-(i+1):Nat)<(c.C T).length-i;omega)
 . refine fK aN 13 ?_
   refine jF (vs:=[(.int .i64 3),(.int .i64 3)]) (cs:=[(.int .i64 3),(.int .i64 3)]) rfl rfl yk ti2 rfl (by simp[Value.cells]) rfl rfl rfl aN ?_
   intro M ag aH aI ah
   have ai:=yv 0 ah rfl (Kl (uf M) 2 ([3,3]))
   have aj:=yg [1,0,2,3,4,5,6] ai
   have N:=yc [_,_] _ aj
   refine cl Oi (ag1 p u _ (uf M) [3,3] ag (yf N 0 rfl) rfl d_ T) ?_
   rintro _ aJ ⟨rfl,ak⟩
   have O:=(yi N ak)
   refine fK O 10 ?_
   refine jF (vs:=MT) (cs:=MT) rfl rfl yk ti2 rfl (by simp[Value.cells]) rfl rfl rfl O ?_
   intro P al aK aL am
   have an:=yv 0 am rfl (Kl (LW P) 2 ([0,0,0,0]))
   have aX:i=(c.C T).length:=by omega
   have B:=yv 6 an rfl (congrArg (fL fS g 2 1) (show _=[0,0,0,0] by rw[aX,aW,List.drop_length,PD,aV];rfl))
   refine cl Wx (Ya g (LW P) [0,0,0,0] al (y0 B 6 rfl).any (y0 B 0 rfl).any d_) ?_
   rintro _ ao ⟨rfl,ap⟩
   have D:=yo B ap
   refine fK D 5 ?_
   refine cl Wm (aho ao (St.xB D (X:=[]) s_ hT s_)) ?_
   rintro _ aM ⟨rfl,aq⟩
   have Q:=yo D aq
   refine fQ Q 5 ?_
   refine gq (v:=Zf) Tryz.results4 rfl ?_
   exact⟨rfl,Q.gy s_⟩
end
end Go.Proofs.YtoceanggliccgaaGreatDoor
