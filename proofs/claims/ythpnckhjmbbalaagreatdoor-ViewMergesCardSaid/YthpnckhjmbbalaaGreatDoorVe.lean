/- What the functions that the statements reach do: walks through the code of the program and of the references, one theorem a function; under what is said of its arguments. -/
import Derived.Test.YthpnckhjmbbalaaGreatDoorFb
import Derived.Test.YthpnckhjmbbalaaGreatDoorVa
import Derived.Test.YthpnckhjmbbalaaGreatDoorFd
import Derived.Test.YthpnckhjmbbalaaGreatDoorVd
import Derived.Test.YthpnckhjmbbalaaGreatDoorFa
import Derived.Ground.SlsfProg
import Derived.Shelf.SlSortCmp.NoneTotal
import Derived.Test.YthpnckhjmbbalaaGreatDoorProg
import Derived.Test.YthpnckhjmbbalaaGreatDoorFc
import Derived.Test.YthpnckhjmbbalaaGreatDoorVb
set_option linter.unusedVariables false
set_option linter.unusedSimpArgs false
set_option maxRecDepth 100000
set_option maxHeartbeats 4000000
namespace Go.Proofs.YthpnckhjmbbalaaGreatDoor
section
open Go Go.Sx
theorem Y4:ya.eqGuardType ya.depth 145=false:=by kernel_rfl
theorem agd(c:WC)(w:World)(w1:1<=c.win)(wi:c.win<=1000000)(e1:1<=c.fL)(en:c.fL<=16384)(v2:2<=c.fN)(vn:c.fN<=4096)(d0:0<=c.kK/\c.kK<=16384) :
 CR ya 34 #[(D5 c.win c.fL c.fN c.kK),sP] w (fun r w' => ∃ (wb:Nat) (s:WW),r = .tuple (Z2 wb)/\(s.now=0/\s.added=0/\∀ y,¬ s.u.has y)/\fZ (gq []) w w' (WW.R c wb s)):=by
 refine enter Tryz.func34 rfl Tryz.ntmps34 rfl ?_
 have T:=yt w
 refine fR T 2 ?_
 refine iF T (fun X A Y Z k=>?_)
 refine fK k 8 ?_
 refine cl X4 (af8 ⟨c.win,(c.fL:Int),(c.fN:Int),c.kK⟩ A w1 (by show _/\_;dsimp only;omega) (by show _/\_;dsimp only;omega) d0) ?_
 rintro _ aa ⟨rfl,B⟩
 have l:=yq k B
 refine fK l 8 ?_
 refine iR l (fun ab ac ad ae m=>?_)
 refine fK m 7 ?_
 refine ji (pvs:=[(0,(D5 c.win c.fL c.fN c.kK)),(5,sP),(6,sP)]) (v:=.agg #[(Za c.win),(Za c.fL),(Za c.fN),(Za c.kK),Zs,Zs,Zs,Zs,sP,sP]) rfl rfl (jA [(0,(HN c.win c.fL c.fN c.kK)),(5,BZ),(6,BZ)] TK ac5 rfl ⟨rfl,rfl,rfl,rfl,rfl,rfl,trivial⟩ rfl) (iF m (fun n C af ag q=>?_))
 refine fK q 8 ?_
 refine cl X5 (VX c.win C w1) ?_
 rintro _ ah ⟨a,rfl,F⟩
 have D:=(ki q F)
 refine gO D 6 fun ai E=>?_
 refine jL (o:=0) (o' := 0) (i:=0) rfl rfl rfl zJ zF d_ rfl (gO E 11 fun G H=>?_)
 refine cl X6 (afJ c.fN c.fL G vn en) ?_
 rintro _ aj ⟨b,t,rfl,d,F⟩
 have I:=(ki H F)
 refine gO I 6 fun ak J=>?_
 refine jL (o:=0) (o' := 1) (i:=1) rfl rfl rfl zJ zF d_ rfl (gO J 8 fun K L=>?_)
 refine cl X7 (aeD c.fL K o_) ?_
 rintro _ al ⟨e,f,x,rfl,M,F⟩
 have N:=(ki L F)
 refine gO N 6 fun am O=>?_
 refine jL (o:=0) (o' := 2) (i:=2) rfl rfl rfl zJ zF d_ rfl (gO O 10 fun P Q=>?_)
 refine cl X8 (ZB c.fN c.fL P v2 vn en) ?_
 rintro _ an ⟨h,j,rfl,S,F⟩
 have U:=(ki Q F)
 refine gO U 6 fun ao V=>?_
 refine jL (o:=0) (o' := 3) (i:=3) rfl rfl rfl zJ zF d_ rfl (gO V 7 fun ap z=>?_)
 refine ji (pvs:=[]) (v:=.agg #[Zc,Zc,Zc,Zc]) rfl rfl (uG [] Tp zJ zF rfl trivial rfl s_) (ab0 (c:=false) rfl rfl rfl zJ Tryz.underlying28 zF Y4 rfl (fQ z 13 ?_))
 refine iH (v:=(Zb n)) (v' := Zc) Tryz.results34 rfl rfl ?_
 have W:=yg [4,3,2,1,0] z
 have aq:=WW.tQ w1 wi e1 en v2 vn (g:=j) d.1 d.2 M S a b e f h
 exact⟨n,(⟨a,b,e,f,h,0,x,t,j,0,0⟩:WW),rfl,⟨rfl,rfl,d.1⟩,vq (yp (p:=WW.ok c (⟨a,b,e,f,h,0,x,t,j,0,0⟩:WW)) (yc [_,_,_,_,_] _ W) aq) s_⟩
theorem Uf(c:WC)(w:World)(w1:1<=c.win)(wi:c.win<=1000000)(e1:1<=c.fL)(en:c.fL<=16384)(v2:2<=c.fN)(vn:c.fN<=4096)(n:0<=c.kK/\c.kK<=16384) :
 CR ya 12 (My c.win c.fL c.fN c.kK) w (fun r w' => ∃ (m:Nat) (s:WW),r = .tuple (Z2 m)/\(s.now=0/\s.added=0/\∀ y,¬ s.u.has y)/\fZ (gq []) w w' (WW.R c m s)):=by
 refine enter Tryz.func12 rfl Tryz.ntmps12 rfl ?_
 have l:=yt w
 refine fR l 2 ?_
 refine iF l (fun h e i j a=>?_)
 refine fK a 7 ?_
 refine cl XO (agd c e w1 wi e1 en v2 vn n) ?_
 rintro _ k ⟨b,f,rfl,g,o⟩
 have d:=(ki a o)
 refine fQ d 7 ?_
 refine iH (v:=(Zb b)) (v' := Zc) Tryz.results12 rfl rfl ?_
 exact⟨b,f,rfl,g,St.eM d⟩
end
section
open Go Go.Sx
end
end Go.Proofs.YthpnckhjmbbalaaGreatDoor
namespace Go.Proofs
open Go.Shelf Go.Lib Go.Sort Go.RowKit in
def Tryz.aeM:Go.Shelf.Ren:=⟨fun|6=>186|15=>206|14=>205|28=>221|29=>222|20=>213|21=>214|22=>215|23=>216|24=>217|25=>218|26=>219|27=>220|46=>239|47=>240|48=>241|49=>242|50=>243|57=>250|n=>n,fun|22=>140|24=>107|25=>290|3=>3|39=>188|0=>0|53=>309|55=>27|4=>4|46=>313|45=>312|50=>104|5=>5|9=>9|66=>330|70=>333|76=>339|77=>340|n=>n,fun|n=>n⟩
open Go.Shelf Go.Lib Go.Sort Go.RowKit in
theorem Tryz.SX:Go.Proofs.SlLaysF0.n6 Proofs.Tryz.prog Tryz.aeM where
 mixed:=by kernel_rfl
 f6:=⟨Proofs.Tryz.f186.name,by(decide),Proofs.Tryz.func186.trans (congrArg some<|by kernel_rfl)⟩
 f14:=⟨Proofs.Tryz.f205.name,by(decide),Proofs.Tryz.func205.trans (congrArg some<|by kernel_rfl)⟩
 f15:=Proofs.Tryz.func206.trans (congrArg some<|by kernel_rfl)
 f20:=⟨Proofs.Tryz.f213.name,by(decide),Proofs.Tryz.func213.trans (congrArg some<|by kernel_rfl)⟩
 f21:=⟨Proofs.Tryz.f214.name,by(decide),Proofs.Tryz.func214.trans (congrArg some<|by kernel_rfl)⟩
 f22:=⟨Proofs.Tryz.f215.name,by(decide),Proofs.Tryz.func215.trans (congrArg some<|by kernel_rfl)⟩
 f23:=⟨Proofs.Tryz.f216.name,by(decide),Proofs.Tryz.func216.trans (congrArg some<|by kernel_rfl)⟩
 f24:=⟨Proofs.Tryz.f217.name,by(decide),Proofs.Tryz.func217.trans (congrArg some<|by kernel_rfl)⟩
 f25:=⟨Proofs.Tryz.f218.name,by(decide),Proofs.Tryz.func218.trans (congrArg some<|by kernel_rfl)⟩
 f26:=⟨Proofs.Tryz.f219.name,by(decide),Proofs.Tryz.func219.trans (congrArg some<|by kernel_rfl)⟩
 f27:=⟨Proofs.Tryz.f220.name,by(decide),Proofs.Tryz.func220.trans (congrArg some<|by kernel_rfl)⟩
 f28:=Proofs.Tryz.func221.trans (congrArg some<|by kernel_rfl)
 f29:=Proofs.Tryz.func222.trans (congrArg some<|by kernel_rfl)
 f46:=⟨Proofs.Tryz.f239.name,by(decide),Proofs.Tryz.func239.trans (congrArg some<|by kernel_rfl)⟩
 f47:=Proofs.Tryz.func240.trans (congrArg some<|by kernel_rfl)
 f48:=Proofs.Tryz.func241.trans (congrArg some<|by kernel_rfl)
 f49:=⟨Proofs.Tryz.f242.name,by(decide),Proofs.Tryz.func242.trans (congrArg some<|by kernel_rfl)⟩
 f50:=⟨Proofs.Tryz.f243.name,by(decide),Proofs.Tryz.func243.trans (congrArg some<|by kernel_rfl)⟩
 f57:=⟨Proofs.Tryz.f250.name,by(decide),Proofs.Tryz.func250.trans (congrArg some<|by kernel_rfl)⟩
 t0:=Proofs.Tryz.underlying0
 a0:=Proofs.Tryz.isAgg0
 z0:=Proofs.Tryz.sizeOf0
 v0:=Proofs.Tryz.zeroValue0
 t3:=Proofs.Tryz.underlying3
 a3:=Proofs.Tryz.isAgg3
 z3:=Proofs.Tryz.sizeOf3
 v3:=Proofs.Tryz.zeroValue3
 t4:=Proofs.Tryz.underlying4
 a4:=Proofs.Tryz.isAgg4
 z4:=Proofs.Tryz.sizeOf4
 v4:=Proofs.Tryz.zeroValue4
 t5:=Proofs.Tryz.underlying5
 a5:=Proofs.Tryz.isAgg5
 z5:=Proofs.Tryz.sizeOf5
 v5:=Proofs.Tryz.zeroValue5
 t9:=Proofs.Tryz.underlying9
 a9:=Proofs.Tryz.isAgg9
 z9:=Proofs.Tryz.sizeOf9
 v9:=Proofs.Tryz.zeroValue9
 t22:=Proofs.Tryz.underlying140
 a22:=Proofs.Tryz.isAgg140
 z22:=Proofs.Tryz.sizeOf140
 v22:=Proofs.Tryz.zeroValue140
 t25:=Proofs.Tryz.underlying290
 a25:=Proofs.Tryz.isAgg290
 z25:=Proofs.Tryz.sizeOf290
 v25:=Proofs.Tryz.zeroValue290
 t39:=Proofs.Tryz.underlying188
 a39:=Proofs.Tryz.isAgg188
 z39:=Proofs.Tryz.sizeOf188
 v39:=Proofs.Tryz.zeroValue188
 t45:=Proofs.Tryz.underlying312
 a45:=Proofs.Tryz.isAgg312
 z45:=Proofs.Tryz.sizeOf312
 v45:=Proofs.Tryz.zeroValue312
 t46:=Proofs.Tryz.underlying313
 a46:=Proofs.Tryz.isAgg313
 z46:=Proofs.Tryz.sizeOf313
 v46:=Proofs.Tryz.zeroValue313
 t50:=Proofs.Tryz.underlying104
 a50:=Proofs.Tryz.isAgg104
 z50:=Proofs.Tryz.sizeOf104
 v50:=Proofs.Tryz.zeroValue104
 t53:=Proofs.Tryz.underlying309
 a53:=Proofs.Tryz.isAgg309
 z53:=Proofs.Tryz.sizeOf309
 v53:=Proofs.Tryz.zeroValue309
 t55:=Proofs.Tryz.underlying27
 a55:=Proofs.Tryz.isAgg27
 z55:=Proofs.Tryz.sizeOf27
 v55:=Proofs.Tryz.zeroValue27
 t66:=Proofs.Tryz.underlying330
 a66:=Proofs.Tryz.isAgg330
 z66:=Proofs.Tryz.sizeOf330
 v66:=Proofs.Tryz.zeroValue330
 t70:=Proofs.Tryz.underlying333
 a70:=Proofs.Tryz.isAgg333
 z70:=Proofs.Tryz.sizeOf333
 v70:=Proofs.Tryz.zeroValue333
 t76:=Proofs.Tryz.underlying339
 a76:=Proofs.Tryz.isAgg339
 z76:=Proofs.Tryz.sizeOf339
 v76:=Proofs.Tryz.zeroValue339
 t77:=Proofs.Tryz.underlying340
 a77:=Proofs.Tryz.isAgg340
 z77:=Proofs.Tryz.sizeOf340
 v77:=Proofs.Tryz.zeroValue340
end Go.Proofs
namespace Go.Proofs.YthpnckhjmbbalaaGreatDoor
section
open Go Go.Sx Go.Lib Go.Sort Go.RowKit
theorem abR(x:Int)(w:World):Calls ya 135 (xJ x) w fun e w' => e = .returned Zn/\w' = w:=by
 go_enter Tryz.func135,Tryz.ntmps135
 go_wp2
 go_ret
 exact⟨s_,rfl⟩
theorem VS(x y:Int)(w:World):Calls ya 188 (vN x y) w fun e w' => e = .returned (Za (compareInt x y))/\w' = w:=by
 go_enter Tryz.func188,Tryz.ntmps188
 go_wp2_with (go_at_call 135;refine(abR _ _).mono ?_;rintro e w' ⟨rfl,a⟩;rw[a])
 all_goals (go_ret;refine⟨?_,rfl⟩;unfold compareInt;(repeat' split)<;>first|rfl|(exfalso;omega))
def yX(x y:Lv):Int:=compareInt x.seq y.seq
theorem VK(x y:Lv)(W:World):Calls ya 187 #[.agg x.cells.toArray,.agg y.cells.toArray] W fun e w' => e = .returned (Za (yX x y))/\∃ q c, w' = grow (W.drewN q) c := by
 have a:=fun b => VS x.seq y.seq b
 unfold yX
 generalize compareInt x.seq y.seq=r at a ⊢
 obtain⟨d,f,g,h,i,j,k⟩:=x
 obtain⟨y1,y2,l,m,n,o,p⟩:=y
 simp only[Lv.cells]at a ⊢
 go_enter Tryz.func187,Tryz.ntmps187
 go_wp2_with (go_at_call 188;refine(a _).mono ?_;rintro e w' ⟨rfl,rfl⟩)
 go_ret
 exact⟨rfl,0,_,by rw[alloc_eq_grow,alloc_eq_grow,grow_grow];rfl⟩
theorem Fp(x y:Lv):ltOf yX x y=decide (x.seq<y.seq):=by
 unfold ltOf yX compareInt
 by_cases h1:x.seq<y.seq
 . simp[h1]
 . by_cases h2:y.seq<x.seq<;>simp[h1,h2]
theorem ae6:SWO (ltOf yX) where
 irrefl x:=by rw[Fp];simp
 trans x y z h1 h2:=by rw[Fp]at *;simp at *;omega
 ntrans x y z h1 h2:=by rw[Fp]at *;simp at *;omega
theorem aeL(v:Value)(xs:List Lv)(w:World)(i:Own (fM Lv.cells v 107 7 xs) w)(m:xs.length<=1000000) :
 CR ya 186 #[v,.func (.func 187) #[] #[]] w (fun r w' => ∃ ys:List Lv,r = .tuple #[]/\(ys.Perm xs/\ys.Pairwise fun a b=>a.seq<=b.seq)/\fZ (fM Lv.cells v 107 7 xs) w w' (fM Lv.cells v 107 7 ys)):=by
 refine CR.mono (aeP (cf:=Lv.cells) (k:=7) (xs:=xs) (lt:=ltOf yX) f_ d_ i o_ (AnyF.slices_SortFunc_none (P:=ya) Tryz.SX none 0 _ w) fun blk c d g hb j=>?_) ?_
 . exact AnyQ.slices_SortFunc (P:=ya) Tryz.SX 7 Tryz.isAgg107 Tryz.sizeOf107 Lv.cells f_ (fun x v hv=>by simp[Lv.cells]at hv;rcases hv with rfl|rfl|rfl|rfl|rfl|rfl|rfl<;>rfl) yX ae6 187 #[] blk 0 c d w (enters_of Tryz.func187 k_ rfl) (fun _ _ _ _ x y=>VK x y _) g hb j
 . rintro r w' ⟨rfl,ys,e,f,l⟩
   exact⟨ys,rfl,⟨e,f.imp fun {a b} h=>by rw[Fp]at h;simpa using h⟩,l⟩
end
section
open Go Go.Sx
theorem Ue(ab:Nat)(v:AW)(w:World)(a:Own (AW.R ab v) w) :
 CR ya 185 (Zh ab) w (fun r w' => ∃ lv,r=lv/\fZ (AW.R ab v) w w' (gq [AW.R ab v,fM fW lv 3 1 (v.A.list v.A.begun)])):=by
 refine CR.mono (UU ab v.bv v.A w a.un a.fact) fun r w' ⟨lv,c,d⟩=>⟨lv,c,?_⟩
 refine((fZ.E4 (A:=(Ar ab v.bv v.A)) (B:=[ir .i64 lv 3 (gB (v.A.list v.A.begun))]) d).LB.CO (by have e:∀ l:List Nat,l++[]=l:=vH;simp only[AW.R,kE,gq,iT,z6,List.flatMap_nil,e];rfl) fun h=>?_)
 intro Q b
 simp only[zg,mz,or_false]at b
 rcases b with rfl|rfl
 . exact⟨a.fact,h _ s_⟩
 . rw[Dd f_]
   exact h _ (mT _ ze) _ s_
theorem afN(fN fL ub:Nat)(s:fU)(w:World)(Q:Own (fU.R fN fL ub s) w) :
 CR ya 167 (Zh ub) w (fun r w' => ∃ (v:Value) (ys:List Lv),r=v/\s.mB ys/\fZ (fU.R fN fL ub s) w w' (Hu fN fL ub s v ys)):=by
 have am:s.t.A.used<=s.t.A.n:=Q.fact.tok.ul
 have Y:=Q.fact.n
 have ai:=Q.fact.tn
 have ah:=Q.fact.en
 have aj:=Q.fact.vn
 have af:s.A.used<=s.A.begun:=by have V:=Q.fact.kW.used;omega
 have ad:=Q.fact.kW.le
 have ab:s.live.length=s.A.begun:=Q.fact.ll
 have ag:(s.A.list s.A.begun).length=s.A.used:=Q.fact.kW.AP
 have ae:s.A.n=fL:=Y
 refine enter (vs:=(Zi ub)) Tryz.func167 rfl Tryz.ntmps167 rfl ?_
 have X:St _ (MK ub fN fL s (some s.mb)) w:=Own.of Q.un
 have U:s.ok fN fL:=Q.fact
 have l:St _ [(fU.R fN fL ub s)] w:=yp (p:=s.ok fN fL) (yc [_,_,_,_,_,_] _ X) U
 refine fR X 9 ?_
 refine jM (vl:=(Zi ub)) rfl rfl wg (xd fN fL ub s w (kV l (i:=0) rfl)) ?_
 rintro _ e ⟨rfl,T⟩
 have B:St _ [(fU.R fN fL ub s)] e:=l8 (R' := (fU.R fN fL ub s)) 0 l rfl T rfl
 have f:St _ (MK ub fN fL s (some s.mb)) e:=(jP B).unpack
 refine fK f 18 ?_
 refine jM (vl:=(Zi s.jb)) rfl rfl OM (Ue s.jb s.aw e (kV f (i:=4) rfl)) ?_
 rintro a o ⟨_,rfl,T⟩
 have C:=yg [4,0,1,2,3,5] f
 have g:St _ [(xL s),fM fW a 3 1 (s.A.list s.A.begun),blk ub 143 (pQ fN fL s (some s.mb)),fM Lv.cells s.lv 107 7 s.live,gY s.mb .u64 p_ s.im,jF 3 s.im,(xM s)] o:=yz (l8 (R' := (gq [(xL s),fM fW a 3 1 (s.A.list s.A.begun)])) 0 C rfl T rfl)
 refine jm (m:=(s.A.list s.A.begun).length) 1 rfl rfl yd g rfl ?_
 have D:St _ [fM Lv.cells Zg 107 7 (((s.A.list s.A.begun).take 0).map (fJ s.live)),(xL s),fM fW a 3 1 (s.A.list s.A.begun),blk ub 143 (pQ fN fL s (some s.mb)),fM Lv.cells s.lv 107 7 s.live,gY s.mb .u64 p_ s.im,jF 3 s.im,(xM s)] o:=rA g 107 7
 have E:=yg [3,4,5,6,1,7,2,0] D
 refine gH g 4 ?_
 refine lp (α:=Nat×Value) (fun(k,F)=>[(0,(Zb ub)),(3,F),(13,a),(14,(Za ((s.A.list s.A.begun).length:Int))),(15,(Za k))]) (fun(k,F) w1=>St [(w,(fU.R fN fL ub s).gJ)] (MJ ub fN fL s (some s.mb) a (s.A.list s.A.begun) F (((s.A.list s.A.begun).take k).map (fJ s.live))) w1/\k<=(s.A.list s.A.begun).length) (fun(k,F)=>(s.A.list s.A.begun).length-k) (0,Zg) ⟨rfl,rfl,rfl,rfl,gr (by first|rfl|omega),trivial⟩ (⟨E,o_⟩) ?_
 rintro⟨k,F⟩ L G ⟨S,al⟩
 refine fR S 2 ?_
 by_cases M:((k:Int):Int)<(((s.A.list s.A.begun).length:Int):Int)
 . have W:k<(s.A.list s.A.begun).length:=by omega
   have ak:fJ (s.A.list s.A.begun) k<s.live.length:=by rw[ab];exact((U.kW.o7 _).1 (qV.2 ⟨k,W,rfl⟩)).1
   refine fK S 25 ?_
   refine kj (vs:=[(Ab (fJ s.live (fJ (s.A.list s.A.begun) k)))]) (cs:=(Z9 (fJ s.live (fJ (s.A.list s.A.begun) k)))) rfl rfl sF nS rfl (by simp[Value.cells]) rfl rfl rfl S ?_
   intro h H N O b
   have b:St _ (HF (row (.slice (some ⟨h,0,none⟩) 1 1) 107 7 1 ([(.int .i64 ((fJ s.live (fJ (s.A.list s.A.begun) k)).slot)),(.int .u64 ((fJ s.live (fJ (s.A.list s.A.begun) k)).seq)),(.int .u64 ((fJ s.live (fJ (s.A.list s.A.begun) k)).u)),(.int .u64 ((fJ s.live (fJ (s.A.list s.A.begun) k)).v)),(.int .i64 ((fJ s.live (fJ (s.A.list s.A.begun) k)).wt)),(.int .i64 ((fJ s.live (fJ (s.A.list s.A.begun) k)).t)),(.int .i64 ((fJ s.live (fJ (s.A.list s.A.begun) k)).exp))])) ub fN fL s (some s.mb) a (s.A.list s.A.begun) F (((s.A.list s.A.begun).take k).map (fJ s.live))) H:=b
   refine mW (cf:=Lv.cells) (ys:=(((s.A.list s.A.begun).take k).map (fJ s.live))) (zs:=[(fJ s.live (fJ (s.A.list s.A.begun) k))]) (LL:=fun c=>(HF (row (.slice (some ⟨h,0,none⟩) 1 1) 107 7 1 ([(.int .i64 ((fJ s.live (fJ (s.A.list s.A.begun) k)).slot)),(.int .u64 ((fJ s.live (fJ (s.A.list s.A.begun) k)).seq)),(.int .u64 ((fJ s.live (fJ (s.A.list s.A.begun) k)).u)),(.int .u64 ((fJ s.live (fJ (s.A.list s.A.begun) k)).v)),(.int .i64 ((fJ s.live (fJ (s.A.list s.A.begun) k)).wt)),(.int .i64 ((fJ s.live (fJ (s.A.list s.A.begun) k)).t)),(.int .i64 ((fJ s.live (fJ (s.A.list s.A.begun) k)).exp))])) ub fN fL s (some s.mb) a (s.A.list s.A.begun) c ((((s.A.list s.A.begun).take k).map (fJ s.live))++[(fJ s.live (fJ (s.A.list s.A.begun) k))]))) 8 rfl rfl rfl sF nS rfl d_ b rfl (l7 b (i:=0) rfl) (fun x hx=>zt.1 (show List.all _ _=true from rfl) x hx) (by simp only[zw,zh,zn,zq,z8,maxLen];omega) (by simp only[zw,zh,zn,zq,z8,maxLen];omega) f_ ?_
   intro c I j P
   have j:St _ (HF (row (.slice (some ⟨h,0,none⟩) 1 1) 107 7 1 ([(.int .i64 ((fJ s.live (fJ (s.A.list s.A.begun) k)).slot)),(.int .u64 ((fJ s.live (fJ (s.A.list s.A.begun) k)).seq)),(.int .u64 ((fJ s.live (fJ (s.A.list s.A.begun) k)).u)),(.int .u64 ((fJ s.live (fJ (s.A.list s.A.begun) k)).v)),(.int .i64 ((fJ s.live (fJ (s.A.list s.A.begun) k)).wt)),(.int .i64 ((fJ s.live (fJ (s.A.list s.A.begun) k)).t)),(.int .i64 ((fJ s.live (fJ (s.A.list s.A.begun) k)).exp))])) ub fN fL s (some s.mb) a (s.A.list s.A.begun) c ((((s.A.list s.A.begun).take k).map (fJ s.live))++[(fJ s.live (fJ (s.A.list s.A.begun) k))])) I:=j
   have q:=yg [1,2,3,4,5,6,7,8] j
   refine fQ q 8 ?_
   refine tN (?_)
   exact again ((k+1),c) ⟨rfl,rfl,rfl,rfl,gr (by first|rfl|omega),trivial⟩ (⟨by rw[Gg _ W];exact q,o_⟩) (by show ((s.A.list s.A.begun).length-(k+1):Nat)<(s.A.list s.A.begun).length-k;omega)
 . refine fK S 13 ?_
   refine jM (vl:=[F,(.func (.func 187) #[] #[])]) rfl rfl Xs (aeL F (((s.A.list s.A.begun).take k).map (fJ s.live)) G (kV S (i:=7) rfl) (by rw[zq,z8];omega)) ?_
   rintro _ J ⟨d,rfl,y,T⟩
   have z:St _ (MJ ub fN fL s (some s.mb) a (s.A.list s.A.begun) F d) J:=l8 (R' := fM Lv.cells F 107 7 d) 7 S rfl T rfl
   refine fQ z 9 ?_
   refine gp (v:=F) Tryz.results167 rfl ?_
   have K:=yg [0,1,2,3,4,5,7,6] z
   have Z:k=(s.A.list s.A.begun).length:=by omega
   subst Z
   have aa:=fU.aa5 U (by have V:=y.1;rwa [qB]at V) y.2
   have ac:=yp (p:=fU.ok fN fL s) (yc [_,_,_,_,_,_] _ K) U
   exact⟨F,d,rfl,aa,yj (R' := (Hu fN fL ub s F d)) (yc [_,_] _ ac) ze⟩
end
section
open Go Go.Sx
theorem Km{fN fL ub:Nat}{s:fU}{w:World}(h:Own (fU.R fN fL ub s) w):s.t.A.ok :=
 (yy (Own.of (kV (Own.of h.un) (i:=5) rfl).un) (i:=3) rfl:s.t.w.A.ok)
theorem SE(sb hb n:Nat)(s:QS)(w:World)(c:Own (QS.SR sb hb n s) w)(now:Int)(d:n<=65536) :
 CR ya 38 (Zm sb now) w (fun r w' => ∃ v ds t,v=r/\qa n s t ds now/\fZ (QS.SR sb hb n s) w w' (gq [QS.SR sb hb n t,fM fW v 3 1 ds])):=by
 refine CR.mono (ael sb hb n s w c now d) fun r w' ⟨v,ds,t,a,b,e⟩=>⟨v,ds,t,a.symm,b,?_⟩
 rw[Dd f_]
 exact e
theorem Vo(cb:Nat)(win now:Int)(w:World)(c:Own (Zu cb win now) w)(h1:1<=win)(e:gZ .i64 win)(t:Int)(d:gZ .i64 t)(a:now<=t)(b : -9223372036854775808<=t+win/\t+win<=9223372036854775807) :
 CR ya 37 (Zm cb t) w (fun r w' => r = .int .i64 0/\fZ (Zu cb win now) w w' (Zu cb win t)):=by
 have h:=Vp cb win now w c h1 e t d
 rw[NT a b,if_pos rfl]at h
 exact h
theorem Uk(c:WC)(X:Nat)(s:WW)(w:World)(hO:Own (WW.R c X s) w)(T:Int)(hT:s.now<=T)(ai:T<=1000000) :
 CR ya 15 (Zm X T) w (fun r w' => ∃ (s2:WW),r = .int .i64 0/\(s2.now=T/\s2.added=s.added/\(∀ y,s2.u.has y↔s.u.has y/\T<y.exp)/\s2.u.last=s.u.last)/\fZ (WW.R c X s) w w' (WW.R c X s2)):=by
 refine en Tryz.func15 Tryz.ntmps15 ?_
 have ac:=Own.of hO.un
 have F:s.ok c:=hO.fact
 have ao:=F.w1
 have au:=F.wi
 have av:=F.n0
 have aw:=F.n1
 have aa:fU.ok c.fN c.fL s.u:=(yy ac (i:=2) rfl)
 have aA:=F.en
 have az:=F.e1
 have aD:=F.v2
 have aE:=F.vn
 have ax:=F.a0
 have ay:=F.a1
 have aC:=F.la
 have aB:=aa.sV
 have o:=yp (p:=s.ok c) (yc [_,_,_,_,_] _ ac) F
 refine fR ac 9 ?_
 refine cl uK (vj c X s w (ye o 0 rfl)) ?_
 rintro _ D ⟨rfl,W⟩
 have E:=yk 0 o W
 have h:=(jP E).unpack
 refine fK h 14 ?_
 refine cl XR (Vo s.cb c.win s.now D (ye h 1 rfl) ao (kH o_) T (kH o_) hT o_) ?_
 rintro _ G ⟨rfl,W⟩
 have j:=yk 1 h W
 refine fK j 20 ?_
 refine cl OY (SE s.sb s.hb c.fL s.q G (ye j 3 rfl) T o_) ?_
 rintro _ N ⟨z,a,l,rfl,b,W⟩
 have H:=yg [3,0,1,2,4] j
 have n:=yz (yk 0 H W)
 have ap:a.length<=c.fL:=b.len
 refine jm (m:=a.length) 1 rfl rfl yd n rfl ?_
 have I:=yg [2,3,4,0,5,1] n
 obtain⟨ak,aj⟩:=F.due b aa
 refine gH n 4 ?_
 refine lp (α:=Nat×fU×GW×Int) (fun(k,u2,g2,ex)=>[(0,(Zb X)),(25,z),(26,(Za a.length)),(27,(Za k))]) (fun(k,u2,g2,ex) w1=>St [(w,(WW.R c X s).gJ)] [blk X 83 [(Za c.win),(Za c.fL),(Za c.fN),(Za c.kK),(Zb s.cb),(Zb s.ub),(Zb s.sb),(Zb s.ob),(Zo s.added),(Zo ex)],(Zu s.cb c.win T),(fU.R c.fN c.fL s.ub u2),(QS.SR s.sb s.hb c.fL l),(GW.R c.fN c.fL s.ob g2),fM fW z 3 1 a] w1/\oS s.u u2 (a.take k)/\gZ .u64 ex/\k<=a.length/\TW.Kp s.u.t u2.t/\sL s.g.m g2.m a k) (fun(k,u2,g2,ex)=>a.length-k) (0,s.u,s.g,s.jB) ⟨rfl,rfl,rfl,gr rO,trivial⟩ (⟨I,oS.start _,F.ex,o_,TW.Kp.refl _,ak⟩) ?_
 rintro⟨k,u2,g2,ex⟩ O J ⟨Z,Y,am,aq,ae,hX⟩
 refine fR Z 2 ?_
 by_cases P:((k:Int):Int)<((a.length:Int):Int)
 . have ab:k<a.length:=by omega
   refine fK Z 22 ?_
   refine cl XS (Y6 c.fN c.fL s.ob g2 J (ye Z 4 rfl)) ?_
   rintro _ K ⟨L,Q,S,rfl,M,W⟩
   have d:=yk 4 Z W
   have ah:=(yy d (i:=2) rfl:fU.ok c.fN c.fL u2)
   have al:=oS.can Y F.tY ah b (gz ab)
   refine fK d 9 ?_
   refine cl OZ (TU c.fN c.fL s.ub u2 K (ye d 2 rfl) (fJ a k) al) ?_
   rintro _ U ⟨A,rfl,f,W⟩
   have B:=yk 2 d W
   refine fK B 7 ?_
   refine ar (e:=IntKind.u64.wrap (ex+1)) rfl rfl rfl rfl rfl (j7 B 10 fun V C=>?_)
   refine tN (?_)
   have ad:=(yy C (i:=2) rfl:fU.ok c.fN c.fL A)
   exact again ((k+1),A,L,IntKind.u64.wrap (ex+1)) ⟨rfl,rfl,rfl,gr rO,trivial⟩ (⟨C,by rw[qz,gz ab];exact Y.next f.1 f.2.1,ZW _,o_,ae.trans f.2.2 (fun x _ h9=>ah.abn ad (fun y hy=>((f.1 y).1 hy).1) x h9),hX.next ab b.nd aj M⟩) (by show (a.length-(k+1):Nat)<a.length-k;omega)
 . refine fQ Z 16 ?_
   refine gp (v:=Zc) Tryz.results15 rfl ?_
   have ag:k=a.length:=by omega
   rw[ag,qB]at Y
   rw[ag]at hX
   have ad:=(yy Z (i:=2) rfl:fU.ok c.fN c.fL u2)
   have af:=Y.fin F.tY aa b
   have an:=F.tick hT ai am b af Y.last (g2:=g2) (F.afp b aa ad Y ae hX)
   exact⟨(⟨s.cb,s.ub,s.sb,s.hb,s.ob,T,l,u2,g2,s.added,ex⟩:WW),rfl,⟨rfl,rfl,af,Y.last⟩,yj (yp (p:=WW.ok c (⟨s.cb,s.ub,s.sb,s.hb,s.ob,T,l,u2,g2,s.added,ex⟩:WW)) (yc [_,_,_,_,_] _ Z) an) ze⟩
end
section
open Go Go.Sx
theorem Vu(cb:Nat)(win now:Int)(w:World)(b:Own (Zu cb win now) w)(h1:1<=win)(d:gZ .i64 win)(t:Int)(c:gZ .i64 t)(a : -9223372036854775808<=t+win/\t+win<=9223372036854775807) :
 CR ya 79 (Zm cb t) w (fun r w' => r = .tuple (xH (t+win))/\fZ (Zu cb win now) w w' (Zu cb win now)):=by
 have h:=Vv cb win now w b h1 d t c
 rw[Av a]at h
 exact h
abbrev ade:List (List Nat):=[[],[0],[0,1],[0,1,2],[],[],[0,1,2,3,4,5],[0,1,2,3,4,5,6],[0,1,2,3,4,5,6,7],[0,1,2,3,4,5,6,7],[],[0,1,2,3,4,5,6,7,8,10],[0,1,2,3,4,5,6,7,8,9,10,11]]
theorem agf(c:WC)(T:Nat)(s:WW)(w:World)(hO:Own (WW.R c T s) w)(x:Lv)(au:x.ok)(az:x.t=s.now)(hc:s.u.gN c.fN c.fL x.u x.v=0)(ha:s.added<1000000) :
 CR ya 43 (xK T x) w (fun r w' => ∃ (s2:WW),r = .tuple #[]/\(s2.now=s.now/\s2.added=s.added+1/\(∃ i:Nat,∀ y,s2.u.has y↔s.u.has y\/y=(⟨((i:Nat):Int),s.u.last+1,x.u,x.v,x.wt,x.t,x.t+c.win⟩:Lv))/\s2.u.last=s.u.last+1)/\fZ (WW.R c T s) w w' (WW.R c T s2)):=by
 refine en Tryz.func43 Tryz.ntmps43 ?_
 have ax:=Own.of hO.un
 have hW:s.ok c:=hO.fact
 have aJ:=hW.w1
 have aM:=hW.wi
 have aN:=hW.n0
 have aO:=hW.n1
 have av:fU.ok c.fN c.fL s.u:=(yy ax (i:=2) rfl)
 have aS:=hW.en
 have aR:=hW.e1
 have aV:=hW.v2
 have aW:=hW.vn
 have aP:=hW.a0
 have aQ:=hW.a1
 have aU:=hW.la
 have aT:=av.sV
 have aE:s.u.last<=9000000000000000000:=by omega
 have aX:=az
 have aG:Lv.ok (Lv.mk x.slot x.seq x.u x.v x.wt x.t (x.t+c.win)):=⟨au.slot,au.seq,au.u,au.v,au.wt,au.t,kH (by show _/\_;dsimp only;omega)⟩
 refine fR ax 2 ?_
 refine iF ax (fun k af ag ah O=>?_)
 refine gO O 10 fun P A=>?_
 refine cl Yc (Vu s.cb c.win s.now P (ye A 2 rfl) aJ (kH o_) x.t au.t o_) ?_
 rintro _ ai ⟨rfl,ht⟩
 have B:=yk 2 A ht
 refine gH B 8 ?_
 refine Sr (Γ:=Nat×fU×Nat) mixed ade [6,10,11] k_ [fun(a,b,d)=>(Zb T),fun(a,b,d)=>(Zb T),fun(a,b,d)=>(.pointer (some ⟨T,5,none⟩)),fun(a,b,d)=>(Zb s.ub),fun(a,b,d)=>(Eh x),fun(a,b,d)=>(Za (x.t+c.win)),fun(a,b,d)=>(B3 ((a:Nat):Int) (s.u.last+1) x (x.t+c.win)),fun(a,b,d)=>(B3 ((a:Nat):Int) (s.u.last+1) x (x.t+c.win)),fun(a,b,d)=>(MN ((a:Nat):Int) (s.u.last+1) x (x.t+c.win)),fun(a,b,d)=>Zc,fun(a,b,d)=>(Zb d),fun(a,b,d)=>undef,fun(a,b,d)=>Zc] [([],(fun(a,b,d)=>[blk k 61 (Z0 x),blk T 83 (xI c.win c.fL c.fN c.kK s),(zZ s c.win),(fU.R c.fN c.fL s.ub s.u),(BP s c.fL),(BO c.fN c.fL s)],fun _ _=>True)),([6],(fun(a,b,d)=>[blk k 61 (Z0 x),blk T 83 (xI c.win c.fL c.fN c.kK s),(zZ s c.win),kE ((∀ y,fU.has b y↔s.u.has y\/y=(⟨((a:Nat):Int),s.u.last+1,x.u,x.v,x.wt,x.t,x.t+c.win⟩:Lv))/\fU.last b=s.u.last+1/\TW.Kp s.u.t (fU.t b)) (fU.R c.fN c.fL s.ub b),(BP s c.fL),(BO c.fN c.fL s)],fun _ _=>True)),([10],(fun(a,b,d)=>[blk d 107 nE,blk k 61 (Z0 x),blk T 83 (xI c.win c.fL c.fN c.kK s),(zZ s c.win),(fU.R c.fN c.fL s.ub s.u),(BP s c.fL),(BO c.fN c.fL s)],fun _ _=>True)),([6,10],(fun(a,b,d)=>[blk d 107 nE,blk k 61 (Z0 x),blk T 83 (xI c.win c.fL c.fN c.kK s),(zZ s c.win),kE ((∀ y,fU.has b y↔s.u.has y\/y=(⟨((a:Nat):Int),s.u.last+1,x.u,x.v,x.wt,x.t,x.t+c.win⟩:Lv))/\fU.last b=s.u.last+1/\TW.Kp s.u.t (fU.t b)) (fU.R c.fN c.fL s.ub b),(BP s c.fL),(BO c.fN c.fL s)],fun _ _=>True)),([6,10,11],(fun(a,b,d)=>(MG d ((a:Nat):Int) (s.u.last+1) x (x.t+c.win) k T c.win c.fL c.fN c.kK s ((∀ y,fU.has b y↔s.u.has y\/y=(⟨((a:Nat):Int),s.u.last+1,x.u,x.v,x.wt,x.t,x.t+c.win⟩:Lv))/\fU.last b=s.u.last+1/\TW.Kp s.u.t (fU.t b)) b),fun _ _=>True))] (0,s.u,0) (fun(a,b,d)=>(7,Zc) :: (6,(Zb d)) :: (31,Zc) :: (30,(MN ((a:Nat):Int) (s.u.last+1) x (x.t+c.win))) :: (22,(B3 ((a:Nat):Int) (s.u.last+1) x (x.t+c.win))) :: (29,(B3 ((a:Nat):Int) (s.u.last+1) x (x.t+c.win))) :: (28,(Za (x.t+c.win))) :: (27,(Eh x)) :: (26,(Zb s.ub)) :: (25,(.pointer (some ⟨T,5,none⟩))) :: (24,(Zb T)) :: (23,(Zb T)) :: _) rfl B (fun _ _=>trivial) ?_ (fun(a,b,d)=>rfl) rfl ?_
 . skip
   refine nN rfl (fun(a,b,d) _ _=>qv rfl rfl (k7 (v:=(Zb T)) rfl)) (nN rfl (fun(a,b,d) _ _=>qv rfl rfl (AT rfl)) (nN rfl (fun(a,b,d) _ _=>qv rfl rfl (uM (o' := 5) rfl Tryz.underlying83 rfl Lr rfl)) (AY rfl ⟨(fun(a,b,d) wq F hF=>qv rfl rfl (mK rfl GV rfl (k8 F 1 rfl rfl))),trivial,(fun(a,b,d) wq F hF=>qv rfl rfl (mK rfl GV rfl (k8 F 2 rfl rfl))),trivial,trivial,trivial⟩ (AY rfl ⟨(fun(a,b,d) wq F hF=>qv rfl rfl (tM (cs:=(Z0 x)) rfl DB rfl vg rfl (lZ F (i:=0) (o:=0) (vs:=(Z0 x)) rfl rfl))),trivial,(fun(a,b,d) wq F hF=>qv rfl rfl (tM (cs:=(Z0 x)) rfl DB rfl vg rfl (lZ F (i:=1) (o:=0) (vs:=(Z0 x)) rfl rfl))),trivial,trivial,trivial⟩ (nN rfl (fun(a,b,d) _ _=>qv rfl rfl (k7 (v:=(Za (x.t+c.win))) rfl)) (AX rfl ⟨⟨_,_,rfl,fun(a,b,d) wq F hF=>Fu rfl rfl (sR rfl O9) (TP c.fN c.fL s.ub s.u wq (ye F 3 rfl) (Lv.mk x.slot x.seq x.u x.v x.wt x.t (x.t+c.win)) aG hc aE) (fun _ _ hz=>by obtain⟨l,m,rfl,aw,ay⟩:=hz;exact⟨(l,m,d),⟨(yk 3 F (ay.GB aw)),trivial⟩,rfl,kS rfl sT⟩)⟩,trivial,⟨_,_,rfl,fun(a,b,d) wq F hF=>Fu rfl rfl (sR rfl O9) (TP c.fN c.fL s.ub s.u wq (ye F 4 rfl) (Lv.mk x.slot x.seq x.u x.v x.wt x.t (x.t+c.win)) aG hc aE) (fun _ _ hz=>by obtain⟨l,m,rfl,aw,ay⟩:=hz;exact⟨(l,m,d),⟨(yk 4 F (ay.GB aw)),trivial⟩,rfl,kS rfl sT⟩)⟩,trivial,trivial,trivial⟩ (nN rfl (fun(a,b,d) _ _=>qv rfl rfl (k7 (v:=(B3 ((a:Nat):Int) (s.u.last+1) x (x.t+c.win))) rfl)) ?_)))))))
   refine nN rfl (fun(a,b,d) _ _=>qv rfl rfl (E1 rfl rfl)) (nN rfl (fun(a,b,d) _ _=>qv rfl rfl (E1 rfl rfl)) (AX rfl ⟨⟨_,_,rfl,fun(a,b,d) wq F hF=>Fq (cs:=nE) rfl nS rfl F (fun n _ h=>⟨(a,b,n),⟨h,trivial⟩,rfl,kS rfl sT⟩)⟩,⟨_,_,rfl,fun(a,b,d) wq F hF=>Fq (cs:=nE) rfl nS rfl F (fun n _ h=>⟨(a,b,n),⟨h,trivial⟩,rfl,kS rfl sT⟩)⟩,trivial,trivial,trivial,trivial⟩ (AX rfl ⟨trivial,trivial,trivial,⟨_,_,rfl,fun(a,b,d) wq F hF=>JS (L' := (MG d ((a:Nat):Int) (s.u.last+1) x (x.t+c.win) k T c.win c.fL c.fN c.kK s ((∀ y,fU.has b y↔s.u.has y\/y=(⟨((a:Nat):Int),s.u.last+1,x.u,x.v,x.wt,x.t,x.t+c.win⟩:Lv))/\fU.last b=s.u.last+1/\TW.Kp s.u.t (fU.t b)) b)) 0 rfl rfl rfl rfl nS rfl rfl F rfl rfl rfl rfl (fun _ h=>⟨(a,b,d),⟨h,trivial⟩,rfl,l9.refl _ _ _⟩)⟩,trivial,trivial⟩ (nN rfl (fun(a,b,d) _ _=>qv rfl rfl (vX (v:=Zc) rfl)) ?_))))
   exact Ro
 rintro⟨a,b,d⟩ aj Q -
 have C:=yg [4,0,1,2,3,5,6] Q
 have f:=sG C
 have D:=jP C
 have ar:=(yy D (i:=0) rfl:fU.ok c.fN c.fL b)
 have aC:=hW.free av ar (i:=a) (e:=(⟨((a:Nat):Int),s.u.last+1,x.u,x.v,x.wt,x.t,x.t+c.win⟩:Lv)) rfl rfl f.1
 have aD:a<c.fL:=by obtain⟨j,h7,_,_,h8⟩:=ar.xZ ((f.1 _).2 (.inr rfl));have h9:((a:Nat):Int)=(j:Int):=h7;omega
 refine KQ tt none D 9 fun S E=>?_
 refine cl ES (Gx c.fN c.fL s.ub b S (ye E 0 rfl) x.u) ?_
 rintro _ ak ⟨G,al,rfl,H,ht⟩
 have U:=yk 0 E ht
 have aK:G<c.fN:=by have h7:=TW.mA.lt H ar.tok (by rw[ar.tn];omega);rw[ar.tn]at h7;exact h7
 refine gO U 15 fun V I=>?_
 refine cl ES (Gx c.fN c.fL s.ub b V (ye I 0 rfl) x.v) ?_
 rintro _ am ⟨J,an,rfl,K,ht⟩
 have W:=yk 0 I ht
 have aL:J<c.fN:=by have h7:=TW.mA.lt K ar.tok (by rw[ar.tn];omega);rw[ar.tn]at h7;exact h7
 refine gO W 16 fun X L=>?_
 refine cl Ye (aeT s.sb s.hb c.fL s.q X (ye L 5 rfl) a aD aC (x.t+c.win) (kH o_)) ?_
 rintro _ ao ⟨M,rfl,Y,ht⟩
 have Z:=yk 5 L ht
 have aH:=fU.EA hc
 have aF:=ar.yI ((f.1 (⟨((a:Nat):Int),s.u.last+1,x.u,x.v,x.wt,x.t,x.t+c.win⟩:Lv)).2 (.inr rfl))
 have aA:=TW.mA.at H aF.1
 have aB:=TW.mA.at K aF.2
 refine gO Z 13 fun aa N=>?_
 refine cl Yf (YZ c.fN c.fL s.ob s.g aa (ye N 6 rfl) a G J (x.t+c.win) aD aK aL (kH o_) (fun e=>aH.1 (aA.2.symm.trans (e▸aB.2))) (hW.noE aC)) ?_
 rintro _ ap ⟨z,rfl,ab,ht⟩
 have ac:=yk 6 N ht
 refine j7 ac 12 fun aq ad=>?_
 refine iZ Tryz.results43 ?_
 have ae:=yg [3,4,0,5,6,1,2] ad
 have aI:=hW.ins av (i:=a) (e:=(⟨((a:Nat):Int),s.u.last+1,x.u,x.v,x.wt,x.t,x.t+c.win⟩:Lv)) rfl rfl az (by show x.t+c.win=_;rw[az]) f.1 f.2.1 Y ha (g2:=z) (hW.fr.ins av ar (e:=(⟨((a:Nat):Int),s.u.last+1,x.u,x.v,x.wt,x.t,x.t+c.win⟩:Lv)) rfl f.1 f.2.2 ab aA aB)
 exact⟨(⟨s.cb,s.ub,s.sb,s.hb,s.ob,s.now,M,b,z,s.added+1,s.jB⟩:WW),rfl,⟨rfl,rfl,⟨a,f.1⟩,f.2.1⟩,yj (yp (p:=WW.ok c (⟨s.cb,s.ub,s.sb,s.hb,s.ob,s.now,M,b,z,s.added+1,s.jB⟩:WW)) (yc [_,_,_,_,_] _ ae) aI) ze⟩
end
section
open Go Go.Sx
theorem agy(c:WC)(wb:Nat)(s:WW)(w:World)(hO:Own (WW.R c wb s) w)(x:Lv)(aX:x.ok) :
 CR ya 42 (xK wb x) w (fun r w' => ∃ (e:Int),r = .int .i64 e/\((e=0->Room c s x)/\(s.u.gN c.fN c.fL x.u x.v=0->e=0))/\fZ (WW.R c wb s) w w' (WW.R c wb s)):=by
 refine en Tryz.func42 Tryz.ntmps42 ?_
 have aL:=Own.of hO.un
 have F:s.ok c:=hO.fact
 have a2:=F.w1
 have a3:=F.wi
 have a4:=F.n0
 have a5:=F.n1
 have aO:fU.ok c.fN c.fL s.u:=(yy aL (i:=2) rfl)
 have a9:=F.en
 have a8:=F.e1
 have bc:=F.v2
 have bd:=F.vn
 have a6:=F.a0
 have a7:=F.a1
 have bb:=F.la
 have ba:=aO.sV
 have aS:=Km (ye aL 2 rfl)
 have be:=aX.t.i64
 refine fR aL 2 ?_
 refine iF aL (fun A ak al am M=>?_)
 refine gO M 10 fun N B=>?_
 refine cl IY (LA c.fN c.fL s.ub s.u N (ye B 3 rfl) x) ?_
 rintro _ C ⟨rfl,T⟩
 have b:=yk 3 B T
 refine fK b 7 ?_
 by_cases D:(fU.gN s.u c.fN c.fL x.u x.v:Int)=(0:Int)
 . have aK:=D
   refine fQ b 11 ?_
   refine gp (v:=Zc) GL rfl ?_
   have O:=yg [1,2,3,4,5,0] b
   exact⟨0,rfl,⟨(fun _=>Room.of aO aS aK fun y hy=>hy.1),fun _=>rfl⟩,yj (yp (p:=s.ok c) (yc [_,_,_,_,_] _ O) F) ze⟩
 . have aK:=D
   obtain⟨P,an⟩:∃ q,xx s.q.fP.length=q:=⟨_,rfl⟩
   refine fK b 13 ?_
   rcases P with h0|h0
   . skip
     refine cl O8 (aeE s.sb s.hb c.fL s.q C (ye b 4 rfl) h0) ?_
     rintro _ ao ⟨rfl,T⟩
     have E:=yk 4 b T
     refine fK E 3 ?_
     refine iR E (fun ap aq ar au Q=>?_)
     refine j7 Q 26 fun av S=>?_
     refine gp (v:=(Za (fU.gN s.u c.fN c.fL x.u x.v))) GL rfl ?_
     have U:=yg [2,3,4,5,6,0,1] S
     exact⟨fU.gN s.u c.fN c.fL x.u x.v,rfl,⟨(fun h7=>absurd h7 aK),fun h7=>absurd h7 aK⟩,yj (yp (p:=s.ok c) (yc [_,_,_,_,_] _ U) F) ze⟩
   . skip
     refine cl O8 (aeF s.sb s.hb c.fL s.q C (ye b 4 rfl) h0) ?_
     rintro _ aw ⟨rfl,T⟩
     have G:=yk 4 b T
     refine fK G 3 ?_
     refine iR G (fun ax ay az aA V=>?_)
     refine gO V 13 fun W d=>?_
     by_cases aB:((fJ s.q.fP 0).key:Int)>(x.t:Int)
     . refine fQ d 13 ?_
       refine gp (v:=(Za (fU.gN s.u c.fN c.fL x.u x.v))) GL rfl ?_
       have X:=yg [2,3,4,5,6,0,1] d
       exact⟨fU.gN s.u c.fN c.fL x.u x.v,rfl,⟨(fun h7=>absurd h7 aK),fun h7=>absurd h7 aK⟩,yj (yp (p:=s.ok c) (yc [_,_,_,_,_] _ X) F) ze⟩
     . refine fK d 13 ?_
       refine cl Ya (afG c.fN c.fL s.ub s.u W (ye d 4 rfl)) ?_
       rintro _ aC ⟨f,g,rfl,l,T⟩
       have Y:=yg [4,0,1,2,3,5,6] d
       have H:=yz (yk 0 Y T)
       refine gH H 5 ?_
       refine kO mixed [([0,1,2,3,5,6,9,4],[6])] [7,8] H (fun Z n=>jR ?_)
       refine fK n 7 ?_
       refine cl Yb (aej s.sb s.hb c.fL s.q Z (ye n 6 rfl)) ?_
       rintro _ aa ⟨ab,ac,ad,rfl,ae,T⟩
       have af:=yg [6,0,1,2,3,4,5,7] n
       have o:=yz (yk 0 af T)
       refine fQ o 1 ?_
       refine kJ (kU ?_)
       refine cl OY (SE ab ac c.fL ad aa (ye o 1 rfl) x.t o_) ?_
       rintro _ aD ⟨I,a,aE,rfl,ag,T⟩
       have ah:=yg [1,0,2,3,4,5,6,7,8] o
       have h:=yz (yk 0 ah T)
       have z:=qa.acn ag ae
       refine jm (m:=a.length) 1 rfl rfl yd h rfl ?_
       have aY:a.length<=c.fL:=z.len
       have aN:DV g s.q:=fun e=>(F.tY e).trans ⟨fun⟨y,h1,h2⟩=>⟨y,(l.1 y).2 h1,h2⟩,fun⟨y,h1,h2⟩=>⟨y,(l.1 y).1 h1,h2⟩⟩
       have aV:=(yy h (i:=4) rfl:fU.ok c.fN c.fL g)
       have ai:=yg [7,8,3,2,9,4,1,6] h
       refine gH h 3 ?_
       refine lp (α:=Nat×fU) (fun(k,u2)=>[(3,(Zb A)),(8,(Zb f)),(49,I),(50,(Za a.length)),(51,(Za k))]) (fun(k,u2) w1=>St [(w,(WW.R c wb s).gJ)] [blk wb 83 (xI c.win c.fL c.fN c.kK s),(zZ s c.win),(fU.R c.fN c.fL s.ub s.u),(BP s c.fL),(BO c.fN c.fL s),(fU.R c.fN c.fL f u2),fM fW I 3 1 a,blk A 61 (Z0 x)] w1/\oS g u2 (a.take k)/\k<=a.length) (fun(k,u2)=>a.length-k) (0,g) ⟨rfl,rfl,rfl,rfl,gr rO,trivial⟩ (⟨ai,oS.start _,o_⟩) ?_
       rintro⟨k,u2⟩ aF J ⟨aJ,hR,aZ⟩
       refine fR aJ 2 ?_
       by_cases aG:((k:Int):Int)<((a.length:Int):Int)
       . have aM:k<a.length:=by omega
         have aU:=(yy aJ (i:=5) rfl:fU.ok c.fN c.fL u2)
         have aP:=oS.can hR aN aU z (gz aM)
         refine fK aJ 19 ?_
         refine cl OZ (TU c.fN c.fL f u2 J (ye aJ 5 rfl) (fJ a k) aP) ?_
         rintro _ aH ⟨aj,rfl,K,T⟩
         have L:=yk 5 aJ T
         refine fQ L 7 ?_
         refine tN (?_)
         exact again ((k+1),aj) ⟨rfl,rfl,rfl,rfl,gr rO,trivial⟩ (⟨L,by rw[qz,gz aM];exact hR.next K.1 K.2.1,o_⟩) (by show (a.length-(k+1):Nat)<a.length-k;omega)
       . refine fK aJ 14 ?_
         refine cl IY (LA c.fN c.fL f u2 J (ye aJ 5 rfl) x) ?_
         rintro _ aI ⟨rfl,T⟩
         have j:=yk 5 aJ T
         refine fQ j 4 ?_
         refine gp (v:=(Za (fU.gN u2 c.fN c.fL x.u x.v))) GL rfl ?_
         have aW:=(yy j (i:=5) rfl:fU.ok c.fN c.fL u2)
         have aT:=Km (ye j 5 rfl)
         have aR:k=a.length:=by omega
         rw[aR,qB]at hR
         have aQ:=hR.fin aN aV z
         exact⟨fU.gN u2 c.fN c.fL x.u x.v,rfl,⟨(fun h7=>Room.of aW aT h7 fun y hy=>(aQ y).2 ⟨(l.1 y).2 hy.1,hy.2⟩),fun h7=>absurd h7 aK⟩,yj (yp (p:=s.ok c) (yc [_,_,_,_,_] _ j) F) ze⟩
end
section
open Go Go.Sx
theorem r8{c:WC}{a:Nat}{s:WW}{w:World}(h:Own (WW.R c a s) w):s.ok c/\s.u.ok c.fN c.fL/\s.u.t.A.ok :=
 ⟨h.fact,(yy (Own.of h.un) (i:=2) rfl:fU.ok c.fN c.fL s.u),Km (kV (Own.of h.un) (i:=2) rfl)⟩
theorem Vr(cb:Nat)(win now:Int)(w:World)(c:Own (Zu cb win now) w)(h1:1<=win)(e:gZ .i64 win)(t:Int)(d:gZ .i64 t)(a:now<=t)(b : -9223372036854775808<=t+win/\t+win<=9223372036854775807) :
 CR ya 41 (Zm cb t) w (fun r w' => r = .int .i64 0/\fZ (Zu cb win now) w w' (Zu cb win now)):=by
 have h:=NO cb win now w c h1 e t d
 rw[NT a b]at h
 exact h
theorem T4(c:WC)(T:Nat)(s:WW)(w:World)(Y:Own (WW.R c T s) w)(x:Lv)(W:x.ok)(ab:s.now<=x.t)(ai:x.t<=1000000)(ha:s.added<1000000) :
 CR ya 16 (xK T x) w (fun r w' => ∃ (e:Int) (s2:WW),r = .int .i64 e/\WW.Uz c s s2 x e/\fZ (WW.R c T s) w w' (WW.R c T s2)):=by
 refine en Tryz.func16 Tryz.ntmps16 ?_
 have V:=Own.of Y.un
 have F:s.ok c:=Y.fact
 have ag:=F.w1
 have ak:=F.wi
 have al:=F.n0
 have am:=F.n1
 have af:fU.ok c.fN c.fL s.u:=(yy V (i:=2) rfl)
 have aq:=F.en
 have ap:=F.e1
 have av:=F.v2
 have aw:=F.vn
 have an:=F.a0
 have ao:=F.a1
 have au:=F.la
 have ar:=af.sV
 refine fR V 2 ?_
 refine iF V (fun L A M N l=>?_)
 have B:=yg [1,2,3,4,5,0] l
 have m:=yp (p:=s.ok c) (yc [_,_,_,_,_] _ B) F
 refine fK l 7 ?_
 refine cl uK (vj c T s A (ye m 0 rfl)) ?_
 rintro _ O ⟨rfl,S⟩
 have C:=yk 0 m S
 have f:=(jP C).unpack
 refine fK f 13 ?_
 by_cases P:(x.u:Int)=(x.v:Int)
 . refine fQ f 11 ?_
   refine gp (v:=Ac) Tryz.results16 rfl ?_
   have D:=yp (p:=s.ok c) (yc [_,_,_,_,_] _ f) F
   exact⟨9,s,rfl,⟨WW.Step.same s x,fun U=>absurd U o_,fun U=>absurd o_ (fU.EA U).1⟩,yo D⟩
 . refine gO f 15 fun E n=>?_
   refine cl O1 (Vr s.cb c.win s.now E (ye n 1 rfl) ag (kH o_) x.t W.t ab o_) ?_
   rintro _ G ⟨rfl,S⟩
   have k:=yk 1 n S
   refine fK k 19 ?_
   refine cmp rfl rfl rfl (oG o_) ?_
   have o:=yp (p:=s.ok c) (yc [_,_,_,_,_] _ k) F
   refine fK k 10 ?_
   refine cl XT (agy c T s G (ye o 0 rfl) x W) ?_
   rintro _ H ⟨g,rfl,q,S⟩
   have b:=yk 0 o S
   refine fK b 6 ?_
   by_cases I:(g:Int)=(0:Int)
   . have ae:g=0:=by have X:=@I;omega
     refine fK b 11 ?_
     refine cl Oz (Uk c T s H (ye b 0 rfl) x.t ab ai) ?_
     rintro _ J ⟨h,rfl,a,S⟩
     have j:=yk 0 b S
     have aa:=r8 (ye j 0 rfl)
     have ad:=q.1 ae h.u aa.2.1 aa.2.2 a.2.2.1
     have ah:x.t=h.now:=a.1.symm
     have ac:h.added<1000000:=by rw[a.2.1];exact ha
     refine fK j 6 ?_
     refine cl XU (agf c T h J (ye j 0 rfl) x W ah ad ac) ?_
     rintro _ Q ⟨K,rfl,d,S⟩
     have z:=yk 0 j S
     refine fQ z 8 ?_
     refine gp (v:=Zc) Tryz.results16 rfl ?_
     obtain⟨aj,Z⟩:=d.2.2.1
     exact⟨0,K,rfl,⟨⟨.inr (d.1.trans a.1),by rw[d.2.1,a.2.1];exact xC _,fun y hy=>((Z y).1 hy).elim (fun X=>.inl ((a.2.2.1 y).1 X).1) (fun e9=>.inr (by rw[e9];exact⟨rfl,rfl,rfl⟩))⟩,fun _=>⟨⟨aj,fun y=>by rw[<-a.2.2.2];exact(Z y).trans (or_congr_left (a.2.2.1 y))⟩,d.2.2.2.trans (by rw[a.2.2.2]),d.1.trans a.1,d.2.1.trans (by rw[a.2.1])⟩,fun _=>rfl⟩,yo z⟩
   . refine fQ b 12 ?_
     refine gp (v:=(Za g)) Tryz.results16 rfl ?_
     exact⟨g,s,rfl,⟨WW.Step.same s x,fun U=>absurd U o_,fun U=>q.2 U⟩,yo b⟩
theorem af4(c:WC)(a:Nat)(s:WW)(w:World)(g:Own (WW.R c a s) w)(x:Lv)(i:x.ok)(j:s.now<=x.t)(k:x.t<=1000000)(h:s.added<1000000) :
 CR ya 16 (xK a x) w (fun r w' => ∃ (e:Int) (s2:WW),r = .int .i64 e/\WW.Step s s2 x/\fZ (WW.R c a s) w w' (WW.R c a s2)) :=
 CR.mono (T4 c a s w g x i j k h) fun r w' ⟨e,s2,b,d,f⟩=>⟨e,s2,b,d.step,f⟩
theorem afM(fN fL ub:Nat)(s:fU)(w:World)(c:Own (fU.R fN fL ub s) w) :
 CR ya 167 (Zh ub) w (fun r w' => ∃ (v:Value) (ys:List Lv),v=r/\s.mB ys/\fZ (fU.R fN fL ub s) w w' (Hu fN fL ub s v ys)) :=
 CR.mono (afN fN fL ub s w c) fun r w' ⟨v,ys,a,b,d⟩=>⟨v,ys,a.symm,b,d⟩
theorem agk(c:WC)(q:Nat)(s:WW)(w:World)(y:Own (WW.R c q s) w) :
 CR ya 129 (Zh q) w (fun r w' => ∃ (v:Value) (ys:List Lv),v=r/\s.u.mB ys/\fZ (WW.R c q s) w w' (gq [(WW.R c q s),fM Lv.cells v 107 7 ys])):=by
 refine en Tryz.func129 Tryz.ntmps129 ?_
 have t:=Own.of y.un
 have o:s.ok c:=y.fact
 have A:=o.w1
 have B:=o.wi
 have C:=o.n0
 have D:=o.n1
 have z:fU.ok c.fN c.fL s.u:=(yy t (i:=2) rfl)
 have H:=o.en
 have G:=o.e1
 have K:=o.v2
 have L:=o.vn
 have E:=o.a0
 have F:=o.a1
 have J:=o.la
 have I:=z.sV
 have b:=yp (p:=s.ok c) (yc [_,_,_,_,_] _ t) o
 refine fR t 9 ?_
 refine cl uK (vj c q s w (ye b 0 rfl)) ?_
 rintro _ f ⟨rfl,x⟩
 have g:=yk 0 b x
 have a:=(jP g).unpack
 refine fK a 12 ?_
 refine cl Xh (afM c.fN c.fL s.ub s.u f (ye a 2 rfl)) ?_
 rintro _ n ⟨d,h,rfl,j,x⟩
 have k:=yg [2,0,1,3,4] a
 have e:=yz (yk 0 k x)
 refine fQ e 4 ?_
 refine gp (v:=d) Tryz.results129 rfl ?_
 have l:=yg [2,3,0,4,5,1] e
 have m:=yp (p:=s.ok c) (yc [_,_,_,_,_] _ l) o
 exact⟨d,h,rfl,j,yo (yc [_,_] _ m)⟩
end
section
open Go Go.Sx
theorem agj(ab:Nat)(v:AW)(w:World)(a:Own (AW.R ab v) w) :
 CR ya 185 (Zh ab) w (fun r w' => ∃ lv,lv=r/\fZ (AW.R ab v) w w' (gq [AW.R ab v,fM fW lv 3 1 (v.A.list v.A.begun)])) :=
 CR.mono (Ue ab v w a) fun r w' ⟨lv,h,b⟩=>⟨lv,h.symm,b⟩
theorem afq(tb ab:Nat)(t:TW)(w:World)(hO:Own (TW.R tb ab t) w)(ak:t.A.used<=12) :
 CR ya 184 (Zh tb) w (fun r w' => ∃ (v:Value) (K:List Int),v=r/\((K.Pairwise fun a b=>a<b)/\∀ x,x∈K↔t.mem x)/\fZ (TW.R tb ab t) w w' (gq [(TW.R tb ab t),fM iw v 27 1 K])):=by
 refine enter (vs:=(Zi tb)) Tryz.func184 rfl Tryz.ntmps184 rfl ?_
 have ad:St _ (HI tb ab t) w:=Own.of hO.un
 have hT:t.ok:=hO.fact
 have aa:t.A.ok:=(yy ad (i:=3) rfl:t.w.A.ok)
 have ah:(t.A.list t.A.begun).length=t.A.used:=aa.AP
 have s:=yc [_,_,_] _ ad
 refine fR ad 9 ?_
 refine jM (vl:=(Zi tb)) rfl rfl wh (w6 tb ab t w (kV s (i:=0) rfl) hT) ?_
 rintro _ u ⟨rfl,T⟩
 have h:St _ (HI tb ab t) u:=(l8 (R' := (Z1 tb ab t)) 0 s rfl T rfl).unpack
 refine fK h 12 ?_
 refine jM (vl:=(Zi ab)) rfl rfl ET (GC ab t.w u (kV h (i:=3) rfl)) ?_
 rintro _ D ⟨rfl,T⟩
 have E:St _ (HI tb ab t) D:=l8 (R' := (AW.R ab t.w)) 3 h rfl T rfl
 refine rZ (cf:=iw) (z0:=0) (m:=0) (c:=t.A.used) rfl rfl rfl oB jx rfl f_ d_ (oO _) o_ o_ E ?_
 intro j y Q S G
 have l:St _ [fM iw (Ej j t.A.used) 27 1 (((t.A.list t.A.begun).take 0).map (fJ t.ids)),blk tb 200 (oU tb ab t),fM iw t.iv 27 1 t.ids,fM fW t.cv 3 1 t.cs,(AW.R ab t.w)] y:=mu (cf:=iw) G (i:=0) rfl f_ (oO _) (by simp only[maxLen];omega)
 refine fK l 10 ?_
 refine jM (vl:=(Zi ab)) rfl rfl OM (agj ab t.w y (kV l (i:=4) rfl)) ?_
 rintro _ H ⟨d,rfl,T⟩
 have I:=yg [4,0,1,2,3] l
 have n:St _ [(AW.R ab t.w),fM fW d 3 1 (t.A.list t.A.begun),fM iw (Ej j t.A.used) 27 1 (((t.A.list t.A.begun).take 0).map (fJ t.ids)),blk tb 200 (oU tb ab t),fM iw t.iv 27 1 t.ids,fM fW t.cv 3 1 t.cs] H:=yz (l8 (R' := (gq [(AW.R ab t.w),fM fW d 3 1 (t.A.list t.A.begun)])) 0 I rfl T rfl)
 refine jm (m:=(t.A.list t.A.begun).length) 1 rfl rfl yd n rfl ?_
 have J:=yg [3,4,5,0,1,2] n
 refine gH n 4 ?_
 refine lp (α:=Nat×Value) (fun(k,F)=>[(0,(Zb tb)),(3,F),(19,d),(20,(Za ((t.A.list t.A.begun).length:Int))),(21,(Za k))]) (fun(k,F) w1=>St [(w,(TW.R tb ab t).gJ)] (Mo tb ab t d (t.A.list t.A.begun) F (((t.A.list t.A.begun).take k).map (fJ t.ids))) w1/\k<=(t.A.list t.A.begun).length) (fun(k,F)=>(t.A.list t.A.begun).length-k) (0,(Ej j t.A.used)) ⟨rfl,rfl,rfl,rfl,gr (by first|rfl|omega),trivial⟩ (⟨J,o_⟩) ?_
 rintro⟨k,F⟩ U L ⟨Z,aj⟩
 refine fR Z 2 ?_
 by_cases V:((k:Int):Int)<(((t.A.list t.A.begun).length:Int):Int)
 . have ae:k<(t.A.list t.A.begun).length:=by omega
   have ai:fJ (t.A.list t.A.begun) k<t.ids.length:=by rw[hT.tK];exact((aa.o7 _).1 (qV.2 ⟨k,ae,rfl⟩)).1
   refine fK Z 25 ?_
   refine kj (vs:=(Zt (fJ t.ids (fJ (t.A.list t.A.begun) k)))) (cs:=(Zt (fJ t.ids (fJ (t.A.list t.A.begun) k)))) rfl rfl oB jx rfl (by simp[Value.cells]) rfl rfl rfl Z ?_
   intro o M W X e
   have e:St _ (HL o ([(fJ t.ids (fJ (t.A.list t.A.begun) k))]) tb ab t d (t.A.list t.A.begun) F (((t.A.list t.A.begun).take k).map (fJ t.ids))) M:=e
   refine mW (cf:=iw) (ys:=(((t.A.list t.A.begun).take k).map (fJ t.ids))) (zs:=[(fJ t.ids (fJ (t.A.list t.A.begun) k))]) (LL:=fun f=>(HL o ([(fJ t.ids (fJ (t.A.list t.A.begun) k))]) tb ab t d (t.A.list t.A.begun) f ((((t.A.list t.A.begun).take k).map (fJ t.ids))++[(fJ t.ids (fJ (t.A.list t.A.begun) k))]))) 6 rfl rfl rfl oB jx rfl d_ e rfl (l7 e (i:=0) rfl) (fun x hx=>zt.1 (show List.all _ _=true from rfl) x hx) (by simp only[zw,zh,zn,zq,z8,maxLen];omega) (by simp only[zw,zh,zn,zq,z8,maxLen];omega) f_ ?_
   intro f N q Y
   have q:St _ (HL o ([(fJ t.ids (fJ (t.A.list t.A.begun) k))]) tb ab t d (t.A.list t.A.begun) f ((((t.A.list t.A.begun).take k).map (fJ t.ids))++[(fJ t.ids (fJ (t.A.list t.A.begun) k))])) N:=q
   have z:=yg [1,2,3,4,5,6] q
   refine fQ z 8 ?_
   refine tN (?_)
   exact again ((k+1),f) ⟨rfl,rfl,rfl,rfl,gr (by first|rfl|omega),trivial⟩ (⟨by rw[Gg _ ae];exact z,o_⟩) (by show ((t.A.list t.A.begun).length-(k+1):Nat)<(t.A.list t.A.begun).length-k;omega)
 . refine fK Z 13 ?_
   refine jM (vl:=[F]) rfl rfl XA (aeO F (((t.A.list t.A.begun).take k).map (fJ t.ids)) L (kV Z (i:=5) rfl) (by rw[zq,z8];omega)) ?_
   rintro _ O ⟨g,rfl,B,T⟩
   have C:St _ (Mo tb ab t d (t.A.list t.A.begun) F g) O:=l8 (R' := fM iw F 27 1 g) 5 Z rfl T rfl
   refine fQ C 9 ?_
   refine gp (v:=F) Tryz.results184 rfl ?_
   have P:=yg [0,1,2,3,5,4] C
   have af:k=(t.A.list t.A.begun).length:=by omega
   subst af
   have ac:=B.1
   rw[qB]at ac
   have ag:=(ac.nodup_iff).2 (TW.PW hT aa)
   exact⟨F,g,rfl,⟨B.2.j5 ag,fun x=>ac.mem_iff.trans (TW.Je aa x)⟩,yj (R' := (gq [(TW.R tb ab t),fM iw F 27 1 g])) (yc [_,_] _ (yp (p:=t.ok) (yc [_,_,_,_] _ P) hT)) ze⟩
theorem afK(fN fL ub:Nat)(s:fU)(w:World)(n:Own (fU.R fN fL ub s) w)(y:fN<=12) :
 CR ya 166 (Zh ub) w (fun r w' => ∃ (v:Value) (K:List Int),v=r/\s.pK K/\fZ (fU.R fN fL ub s) w w' (gq [(fU.R fN fL ub s),fM iw v 27 1 K])):=by
 refine en Tryz.func166 Tryz.ntmps166 ?_
 have o:=Own.of n.un
 have l:s.ok fN fL:=n.fact
 have q:s.t.A.used<=12:=by have u:=l.tok.ul;have x:=l.tn;omega
 have b:=yp (p:=s.ok fN fL) (yc [_,_,_,_,_,_] _ o) l
 refine fR o 9 ?_
 refine cl wg (xd fN fL ub s w (ye b 0 rfl)) ?_
 rintro _ f ⟨rfl,m⟩
 have g:=yk 0 b m
 have a:=(jP g).unpack
 refine fK a 12 ?_
 refine cl Xr (afq s.tb s.ab s.t f (ye a 5 rfl) q) ?_
 rintro _ k ⟨c,h,rfl,d,m⟩
 have i:=yg [5,0,1,2,3,4] a
 have e:=yz (yk 0 i m)
 refine fQ e 4 ?_
 refine gp (v:=c) Tryz.results166 rfl ?_
 have j:=yg [2,3,4,5,6,0,1] e
 exact⟨c,h,rfl,⟨d.1,d.2⟩,yj (yc [_,_] _ (yp (p:=fU.ok fN fL s) (yc [_,_,_,_,_,_] _ j) l)) ze⟩
theorem age(c:WC)(q:Nat)(s:WW)(w:World)(y:Own (WW.R c q s) w)(A:c.fN<=12) :
 CR ya 128 (Zh q) w (fun r w' => ∃ (v:Value) (K:List Int),v=r/\s.u.pK K/\fZ (WW.R c q s) w w' (gq [(WW.R c q s),fM iw v 27 1 K])):=by
 refine en Tryz.func128 Tryz.ntmps128 ?_
 have t:=Own.of y.un
 have o:s.ok c:=y.fact
 have B:=o.w1
 have C:=o.wi
 have D:=o.n0
 have E:=o.n1
 have z:fU.ok c.fN c.fL s.u:=(yy t (i:=2) rfl)
 have I:=o.en
 have H:=o.e1
 have M:=o.v2
 have N:=o.vn
 have F:=o.a0
 have G:=o.a1
 have L:=o.la
 have J:=z.sV
 have b:=yp (p:=s.ok c) (yc [_,_,_,_,_] _ t) o
 refine fR t 9 ?_
 refine cl uK (vj c q s w (ye b 0 rfl)) ?_
 rintro _ f ⟨rfl,x⟩
 have g:=yk 0 b x
 have a:=(jP g).unpack
 refine fK a 12 ?_
 refine cl Xg (afK c.fN c.fL s.ub s.u f (ye a 2 rfl) A) ?_
 rintro _ n ⟨d,h,rfl,j,x⟩
 have k:=yg [2,0,1,3,4] a
 have e:=yz (yk 0 k x)
 refine fQ e 4 ?_
 refine gp (v:=d) Tryz.results128 rfl ?_
 have l:=yg [2,3,0,4,5,1] e
 have m:=yp (p:=s.ok c) (yc [_,_,_,_,_] _ l) o
 exact⟨d,h,rfl,j,yo (yc [_,_] _ m)⟩
theorem aga(c:WC)(t:Nat)(s:WW)(w:World)(u:Own (WW.R c t s) w) :
 CR ya 35 (Zh t) w (fun r w' => r=(D5 c.win c.fL c.fN c.kK)/\fZ (WW.R c t s) w w' (WW.R c t s)):=by
 refine en Tryz.func35 Tryz.ntmps35 ?_
 have x:=Own.of u.un
 have q:s.ok c:=u.fact
 have z:=q.w1
 have A:=q.wi
 have B:=q.n0
 have C:=q.n1
 refine fR x 2 ?_
 refine iR x (fun j e k l a=>?_)
 have f:=yg [1,2,3,4,5,0] a
 have b:=yp (p:=s.ok c) (yc [_,_,_,_,_] _ f) q
 refine fK a 6 ?_
 refine cl uK (vj c t s e (ye b 0 rfl)) ?_
 rintro _ m ⟨rfl,y⟩
 have g:=yk 0 b y
 have h:=(jP g).unpack
 refine j7 h 16 fun n d=>?_
 refine Sn (v:=(D5 c.win c.fL c.fN c.kK)) Tryz.results35 (oq (cs:=(HN c.win c.fL c.fN c.kK)) rfl GS rfl Dr rfl (lZ d (i:=5) (o:=0) (vs:=(HN c.win c.fL c.fN c.kK)) rfl rfl)) ?_
 exact⟨rfl,yj (yp (p:=s.ok c) (yc [_,_,_,_,_] _ d) q) ze⟩
end
section
open Go Go.Sx
theorem A7(v:Value)(xs:List Int)(x:Int)(w:World)(hv:iz 1 iw (fun _=>True) w v xs)(hs:xs.Pairwise fun a b=>a<b)(h:xs.length<=1000000) :
 CR ya 22 #[v,(Zo x)] w (fun r w' => r = .int .i64 (gK xs x:Int)/\gA [] w w'):=by
 refine en Tryz.func22 Tryz.ntmps22 ?_
 have g:=yt w
 refine fR g 9 ?_
 refine cl XY (Vm v xs x w hv hs h) ?_
 rintro _ e ⟨f,rfl,d⟩
 have c:=yq g d
 refine fQ c 14 ?_
 refine gp (v:=(Za (gK xs x:Int))) Tryz.results22 rfl ?_
 exact⟨rfl,c.gD s_⟩
theorem acL(c:WC)(F:Nat)(s:WW)(w:World)(hO:Own (WW.R c F s) w)(am:c.fN<=12) :
 CR ya 84 (Zh F) w (fun r w' => ∃ (iv ev lv:Value) (K:List Int) (L:List Lv) (es:List Ge),r = .tuple #[iv,ev,lv]/\(s.u.pK K/\s.u.mB L/\oQ K L es L.length)/\fZ (WW.R c F s) w w' (gq (D8 c F s iv K ev es lv L))):=by
 refine enter (vs:=(Zi F)) Tryz.func84 rfl Tryz.ntmps84 rfl ?_
 have aj:=yr hO
 have T:=r8 hO
 have au:=T.1.en
 have ar:=T.1.w1
 refine fR aj 10 ?_
 refine jM (vl:=(Zi F)) rfl rfl WZ (age c F s w (kV aj (i:=0) rfl) am) ?_
 rintro _ A ⟨d,b,rfl,g,ht⟩
 have p:St _ [(WW.R c F s),fM iw d 27 1 b] A:=yz (l8 (R' := (gq [(WW.R c F s),fM iw d 27 1 b])) 0 aj rfl ht rfl)
 have an:=g.len T.2.1 T.2.2
 refine fK p 1 ?_
 refine jM (vl:=(Zi F)) rfl rfl W0 (agk c F s A (kV p (i:=0) rfl)) ?_
 rintro _ D ⟨e,a,rfl,q,ht⟩
 have t:St _ [(WW.R c F s),fM Lv.cells e 107 7 a,fM iw d 27 1 b] D:=yz (l8 (R' := (gq [(WW.R c F s),fM Lv.cells e 107 7 a])) 0 p rfl ht rfl)
 have ao:=q.len T.2.1
 refine fK t 7 ?_
 refine jm (m:=a.length) 1 rfl rfl sF t rfl (rZ (cf:=Ge.cells) (z0:=⟨0,0,0⟩) (m:=a.length) (c:=a.length) rfl rfl rfl pZ zC rfl f_ d_ (zo _) o_ o_ t ?_)
 intro j l Y Z E
 have n:St _ [fM Ge.cells (Zd j a.length) 235 3 (List.replicate a.length ⟨0,0,0⟩),(WW.R c F s),fM Lv.cells e 107 7 a,fM iw d 27 1 b] l:=mu (cf:=Ge.cells) E (i:=0) rfl f_ (zo _) (by simp only[maxLen];omega)
 refine fK n 7 ?_
 refine jm (m:=a.length) 2 rfl rfl sF n rfl ?_
 have G:St _ [(WW.R c F s),fM Ge.cells (Zd j a.length) 235 3 (List.replicate a.length ⟨0,0,0⟩),fM Lv.cells e 107 7 a,fM iw d 27 1 b] l:=mS n (List.Perm.swap _ _ _)
 have H:St _ [(WW.R c F s),fM Ge.cells (Zd j a.length) 235 3 (List.replicate a.length ⟨0,0,0⟩),fM iw d 27 1 b,fM Lv.cells e 107 7 a] l:=mS G (List.Perm.cons _ (List.Perm.cons _ (List.Perm.swap _ _ _)))
 have I:St _ [(WW.R c F s),fM iw d 27 1 b,fM Ge.cells (Zd j a.length) 235 3 (List.replicate a.length ⟨0,0,0⟩),fM Lv.cells e 107 7 a] l:=mS H (List.Perm.cons _ (List.Perm.swap _ _ _))
 refine gH n 4 ?_
 refine lp (α:=Nat×List Ge×Value) (fun(k,es,ev)=>[(5,d),(6,e),(7,ev),(17,e),(18,(Za a.length)),(19,(Za k))]) (fun(k,es,ev) w1=>St [(w,(WW.R c F s).gJ)] (D8 c F s d b ev es e a) w1/\oQ b a es k/\k<=a.length) (fun(k,es,ev)=>a.length-k) (0,(List.replicate a.length ⟨0,0,0⟩),(Zd j a.length)) ⟨rfl,rfl,rfl,rfl,rfl,gr (by first|rfl|omega),trivial⟩ (⟨I,oQ.start,o_⟩) ?_
 rintro⟨k,es,ev⟩ aa ab ⟨ah,ai,aq⟩
 have ap:=ai.len
 refine fR ah 2 ?_
 by_cases ac:((k:Int):Int)<((a.length:Int):Int)
 . have ak:k<a.length:=by omega
   have hE:=g.ends T.2.1 q ak
   refine fK ah 14 ?_
   refine iR ah (fun h ad ae af J=>?_)
   refine wX J 4 fun ag M=>?_
   refine kO mixed [([0,1,2,3,4,5,7,8,9,10,12,13,14,6],[10,14]),([11],[14])] [15,16,17] M (fun N x=>jR ?_)
   refine fK x 13 ?_
   refine jM (vl:=[d,(Zo ((fJ a k).u))]) rfl rfl AG (A7 d b ((fJ a k).u) N (Sl.any (vr x (i:=2) rfl f_)) g.j5 o_) ?_
   rintro _ B ⟨rfl,O⟩
   have y:St _ (MH h (fJ a k) c F s d b ev es e a) B:=yq x O
   refine fQ y 1 ?_
   refine kJ (jR ?_)
   refine jM (vl:=[d,(Zo ((fJ a k).v))]) rfl rfl AG (A7 d b ((fJ a k).v) B (Sl.any (vr y (i:=2) rfl f_)) g.j5 o_) ?_
   rintro _ P ⟨rfl,Q⟩
   have z:St _ (MH h (fJ a k) c F s d b ev es e a) P:=yq y Q
   refine fQ z 1 ?_
   refine kJ (kU ?_)
   refine ji (pvs:=[(0,(Za (gK b ((fJ a k).u):Int))),(1,(Za (gK b ((fJ a k).v):Int))),(2,(Za ((fJ a k).wt)))]) (v:=.agg (HB (gK b ((fJ a k).u):Int) (gK b ((fJ a k).v):Int) ((fJ a k).wt))) rfl rfl (jA [(0,(Ze (gK b ((fJ a k).u):Int))),(1,(Ze (gK b ((fJ a k).v):Int))),(2,(Ze ((fJ a k).wt)))] zC acY rfl ⟨rfl,rfl,rfl,rfl,rfl,rfl,trivial⟩ rfl) (fK z 1 ?_)
   refine iQ (f:=(fun _=>(⟨(gK b ((fJ a k).u)),(gK b ((fJ a k).v)),(fJ a k).wt⟩:Ge))) 3 z (fun o C=>?_)
   refine fQ C 7 ?_
   refine tN (?_)
   have S:St _ [(WW.R c F s),blk h 107 (Z9 (fJ a k)),fM iw d 27 1 b,fM Ge.cells ev 235 3 (fO es k (fun _=>(⟨(gK b ((fJ a k).u)),(gK b ((fJ a k).v)),(fJ a k).wt⟩:Ge))),fM Lv.cells e 107 7 a] o:=mS C (List.Perm.swap _ _ _)
   have U:St _ [(WW.R c F s),fM iw d 27 1 b,blk h 107 (Z9 (fJ a k)),fM Ge.cells ev 235 3 (fO es k (fun _=>(⟨(gK b ((fJ a k).u)),(gK b ((fJ a k).v)),(fJ a k).wt⟩:Ge))),fM Lv.cells e 107 7 a] o:=mS S (List.Perm.cons _ (List.Perm.swap _ _ _))
   have V:St _ [(WW.R c F s),fM iw d 27 1 b,fM Ge.cells ev 235 3 (fO es k (fun _=>(⟨(gK b ((fJ a k).u)),(gK b ((fJ a k).v)),(fJ a k).wt⟩:Ge))),blk h 107 (Z9 (fJ a k)),fM Lv.cells e 107 7 a] o:=mS U (List.Perm.cons _ (List.Perm.cons _ (List.Perm.swap _ _ _)))
   have W:St _ [(WW.R c F s),fM iw d 27 1 b,fM Ge.cells ev 235 3 (fO es k (fun _=>(⟨(gK b ((fJ a k).u)),(gK b ((fJ a k).v)),(fJ a k).wt⟩:Ge))),fM Lv.cells e 107 7 a,blk h 107 (Z9 (fJ a k))] o:=mS V (List.Perm.cons _ (List.Perm.cons _ (List.Perm.cons _ (List.Perm.swap _ _ _))))
   have X:=St.sub (L' := (D8 c F s d b ev (fO es k (fun _=>(⟨(gK b ((fJ a k).u)),(gK b ((fJ a k).v)),(fJ a k).wt⟩:Ge))) e a)) W (List.Sublist.cons_cons _ (List.Sublist.cons_cons _ (List.Sublist.cons_cons _ (List.Sublist.cons_cons _ (List.Sublist.cons _ (List.Sublist.refl _))))))
   exact again ((k+1),fO es k (fun _=>(⟨(gK b ((fJ a k).u)),(gK b ((fJ a k).v)),(fJ a k).wt⟩:Ge)),ev) ⟨rfl,rfl,rfl,rfl,rfl,gr (by first|rfl|omega),trivial⟩ (⟨X,ai.next ak g.j5 hE.1 hE.2,o_⟩) (by show (a.length-(k+1):Nat)<a.length-k;omega)
 . refine fQ ah 21 ?_
   refine tf (v:=d) (v' := ev) (v'' := e) Tryz.results84 rfl rfl rfl ?_
   have al:k=a.length:=by omega
   exact⟨d,ev,e,b,a,es,rfl,⟨g,q,by rw[<-al];exact ai⟩,yj (R' := (gq (D8 c F s d b ev es e a))) (yc [_,_,_,_] _ ah) ze⟩
theorem T1(c:WC)(k:Nat)(s:WW)(w:World)(m:Own (WW.R c k s) w) :
 CR ya 13 (Zh k) w (fun r w' => ∃ (o:Nat),r = .tuple (Z2 o)/\fZ (WW.R c k s) w w' (Mk c k s o)):=by
 refine en Tryz.func13 Tryz.ntmps13 ?_
 have l:=yr m
 have n:=r8 m
 have t:=n.1.en
 have q:=n.1.w1
 refine fR l 10 ?_
 refine uL (a:=some ⟨k,0,none⟩) (c:=false) rfl rfl rfl Dz rfl (fK l 2 ?_)
 refine cl XP (aga c k s w (ye l 0 rfl)) ?_
 rintro _ g ⟨rfl,p⟩
 have b:=yk 0 l p
 refine PE (cs:=#[(Za c.win),(Za c.fL),(Za c.fN),(Za c.kK)]) (v:=(Za c.win)) rfl rfl GS rfl vo rfl rfl (cmp rfl rfl rfl (lC o_) (fK b 9 ?_))
 refine ji (pvs:=[(0,(Zb k))]) (v:=.agg #[(Zb k),Zn,sP,Zg,Zc,Zg,Zg,Zg,Zg,Zg,Zs,Zs,Zc]) rfl rfl (jA [(0,(Zi k))] Td acO rfl ⟨rfl,rfl,trivial⟩ rfl) (iF b (fun d h i j e=>?_))
 refine fQ e 5 ?_
 refine iH (v:=(Zb d)) (v' := Zc) Tryz.results13 rfl rfl ?_
 have f:=yg [1,0] e
 exact⟨d,rfl,yo (yc [_,_] _ f)⟩
end
section
open Go Go.Sx
def Ds.R(a n:Nat)(s:Ds):fS:=kE (s.ok n) (qJ a s)
theorem Ob(b n:Nat)(s:Ds)(w:World)(f:Own (qJ b s) w)(d:Nat->Nat)(hd:s.wO d n)(h:n<=1000000) :
 CR ya 196 (Zh b) w (fun r w' => r = .bool true/\fZ (qJ b s) w w' (qJ b s)):=by
 have j:=hd.ul
 have g:=hd.ll
 have i:=hd.sl
 refine en Tryz.func196 Tryz.ntmps196 ?_
 have e:=Own.of f
 refine fR e 8 ?_
 refine nh (a:=some ⟨b,0,none⟩) (c:=true) rfl rfl rfl Tryz.underlying277 rfl (fK e 6 ?_)
 refine Cu (a:=⟨b,0,none⟩) rfl rfl rfl Tryz.underlying277 Lp (fQ e 5 ?_)
 refine gp (v:=Zf) Tryz.results196 rfl ?_
 exact⟨rfl,yo (yc [_,_,_,_] _ e)⟩
theorem N8(e n:Nat)(s:Ds)(w:World)(g:Own (qJ e s) w)(d:Nat->Nat)(hd:s.wO d n)(h:n<=1000000)(a0:Nat)(j:a0<n) :
 CR ya 197 (Zm e a0) w (fun r w' => r = .bool true/\fZ (qJ e s) w w' (qJ e s)):=by
 have o:=hd.ul
 have k:=hd.ll
 have l:=hd.sl
 refine en Tryz.func197 Tryz.ntmps197 ?_
 have f:=Own.of g
 have b:=yc [_,_,_,_] _ f
 refine fR f 8 ?_
 refine cl OQ (Ob e n s w (ye b 0 rfl) d hd h) ?_
 rintro _ c ⟨rfl,i⟩
 have a:=(ym b i)
 refine fK a 2 ?_
 refine cmp rfl rfl rfl (nY o_) (fK a 7 ?_)
 refine jm (m:=s.up.length) 1 rfl rfl yd a rfl (cmp rfl rfl rfl (qo o_) (fQ a 5 ?_))
 refine gp (v:=Zf) Tryz.results197 rfl ?_
 exact⟨rfl,yo (yc [_,_,_,_] _ a)⟩
theorem Oa(k n:Nat)(s:Ds)(w:World)(p:Own (qJ k s) w)(d:Nat->Nat)(hd:s.wO d n)(x:n<=1000000)(a0:Nat)(q:a0<n) :
 CR ya 198 (Zm k a0) w (fun r w' => ∃ (i:Nat) (up:List Nat),r = .int .i64 (i:Int)/\(p8 d n s a0 up i/\fJ up i=i)/\fZ (qJ k s) w w' (Hw k s up)):=by
 have A:=hd.ul
 have u:=hd.ll
 have z:=hd.sl
 refine en Tryz.func198 Tryz.ntmps198 ?_
 have o:=Own.of p
 refine s9 o 11 ?_
 refine lp (α:=Nat×List Nat) (fun(i,up)=>[(0,(Zb k)),(1,(Za i)),(4,Zc)]) (fun(i,up) w1=>St [(w,(qJ k s).gJ)] (Ek k s up) w1/\p8 d n s a0 up i) (fun(i,up)=>d i) (a0,s.up) ⟨rfl,gr rO,rfl,trivial⟩ (⟨o,p8.start hd q⟩) ?_
 rintro⟨i,up⟩ c e ⟨m,l⟩
 have B:up.length=n:=l.ok.ul
 have t:=l.an
 have y:fJ up i<n:=l.ok.ub i t
 refine fR m 18 ?_
 by_cases g:((((fJ up i):Nat):Int):Int)=((i:Int):Int)
 . refine fQ m 18 ?_
   refine gp (v:=(Za i)) Tryz.results198 rfl ?_
   exact⟨i,up,rfl,⟨l,o_⟩,yo (yc [_,_,_,_] _ m)⟩
 . refine gO m 21 fun h b=>?_
   refine iQ (f:=(fun _=>(fJ up (fJ up i)))) 1 b (fun j a=>?_)
   refine fQ a 13 ?_
   refine tN (?_)
   exact again ((fJ (fO up i (fun _=>(fJ up (fJ up i)))) i),fO up i (fun _=>(fJ up (fJ up i)))) ⟨rfl,gr rO,rfl,trivial⟩ (⟨a,(l.PL o_).1⟩) (l.PL o_).2
theorem Wz(F n:Nat)(s:Ds)(w:World)(hO:Own (Ds.R F n s) w)(hn:n<=1000000)(a b:Nat)(ha:a<n)(hb:b<n) :
 CR ya 171 (Zr F a b) w (fun r w' => ∃ s2:Ds,(r = .tuple (DW (decide (fJ s.lb a≠fJ s.lb b))))/\s2.lb=js s.lb (fJ s.lb a) (fJ s.lb b)/\fZ (Ds.R F n s) w w' (Ds.R F n s2)):=by
 refine enter (vs:=(Ah F a b)) Tryz.func171 rfl Tryz.ntmps171 rfl ?_
 obtain⟨⟨d,hd⟩,aC⟩:=hO.fact
 have aE:=hd.ul
 have aD:=hd.ll
 have ax:=hd.sl
 have ay:St _ (B6 F s) w:=Own.of hO.un
 have q:=yc [_,_,_,_] _ ay
 refine fR ay 10 ?_
 refine jM (vl:=(Zi F)) rfl rfl OQ (Ob F n s w (kV q (i:=0) rfl) d hd hn) ?_
 rintro _ t ⟨rfl,T⟩
 have u:St _ (B6 F s) t:=(l8 (R' := (qJ F s)) 0 q rfl T rfl).unpack
 have x:=yc [_,_,_,_] _ u
 refine fK u 11 ?_
 refine jM (vl:=(tD F a)) rfl rfl OR (N8 F n s t (kV x (i:=0) rfl) d hd hn a o_) ?_
 rintro _ y ⟨rfl,T⟩
 have z:St _ (B6 F s) y:=(l8 (R' := (qJ F s)) 0 x rfl T rfl).unpack
 have A:=yc [_,_,_,_] _ z
 refine fK z 4 ?_
 refine jM (vl:=(tD F b)) rfl rfl OR (N8 F n s y (kV A (i:=0) rfl) d hd hn b o_) ?_
 rintro _ B ⟨rfl,T⟩
 have C:St _ (B6 F s) B:=(l8 (R' := (qJ F s)) 0 A rfl T rfl).unpack
 have D:=yc [_,_,_,_] _ C
 refine fK C 11 ?_
 refine jM (vl:=(tD F a)) rfl rfl OS (Oa F n s B (kV D (i:=0) rfl) d hd hn a o_) ?_
 rintro _ E ⟨g,o,rfl,k,T⟩
 have G:St _ (Ek F s o) E:=(l8 (R' := (Hw F s o)) 0 D rfl T rfl).unpack
 have P:=k.1.ok
 have au:=k.1.an
 have H:=yc [_,_,_,_] _ G
 refine fK G 2 ?_
 refine jM (vl:=(tD F b)) rfl rfl OS (Oa F n (s.wu o) E (kV H (i:=0) rfl) d P hn b o_) ?_
 rintro _ Q ⟨h,j,rfl,I,T⟩
 have l:St _ (Ek F s j) Q:=(l8 (R' := (Hw F s j)) 0 H rfl T rfl).unpack
 obtain⟨ap,az,aB,au,aA,av,aw,aq⟩:=k.1.two k.2 I.1 I.2
 have aF:j.length=n:=ap.ul
 refine fK l 9 ?_
 by_cases Z:((g:Int):Int)=((h:Int):Int)
 . refine fQ l 12 ?_
   refine iH (v:=Zn) (v' := Zc) Tryz.results171 rfl rfl ?_
   exact⟨(s.wu j),congrArg (fun b=>Value.tuple (DW b)) (by rw[eq_comm,decide_eq_false_iff_not,Decidable.not_not];exact aq.1 o_),(by rw[aq.1 o_,Q7];rfl),yj (R' := (Ds.R F n (s.wu j))) (yp (p:=Ds.ok n (s.wu j)) (yc [_,_,_,_] _ l) (⟨⟨d,ap⟩,aC⟩)) ze⟩
 . refine gO l 23 fun aa m=>?_
   by_cases ab:((fJ s.sz g):Int)<((fJ s.sz h):Int)
   . refine fK m 20 ?_
     refine iQ (f:=(fun _=>h)) 1 m (fun ac S=>?_)
     refine gO S 18 fun ad J=>?_
     refine ar (a:=(fJ s.sz h)) (b:=(fJ s.sz g)) (c:=(fJ s.sz h)+(fJ s.sz g)) (e:=IntKind.i64.wrap ((fJ s.sz h)+(fJ s.sz g))) rfl rfl rfl rfl rfl (fK J 1 ?_)
     refine iQ (f:=(fun _=>IntKind.i64.wrap ((fJ s.sz h)+(fJ s.sz g)))) 3 J (fun ae U=>?_)
     refine gO U 23 fun af K=>?_
     refine min2 (a:=(((fJ s.le h):Nat):Int)) (b:=(((fJ s.le g):Nat):Int)) (c:=((min (fJ s.le h) (fJ s.le g):Nat):Int)) rfl rfl rfl FD (fK K 1 ?_)
     refine iQ (f:=(fun _=>(min (fJ s.le h) (fJ s.le g)))) 2 K (fun ag L=>?_)
     refine fK L 8 ?_
     refine ar (a:=s.cnt) (b:=1) (c:=s.cnt-1) (e:=IntKind.i64.wrap (s.cnt-1)) rfl rfl rfl rfl rfl (j7 L 12 fun ah V=>?_)
     refine iH (v:=Zf) (v' := Zc) Tryz.results171 rfl rfl ?_
     exact⟨(⟨s.uv,s.lv,s.sv,fO j g (fun _=>h),fO s.le h (fun _=>(min (fJ s.le h) (fJ s.le g))),fO s.sz h (fun _=>IntKind.i64.wrap ((fJ s.sz h)+(fJ s.sz g))),IntKind.i64.wrap (s.cnt-1),js s.lb (fJ s.lb h) (fJ s.lb g)⟩:Ds),congrArg (fun b=>Value.tuple (DW b)) (by rw[eq_comm,decide_eq_true_iff];exact fun e=>absurd (aq.2 e) o_),Q5.trans (Q6 av aw),yj (R' := (Ds.R F n (⟨s.uv,s.lv,s.sv,fO j g (fun _=>h),fO s.le h (fun _=>(min (fJ s.le h) (fJ s.le g))),fO s.sz h (fun _=>IntKind.i64.wrap ((fJ s.sz h)+(fJ s.sz g))),IntKind.i64.wrap (s.cnt-1),js s.lb (fJ s.lb h) (fJ s.lb g)⟩:Ds))) (yp (p:=Ds.ok n (⟨s.uv,s.lv,s.sv,fO j g (fun _=>h),fO s.le h (fun _=>(min (fJ s.le h) (fJ s.le g))),fO s.sz h (fun _=>IntKind.i64.wrap ((fJ s.sz h)+(fJ s.sz g))),IntKind.i64.wrap (s.cnt-1),js s.lb (fJ s.lb h) (fJ s.lb g)⟩:Ds)) (yc [_,_,_,_] _ V) (Ds.join ap aA au aB az o_ (by rw[gC];exact ax) (TR ap.K8 (GD _)) rfl (GD _))) ze⟩
   . refine fK m 15 ?_
     refine iQ (f:=(fun _=>g)) 1 m (fun ai W=>?_)
     refine gO W 18 fun aj M=>?_
     refine ar (a:=(fJ s.sz g)) (b:=(fJ s.sz h)) (c:=(fJ s.sz g)+(fJ s.sz h)) (e:=IntKind.i64.wrap ((fJ s.sz g)+(fJ s.sz h))) rfl rfl rfl rfl rfl (fK M 1 ?_)
     refine iQ (f:=(fun _=>IntKind.i64.wrap ((fJ s.sz g)+(fJ s.sz h)))) 3 M (fun ak X=>?_)
     refine gO X 23 fun al N=>?_
     refine min2 (a:=(((fJ s.le g):Nat):Int)) (b:=(((fJ s.le h):Nat):Int)) (c:=((min (fJ s.le g) (fJ s.le h):Nat):Int)) rfl rfl rfl FD (fK N 1 ?_)
     refine iQ (f:=(fun _=>(min (fJ s.le g) (fJ s.le h)))) 2 N (fun am O=>?_)
     refine fK O 8 ?_
     refine ar (a:=s.cnt) (b:=1) (c:=s.cnt-1) (e:=IntKind.i64.wrap (s.cnt-1)) rfl rfl rfl rfl rfl (j7 O 12 fun ao Y=>?_)
     refine iH (v:=Zf) (v' := Zc) Tryz.results171 rfl rfl ?_
     exact⟨(⟨s.uv,s.lv,s.sv,fO j h (fun _=>g),fO s.le g (fun _=>(min (fJ s.le g) (fJ s.le h))),fO s.sz g (fun _=>IntKind.i64.wrap ((fJ s.sz g)+(fJ s.sz h))),IntKind.i64.wrap (s.cnt-1),js s.lb (fJ s.lb g) (fJ s.lb h)⟩:Ds),congrArg (fun b=>Value.tuple (DW b)) (by rw[eq_comm,decide_eq_true_iff];exact fun e=>absurd (aq.2 e) o_),Q6 av aw,yj (R' := (Ds.R F n (⟨s.uv,s.lv,s.sv,fO j h (fun _=>g),fO s.le g (fun _=>(min (fJ s.le g) (fJ s.le h))),fO s.sz g (fun _=>IntKind.i64.wrap ((fJ s.sz g)+(fJ s.sz h))),IntKind.i64.wrap (s.cnt-1),js s.lb (fJ s.lb g) (fJ s.lb h)⟩:Ds))) (yp (p:=Ds.ok n (⟨s.uv,s.lv,s.sv,fO j h (fun _=>g),fO s.le g (fun _=>(min (fJ s.le g) (fJ s.le h))),fO s.sz g (fun _=>IntKind.i64.wrap ((fJ s.sz g)+(fJ s.sz h))),IntKind.i64.wrap (s.cnt-1),js s.lb (fJ s.lb g) (fJ s.lb h)⟩:Ds)) (yc [_,_,_,_] _ Y) (Ds.join ap au aA az aB o_ (by rw[gC];exact ax) (TR ap.K8 (GD _)) rfl (GD _))) ze⟩
abbrev RX:List (List Nat):=[[],[0],[],[2],[],[4],[],[0,1,2,3,4,5,6],[0,1,2,3,4,5,6,7],[0,1,2,3,4,5,6,7,8]]
abbrev D7 a b c d e f g:=([Ds.R a b c,fM fW d 3 1 e,ir .i64 f 3 g]:List fS)
abbrev HK(a:Nat) b c d e f g h i:=([ir .i64 (Z6 a) 3 b,Ds.R c d e,fM fW f 3 1 g,ir .i64 h 3 i]:List fS)
theorem Wt(n:Nat)(w:World)(hn:n<=65536) :
 CR ya 169 (Z8 n) w (fun r w' => ∃ (Z:Nat) (s:Ds),r = .tuple (Z2 Z)/\s.lb=List.range n/\fZ (gq []) w w' (Ds.R Z n s)):=by
 refine en Tryz.func169 Tryz.ntmps169 ?_
 have V:=yt w
 refine fR V 10 ?_
 refine cmp rfl rfl rfl (lC o_) (fK V 2 ?_)
 refine cmp rfl rfl rfl (pR o_) (gH V 7 ?_)
 have t:AQ RX [1,3,5,8] [(5,fun a=>blk a 3 ((List.replicate n 0).flatMap fW)),(3,fun b=>blk b 3 ((List.replicate n 0).flatMap fW)),(1,fun e=>blk e 3 ((List.replicate n 0).flatMap fW))] 8:=J4 (is:=[5,3,1]) rfl d_
 refine KF mixed RX [1,3,5,8] [(5,fun a=>blk a 3 ((List.replicate n 0).flatMap fW)),(3,fun b=>blk b 3 ((List.replicate n 0).flatMap fW)),(1,fun e=>blk e 3 ((List.replicate n 0).flatMap fW))] 8 k_ rfl [fun g=>(Za n),fun g=>(Zd (g 1) n),fun g=>(Za n),fun g=>(Zd (g 3) n),fun g=>(Za n),fun g=>(Zd (g 5) n),fun g=>(Za n),fun g=>(HY (g 1) n (g 3) (g 5)),fun g=>(Zb (g 8)),fun g=>(Zb (g 8))] (fun g=>[blk (g 8) 294 (Mi (g 1) n (g 3) (g 5)),blk (g 5) 3 ((List.replicate n 0).flatMap fW),blk (g 3) 3 ((List.replicate n 0).flatMap fW),blk (g 1) 3 ((List.replicate n 0).flatMap fW)]) (fun g=>(4,(Zb (g 8))) :: (20,(Zb (g 8))) :: (19,(HY (g 1) n (g 3) (g 5))) :: (18,(Za n)) :: (17,(Zd (g 5) n)) :: (16,(Za n)) :: (15,(Zd (g 3) n)) :: (14,(Za n)) :: (13,(Zd (g 1) n)) :: (12,(Za n)) :: _) V ?_ f_ ?_
 . skip
   refine mM rfl (fun g _ _=>qv rfl rfl (k7 (v:=(Za n)) rfl)) (s8 t (R:=fun e=>blk e 3 ((List.replicate n 0).flatMap fW)) (val:=fun e=>(Zd e n)) s_ (fun _ _=>rfl) (fun g Y L F N T=>rX (cf:=fW) (z0:=0) (m:=n) (c:=n) rfl rfl rfl yd gy rfl f_ d_ (zo _) o_ o_ F (fun aa _ h=>T aa _ h)) (fun _ _=>kS rfl sT) (mM rfl (fun g _ _=>qv rfl rfl (k7 (v:=(Za n)) rfl)) (s8 t (R:=fun b=>blk b 3 ((List.replicate n 0).flatMap fW)) (val:=fun b=>(Zd b n)) s_ (fun _ _=>rfl) (fun g Y L F N T=>rX (cf:=fW) (z0:=0) (m:=n) (c:=n) rfl rfl rfl yd gy rfl f_ d_ (zo _) o_ o_ F (fun ab _ h=>T ab _ h)) (fun _ _=>kS rfl sT) (mM rfl (fun g _ _=>qv rfl rfl (k7 (v:=(Za n)) rfl)) (s8 t (R:=fun a=>blk a 3 ((List.replicate n 0).flatMap fW)) (val:=fun a=>(Zd a n)) s_ (fun _ _=>rfl) (fun g Y L F N T=>rX (cf:=fW) (z0:=0) (m:=n) (c:=n) rfl rfl rfl yd gy rfl f_ d_ (zo _) o_ o_ F (fun ac _ h=>T ac _ h)) (fun _ _=>kS rfl sT) (mM rfl (fun g _ _=>qv rfl rfl (k7 (v:=(Za n)) rfl)) (mM rfl (fun g _ _=>qv rfl rfl (Cb (pvs:=[(1,(Zd (g 1) n)),(2,(Zd (g 3) n)),(3,(Zd (g 5) n)),(4,(Za n))]) (v:=.agg #[Zs,(Zd (g 1) n),(Zd (g 3) n),(Zd (g 5) n),(Za n)]) rfl (jA [(1,(qi (g 1) n)),(2,(qi (g 3) n)),(3,(qi (g 5) n)),(4,(Ze n))] Lp ac0 rfl ⟨rfl,rfl,rfl,rfl,rfl,rfl,rfl,rfl,trivial⟩ rfl))) ?_)))))))
   refine Kg t (val:=fun d=>(Zb d)) (fun _ _=>rfl) (fun g Y F N T=>JR (v:=(HY (g 1) n (g 3) (g 5))) (cs:=(Mi (g 1) n (g 3) (g 5))) rfl rfl rfl F (fun ad _ h=>T ad _ h)) (fun _ _=>kS rfl sT) (mM rfl (fun g _ _=>qv rfl rfl (vX (v:=(Zb (g 8))) rfl)) ?_)
   exact Kh
 intro u x q
 generalize u 1=e at q ⊢
 generalize u 3=b at q ⊢
 generalize u 5=a at q ⊢
 generalize u 8=d at q ⊢
 have y:St _ [blk d 294 [(.pointer none),(.slice (some ⟨e,0,none⟩) n n),(.slice (some ⟨b,0,none⟩) n n),(.slice (some ⟨a,0,none⟩) n n),(.int .i64 n)],blk a 3 ((List.replicate n 0).flatMap fW),blk b 3 ((List.replicate n 0).flatMap fW),fM fW (.slice (some ⟨e,0,none⟩) n n) 3 1 (List.replicate n 0)] x:=mu (cf:=fW) q (i:=3) rfl f_ (zo _) (by simp only[maxLen];omega)
 generalize (Value.slice (some ⟨e,0,none⟩) n n)=j at y ⊢
 have z:St _ [blk d 294 [(.pointer none),j,(.slice (some ⟨b,0,none⟩) n n),(.slice (some ⟨a,0,none⟩) n n),(.int .i64 n)],blk a 3 ((List.replicate n 0).flatMap fW),fM fW (.slice (some ⟨b,0,none⟩) n n) 3 1 (List.replicate n 0),fM fW j 3 1 (List.replicate n 0)] x:=mu (cf:=fW) y (i:=2) rfl f_ (zo _) (by simp only[maxLen];omega)
 generalize (Value.slice (some ⟨b,0,none⟩) n n)=l at z ⊢
 have A:St _ [blk d 294 [(.pointer none),j,l,(.slice (some ⟨a,0,none⟩) n n),(.int .i64 n)],fM fW (.slice (some ⟨a,0,none⟩) n n) 3 1 (List.replicate n 0),fM fW l 3 1 (List.replicate n 0),fM fW j 3 1 (List.replicate n 0)] x:=mu (cf:=fW) z (i:=1) rfl f_ (zo _) (by simp only[maxLen];omega)
 generalize (Value.slice (some ⟨a,0,none⟩) n n)=o at A ⊢
 refine sQP tt none A 18 fun E G=>?_
 have H:=yg [0,3,2,1] G
 have I:St _ [blk d 294 [(Zb d),j,l,o,(Za n)],fM fW j 3 1 (List.replicate n 0),fM fW l 3 1 (List.replicate n 0),fM gh o 3 1 (List.replicate n 0)] E:=ad3 o▸H
 refine lp (α:=Nat×List Nat×List Nat×List Int) (fun(k,up,le,sz)=>[(0,(Za n)),(2,Zs),(3,Zc),(4,(Zb d)),(25,(Za n)),(26,(Za k))]) (fun(k,up,le,sz) w1=>St [(w,[])] [blk d 294 [(Zb d),j,l,o,(Za n)],fM fW j 3 1 up,fM fW l 3 1 le,fM gh o 3 1 sz] w1/\sK n k up le sz/\k<=n) (fun(k,up,le,sz)=>n-k) (0,List.replicate n 0,List.replicate n 0,List.replicate n 0) ⟨rfl,rfl,rfl,rfl,rfl,gr rO,trivial⟩ (⟨I,sK.start,o_⟩) ?_
 rintro⟨k,up,le,sz⟩ K M ⟨W,X,ae⟩
 obtain⟨ah,af,ag⟩:=X.len ae
 refine fR W 2 ?_
 by_cases O:((k:Int):Int)<((n:Int):Int)
 . refine gO W 34 fun P J=>?_
   refine iQ (f:=(fun _=>k)) 1 J (fun Q B=>?_)
   refine fK B 1 ?_
   refine iQ (f:=(fun _=>k)) 2 B (fun S C=>?_)
   refine fK C 1 ?_
   refine iQ (f:=(fun _=>1)) (cf:=gh) 3 C (fun U D=>?_)
   refine fQ D 7 ?_
   refine tN (?_)
   exact again ((k+1),fO up k (fun _=>k),fO le k (fun _=>k),fO sz k (fun _=>1)) ⟨rfl,rfl,rfl,rfl,rfl,gr rO,trivial⟩ (⟨D,X.next o_,o_⟩) (by show (n-(k+1):Nat)<n-k;omega)
 . refine fQ W 18 ?_
   refine iH (v:=(Zb d)) (v' := Zc) Tryz.results169 rfl rfl ?_
   obtain rfl:k=n:=by omega
   obtain⟨rfl,rfl,rfl⟩:=X.fin
   exact⟨d,(⟨j,l,o,List.range k,List.range k,List.replicate k 1,(k:Int),List.range k⟩:Ds),rfl,rfl,vq (yp (p:=Ds.ok k (⟨j,l,o,List.range k,List.range k,List.replicate k 1,(k:Int),List.range k⟩:Ds)) (yc [_,_,_,_] _ W) (Ds.tQ (kH o_))) s_⟩
end
section
open Go Go.Sx
theorem VG(v:Value)(xs:List Ge)(w:World)(hv:iz 3 Ge.cells (fun _=>True) w v xs)(m:xs.length<=1000000) :
 CR ya 190 #[v] w (fun r w' => qb 3 Ge.cells w w' r 235 xs/\gA [] w w'):=by
 refine en Tryz.func190 Tryz.ntmps190 ?_
 have l:=yt w
 refine fR l 9 ?_
 refine Ct (v:=v) rfl rfl rfl pZ hv (gH l 2 ?_)
 cases e:(wK v:Bool)
 . skip
   refine fR l 5 ?_
   refine kj (vs:=[]) (cs:=[]) rfl rfl pZ zC rfl (by intro v hv;simp at hv) rfl rfl rfl l ?_
   intro f g h i c
   have d:=c
   refine fK c 1 ?_
   refine mW (cf:=Ge.cells) (ys:=[]) (zs:=xs) (LL:=fun a=>[fM Ge.cells a 235 3 xs]) 0 rfl rfl rfl pZ zC rfl d_ d rfl (iz.src (yw d s_ d_ hv) f_) (xY f_ _) (by simp only[zn];omega) (by simp only[zn];omega) f_ (fun a j b k=>fQ b 4 ?_)
   refine gp (v:=a) Tryz.results190 rfl ?_
   exact⟨DD b s_,b.gD s_⟩
 . skip
   refine iS l 8 ?_
   refine gp (v:=Zg) Tryz.results190 rfl ?_
   obtain rfl:=CX e hv
   exact⟨qb.CW, l.gD s_⟩
def Gr.R(a n:Nat)(r:Gr)(es:List Ge):fS:=gq (HJ a r.ev r.sv r.lv es (ua n es) (lsF n es))
abbrev RY:List (List Nat):=[[],[],[1],[1,2],[],[4],[4,5],[4,5,6],[0,1,2,3,4,5,6,7],[0,1,2,3,4,5,6,7,8],[0,1,2,3,4,5,6,7,8,9]]
theorem Y2(v:Value)(n:Nat)(es:List Ge)(w:World)(hO:Own (B0 v es) w)(hg:qg n es)(hn:n<=65536)(hm:es.length<=65536) :
 CR ya 189 #[(Za n),v] w (fun r w' => ∃ (gb:Nat) (q:Gr),r = .pointer (some ⟨gb,0,none⟩)/\fZ (B0 v es) w w' (Gr.R gb n q es)):=by
 refine en Tryz.func189 Tryz.ntmps189 ?_
 have a3:=yr hO
 refine s9 a3 6 ?_
 have y:AQ RY [3,7,9] [(7,fun d=>blk d 3 ((List.replicate (2*es.length) 0).flatMap fW)),(3,fun j=>blk j 3 ((List.replicate (n+1) 0).flatMap fW))] 9:=J4 (is:=[7,3]) rfl d_
 refine KF mixed RY [3,7,9] [(7,fun d=>blk d 3 ((List.replicate (2*es.length) 0).flatMap fW)),(3,fun j=>blk j 3 ((List.replicate (n+1) 0).flatMap fW))] 9 k_ rfl [fun g=>v,fun g=>(Za n),fun g=>(Za ((n+1:Nat):Int)),fun g=>(Zd (g 3) (n+1)),fun g=>v,fun g=>(Za es.length),fun g=>(Za ((2*es.length:Nat):Int)),fun g=>(Zd (g 7) (2*es.length)),fun g=>(HZ v (g 3) (n+1) (g 7) (2*es.length)),fun g=>(Zb (g 9)),fun g=>(Zb (g 9))] (fun g=>[blk (g 9) 305 (Mj v (g 3) (n+1) (g 7) (2*es.length)),blk (g 7) 3 ((List.replicate (2*es.length) 0).flatMap fW),blk (g 3) 3 ((List.replicate (n+1) 0).flatMap fW),fM Ge.cells v 235 3 es]) (fun g=>(5,(Zb (g 9))) :: (23,(Zb (g 9))) :: (22,(HZ v (g 3) (n+1) (g 7) (2*es.length))) :: (21,(Zd (g 7) (2*es.length))) :: (20,(Za ((2*es.length:Nat):Int))) :: (19,(Za es.length)) :: (18,v) :: (17,(Zd (g 3) (n+1))) :: (16,(Za ((n+1:Nat):Int))) :: (15,(Za n)) :: (14,v) :: _) a3 ?_ f_ ?_
 . skip
   refine mM rfl (fun g _ _=>qv rfl rfl (k7 (v:=v) rfl)) (mM rfl (fun g _ _=>qv rfl rfl (k7 (v:=(Za n)) rfl)) (mM rfl (fun g _ _=>qv rfl rfl (Ep (e:=((n+1:Nat):Int)) rfl rfl rfl i7)) (s8 y (R:=fun j=>blk j 3 ((List.replicate (n+1) 0).flatMap fW)) (val:=fun j=>(Zd j (n+1))) s_ (fun _ _=>rfl) (fun g wq L hM N kM=>rX (cf:=fW) (z0:=0) (m:=(n+1)) (c:=(n+1)) rfl rfl rfl yd gy rfl f_ d_ (zo _) o_ o_ hM (fun a7 _ h=>kM a7 _ h)) (fun _ _=>kS rfl sT) (mM rfl (fun g _ _=>qv rfl rfl (k7 (v:=v) rfl)) (mM rfl (fun g _ _=>qv rfl rfl (JL (v:=v) rfl pZ (iO (cf:=Ge.cells) a3 0 rfl))) (mM rfl (fun g _ _=>qv rfl rfl (Ep (e:=((2*es.length:Nat):Int)) rfl rfl rfl i7)) (s8 y (R:=fun d=>blk d 3 ((List.replicate (2*es.length) 0).flatMap fW)) (val:=fun d=>(Zd d (2*es.length))) s_ (fun _ _=>rfl) (fun g wq L hM N kM=>rX (cf:=fW) (z0:=0) (m:=(2*es.length)) (c:=(2*es.length)) rfl rfl rfl yd gy rfl f_ d_ (zo _) o_ o_ hM (fun a8 _ h=>kM a8 _ h)) (fun _ _=>kS rfl sT) ?_)))))))
   refine mM rfl (fun g _ _=>qv rfl rfl (Cb (pvs:=[(1,v),(2,(Zd (g 3) (n+1))),(3,(Zd (g 7) (2*es.length)))]) (v:=.agg #[Zs,v,(Zd (g 3) (n+1)),(Zd (g 7) (2*es.length))]) rfl (jA [(1,[v]),(2,(qi (g 3) (n+1))),(3,(qi (g 7) (2*es.length)))] TC ac1 rfl ⟨rfl,(cells_one (yu a3 (i:=0) rfl)),rfl,rfl,rfl,rfl,trivial⟩ rfl))) (Kg y (val:=fun b=>(Zb b)) (fun _ _=>rfl) (fun g wq hM N kM=>JR (v:=(HZ v (g 3) (n+1) (g 7) (2*es.length))) (cs:=(Mj v (g 3) (n+1) (g 7) (2*es.length))) rfl rfl rfl hM (fun a9 _ h=>kM a9 _ h)) (fun _ _=>kS rfl sT) (mM rfl (fun g _ _=>qv rfl rfl (vX (v:=(Zb (g 9))) rfl)) ?_))
   exact Kh
 intro A K p
 generalize A 3=j at p ⊢
 generalize A 7=d at p ⊢
 generalize A 9=b at p ⊢
 have M:St _ [blk b 305 [(.pointer none),v,(.slice (some ⟨j,0,none⟩) (n+1) (n+1)),(.slice (some ⟨d,0,none⟩) (2*es.length) (2*es.length))],blk d 3 ((List.replicate (2*es.length) 0).flatMap fW),fM fW (.slice (some ⟨j,0,none⟩) (n+1) (n+1)) 3 1 (List.replicate (n+1) 0),fM Ge.cells v 235 3 es] K:=mu (cf:=fW) p (i:=2) rfl f_ (zo _) (by simp only[maxLen];omega)
 generalize (Value.slice (some ⟨j,0,none⟩) (n+1) (n+1))=a at M ⊢
 have O:St _ [blk b 305 [(.pointer none),v,a,(.slice (some ⟨d,0,none⟩) (2*es.length) (2*es.length))],fM fW (.slice (some ⟨d,0,none⟩) (2*es.length) (2*es.length)) 3 1 (List.replicate (2*es.length) 0),fM fW a 3 1 (List.replicate (n+1) 0),fM Ge.cells v 235 3 es] K:=mu (cf:=fW) M (i:=1) rfl f_ (zo _) (by simp only[maxLen];omega)
 generalize (Value.slice (some ⟨d,0,none⟩) (2*es.length) (2*es.length))=l at O ⊢
 refine KQ tt none O 14 fun av B=>?_
 refine jm (m:=es.length) 3 rfl rfl pZ B rfl ?_
 have U:=yg [0,3,2,1] B
 have V:=yx 2 U rfl (congrArg (fM fW a 3 1) (aev))
 refine gH B 4 ?_
 refine lp (α:=Nat) (fun i=>[(0,(Za n)),(1,v),(4,Zs),(5,(Zb b)),(28,v),(29,(Za es.length)),(30,(Za i))]) (fun i w1=>St [(w,(B0 v es).gJ)] (HJ b v a l es (ot n (iV (es.take i))) (List.replicate (2*es.length) 0)) w1/\i<=es.length) (fun i=>es.length-i) 0 ⟨rfl,rfl,rfl,rfl,rfl,rfl,gr rO,trivial⟩ (⟨V,o_⟩) ?_
 rintro i aw ax ⟨aZ,hi⟩
 have bj:(iV (es.take i)).length<=2*i:=by rw[xU,z8];omega
 have bp:=wY (n:=n) (E:=iV (es.take i))
 refine fR aZ 2 ?_
 by_cases ay:((i:Int):Int)<((es.length:Int):Int)
 . have a5:i<es.length:=by omega
   have a4:=hg.at a5
   have bn:=SS (E:=iV (es.take i)) (show (fJ es i).u+1<=n by omega)
   refine fK aZ 13 ?_
   refine iR aZ (fun az aA aB aC W=>?_)
   refine gO W 11 fun aD C=>?_
   refine ar (e:=((((fJ es i).u)+1:Nat):Int)) rfl rfl rfl rfl i7 (fK C 2 ?_)
   refine ar (e:=(((fJ (ot n (iV (es.take i))) (((fJ es i).u)+1))+1:Nat):Int)) rfl rfl rfl rfl i7 (fK C 1 ?_)
   refine iQ (f:=(fun _=>((fJ (ot n (iV (es.take i))) (((fJ es i).u)+1))+1))) 3 C (fun aE P=>?_)
   have X:=yx 3 P rfl (congrArg (fM fW a 3 1) (SO a4.1))
   have ba:=SS (E:=iV (es.take i)++[(fJ es i).u]) (show (fJ es i).v+1<=n by omega)
   refine gH P 2 ?_
   rw[zw,List.length_singleton]at ba
   have bs:=wY (n:=n) (E:=iV (es.take i)++[(fJ es i).u])
   refine q7 X 7 fun aF D=>?_
   refine ar (e:=((((fJ es i).v)+1:Nat):Int)) rfl rfl rfl rfl i7 (fK D 2 ?_)
   refine ar (e:=(((fJ (ot n (iV (es.take i)++[(fJ es i).u])) (((fJ es i).v)+1))+1:Nat):Int)) rfl rfl rfl rfl i7 (fK D 1 ?_)
   refine iQ (f:=(fun _=>((fJ (ot n (iV (es.take i)++[(fJ es i).u])) (((fJ es i).v)+1))+1))) 3 D (fun aG Q=>?_)
   refine fQ Q 7 ?_
   refine tN (?_)
   have Y:=yg [1,2,3,4] Q
   have Z:=yx 2 Y rfl (congrArg (fM fW a 3 1) ((SO a4.2.1).trans (congrArg (ot n) (show iV (es.take i)++[(fJ es i).u]++[(fJ es i).v]=iV (es.take (i+1)) by rw[WE a5];simp))))
   exact again (i+1) ⟨rfl,rfl,rfl,rfl,rfl,rfl,gr rO,trivial⟩ (⟨Z,o_⟩) (by show (es.length-(i+1):Nat)<es.length-i;omega)
 . have bc:i=es.length:=by omega
   have bi:es.take i=es:=by rw[bc,qB]
   have aa:=yx 2 aZ rfl (congrArg (fM fW a 3 1) ((congrArg (fun z=>ot n (iV z)) bi).trans aex))
   refine gH aZ 18 ?_
   refine lp (α:=Nat) (fun k=>[(0,(Za n)),(1,v),(4,Zs),(5,(Zb b)),(57,(Za n)),(58,(Za k))]) (fun k w1=>St [(w,(B0 v es).gJ)] (HJ b v a l es (mP n (iV es) k) (List.replicate (2*es.length) 0)) w1/\k<=n) (fun k=>n-k) 0 ⟨rfl,rfl,rfl,rfl,rfl,gr rO,trivial⟩ (⟨aa,o_⟩) ?_
   rintro k aH ab ⟨a0,hk⟩
   have bk:=xU es
   have bt:=yY (n:=n) (k:=k) (E:=iV es)
   refine fR a0 2 ?_
   by_cases aI:((k:Int):Int)<((n:Int):Int)
   . have bd:k<n:=by omega
     have bm:=SU (E:=iV es) (k:=k) (show k+1<=n by omega)
     have bl:=SU (E:=iV es) (k:=k) (show k<=n by omega)
     refine gO a0 21 fun aJ G=>?_
     refine ar (e:=((k+1:Nat):Int)) rfl rfl rfl rfl i7 (fK G 9 ?_)
     refine ar (e:=(((fJ (mP n (iV es) k) (k+1))+(fJ (mP n (iV es) k) k):Nat):Int)) rfl rfl rfl rfl i7 (fK G 1 ?_)
     refine iQ (f:=(fun _=>((fJ (mP n (iV es) k) (k+1))+(fJ (mP n (iV es) k) k)))) 2 G (fun aK S=>?_)
     refine fQ S 7 ?_
     refine tN (?_)
     have ac:=yx 2 S rfl (congrArg (fM fW a 3 1) (aew bd))
     exact again (k+1) ⟨rfl,rfl,rfl,rfl,rfl,gr rO,trivial⟩ (⟨ac,o_⟩) (by show (n-(k+1):Nat)<n-k;omega)
   . refine fK a0 16 ?_
     refine cl IG (It a (mP n (iV es) k) ab (iO a0 2 rfl).any (by first|omega|(simp;omega))) ?_
     rintro o ad hz
     have s:St _ [fM fW o 3 1 (mP n (iV es) k),blk b 305 [(Zb b),v,a,l],fM Ge.cells v 235 3 es,fM fW a 3 1 (mP n (iV es) k),fM fW l 3 1 (List.replicate (2*es.length) 0)] ad:=xe a0 hz.2 hz.1
     refine fK s 7 ?_
     refine jm (m:=es.length) 2 rfl rfl pZ s rfl ?_
     have ae:=yg [1,2,3,4,0] s
     have a6:k=n:=by omega
     have af:=yx 2 ae rfl (congrArg (fM fW a 3 1) (congrArg (mP n (iV es)) a6))
     have ag:=yx 4 af rfl (congrArg (fM fW o 3 1) ((congrArg (mP n (iV es)) a6).trans aci))
     have ah:=yx 3 ag rfl (congrArg (fM fW l 3 1) (congrArg (fun z=>List.replicate z 0) (xU es).symm))
     refine gH s 4 ?_
     refine lp (α:=Nat) (fun F=>[(0,(Za n)),(4,Zs),(5,(Zb b)),(9,o),(84,v),(85,(Za es.length)),(86,(Za F))]) (fun F w1=>St [(w,(B0 v es).gJ)] [blk b 305 [(Zb b),v,a,l],fM Ge.cells v 235 3 es,fM fW a 3 1 (ua n es),fM fW l 3 1 (qU n (iV es) (2*F)),fM fW o 3 1 (oM n (iV es) (2*F))] w1/\F<=es.length) (fun F=>es.length-F) 0 ⟨rfl,rfl,rfl,rfl,rfl,rfl,gr rO,trivial⟩ (⟨ah,o_⟩) ?_
     rintro F aL aM ⟨a1,bo⟩
     have bf:=JN (n:=n) (E:=iV es) (2*F)
     have br:=yO (n:=n) (E:=iV es) (k:=2*F)
     rw[xU]at bf
     refine fR a1 2 ?_
     by_cases aN:((F:Int):Int)<((es.length:Int):Int)
     . have T:F<es.length:=by omega
       have a2:=hg.at T
       refine fK a1 14 ?_
       refine iR a1 (fun aO aP aQ aR ai=>?_)
       refine gO ai 10 fun aS t=>?_
       refine ji (pvs:=[(0,(Za ((fJ es F).u:Int))),(1,(Za ((fJ es F).v:Int)))]) (v:=.agg (Zz ((fJ es F).u:Int) ((fJ es F).v:Int))) rfl rfl (uG [(0,(Ze ((fJ es F).u:Int))),(1,(Ze ((fJ es F).v:Int)))] Gk yn gy rfl ⟨rfl,rfl,rfl,rfl,trivial⟩ rfl s_) (gH t 4 ?_)
       refine ru 3 (iD (fR t 13 ?_))
       refine mJ (i:=0) rfl rfl rfl yn yf rfl gy d_ rfl ?_
       have bh:=Rj a2.1 (AB T).1
       refine gH t 4 ?_
       rw[xU]at bh
       refine q7 t 11 fun aT aj=>?_
       refine iQ (f:=(fun _=>F)) 4 aj (fun aU H=>?_)
       refine fK H 7 ?_
       refine ar (e:=(((fJ (oM n (iV es) (2*F)) ((fJ es F).u))+1:Nat):Int)) rfl rfl rfl rfl i7 (fK H 1 ?_)
       refine iQ (f:=(fun _=>((fJ (oM n (iV es) (2*F)) ((fJ es F).u))+1))) 5 H (fun aV x=>?_)
       refine fQ x 7 ?_
       refine tN (?_)
       refine iD (fR x 13 ?_)
       refine mJ (i:=1) rfl rfl rfl yn yf rfl gy d_ rfl ?_
       have ak:=yx 5 x rfl (congrArg (fM fW o 3 1) (Rl a2.1 (AB T).1))
       have al:=yx 4 ak rfl (congrArg (fM fW l 3 1) ((aa2 T).symm))
       have bg:=Rj a2.2.1 (AB T).2
       refine gH x 4 ?_
       rw[xU]at bg
       have be:=JN (n:=n) (E:=iV es) (2*F+1)
       rw[xU]at be
       have bq:=yO (n:=n) (E:=iV es) (k:=2*F+1)
       refine q7 al 11 fun aW am=>?_
       refine iQ (f:=(fun _=>F)) 4 am (fun aX I=>?_)
       refine fK I 7 ?_
       refine ar (e:=(((fJ (oM n (iV es) (2*F+1)) ((fJ es F).v))+1:Nat):Int)) rfl rfl rfl rfl i7 (fK I 1 ?_)
       refine iQ (f:=(fun _=>((fJ (oM n (iV es) (2*F+1)) ((fJ es F).v))+1))) 5 I (fun aY J=>?_)
       refine fQ J 7 ?_
       refine tN (?_)
       refine iD (iS J 17 ?_)
       refine tN (?_)
       have an:=yg [1,2,3,4,5] J
       have ao:=yx 4 an rfl (congrArg (fM fW o 3 1) (Rl a2.2.1 (AB T).2))
       have ap:=yx 3 ao rfl (congrArg (fM fW l 3 1) ((aa3 T).symm))
       exact again (F+1) ⟨rfl,rfl,rfl,rfl,rfl,rfl,gr rO,trivial⟩ (⟨ap,o_⟩) (by show (es.length-(F+1):Nat)<es.length-F;omega)
     . refine fQ a1 17 ?_
       refine gp (v:=(Zb b)) Tryz.results189 rfl ?_
       have aq:=yg [0,1,2,3] a1
       have bb:F=es.length:=by omega
       have au:=yx 3 aq rfl (congrArg (fM fW l 3 1) (congrArg (fun z=>qU n (iV es) (2*z)) bb))
       exact⟨b,(⟨v,a,l⟩:Gr),rfl,yo (yc [_,_,_,_] _ au)⟩
theorem ZD(v:Value)(n:Nat)(es:List Ge)(w:World)(hv:iz 3 Ge.cells (fun _=>True) w v es)(G:qg n es)(N:n<=4096)(hm:es.length<=16384) :
 CR ya 168 #[(Za n),v] w (fun r w' => ∃ (F:Nat) (q:Gr),r = .tuple (Z2 F)/\fZ (gq []) w w' (Gr.R F n q es)):=by
 refine enter (vs:=[(Za n),v]) Tryz.func168 rfl Tryz.ntmps168 rfl ?_
 have C:=yt w
 refine fR C 10 ?_
 refine cmp (a:=(n:Int)) (b:=0) rfl rfl rfl (lC o_) (fK C 2 ?_)
 refine cmp (a:=(n:Int)) (b:=4096) rfl rfl rfl (pR o_) (fK C 3 ?_)
 refine k6 (v:=v) rfl rfl pZ hv (cmp (a:=(es.length:Int)) (b:=16384) rfl rfl rfl (pR o_) (fK C 10 ?_))
 refine k6 (v:=v) rfl rfl pZ hv (gH C 4 ?_)
 refine lp (α:=Nat) (fun i=>[(0,(Za n)),(1,v),(4,Zs),(5,Zc),(19,v),(20,(Za es.length)),(21,(Za i))]) (fun i w1=>St [(w,[])] [] w1/\i<=es.length) (fun i=>es.length-i) 0 ⟨rfl,rfl,rfl,rfl,rfl,rfl,gr (by first|rfl|omega),trivial⟩ (⟨C,o_⟩) ?_
 rintro i p k ⟨D,hi⟩
 refine fR D 2 ?_
 by_cases s:((i:Int):Int)<((es.length:Int):Int)
 . obtain⟨B,I⟩:=pS (show i<es.length by omega)
   have E:=G _ (zd I)
   have K:=E.1
   have L:=E.2.1
   have M:=E.2.2
   refine fK D 13 ?_
   refine iR D (fun t x y z l=>?_)
   refine gO l 8 fun A c=>?_
   refine cmp (a:=(B.u:Int)) (b:=0) rfl rfl rfl (lC o_) (fK c 4 ?_)
   refine cmp (a:=(B.u:Int)) (b:=(n:Int)) rfl rfl rfl (oG o_) (fK c 4 ?_)
   refine cmp (a:=(B.v:Int)) (b:=0) rfl rfl rfl (lC o_) (fK c 5 ?_)
   refine cmp (a:=(B.v:Int)) (b:=(n:Int)) rfl rfl rfl (oG o_) (fK c 12 ?_)
   refine cmp (a:=(B.u:Int)) (b:=(B.v:Int)) rfl rfl rfl (uH o_) (fQ c 10 ?_)
   refine tN (?_)
   have m:=St.sub (L' := []) c (List.Sublist.cons _ (List.Sublist.refl _))
   exact again (i+1) ⟨rfl,rfl,rfl,rfl,rfl,rfl,gr (by first|rfl|omega),trivial⟩ (⟨m,o_⟩) (by show (es.length-(i+1):Nat)<es.length-i;omega)
 . refine fK D 14 ?_
   refine jM (vl:=[v]) rfl rfl Xu (VG v es k ((yw D s_ d_ hv)).any (by first|omega|(simp;omega))) ?_
   rintro f g H
   have h:St _ [fM Ge.cells f 235 3 es] g:=xe D H.2 H.1
   refine jM (vl:=[(Za n),f]) rfl rfl Xt (Y2 f n es g (kV h (i:=0) rfl) G o_ o_) ?_
   rintro _ o ⟨d,e,rfl,J⟩
   have j:St _ [(Gr.R d n e es)] o:=l8 (R' := (Gr.R d n e es)) 0 h rfl J rfl
   refine fQ j 5 ?_
   refine iH (v:=(Zb d)) (v' := Zc) Tryz.results168 rfl rfl ?_
   exact⟨d,e,rfl,vq (R:=(Gr.R d n e es)) j s_⟩
end
end Go.Proofs.YthpnckhjmbbalaaGreatDoor
