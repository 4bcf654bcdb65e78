/- What the functions that the statements reach do: walks through the code of the program and of the references, one theorem a function; under what is said of its arguments. -/
import Derived.Test.YthpnckhjmbbalaaGreatDoorFb
import Derived.Test.YthpnckhjmbbalaaGreatDoorVa
import Derived.Test.YthpnckhjmbbalaaGreatDoorFd
import Derived.Test.YthpnckhjmbbalaaGreatDoorVf
import Derived.Shelf.Spec.TrailingZeros
import Derived.Shelf.Lays7
import Derived.Test.YthpnckhjmbbalaaGreatDoorFa
import Derived.Test.YthpnckhjmbbalaaGreatDoorFc
import Derived.Test.YthpnckhjmbbalaaGreatDoorVd
import Derived.Test.YthpnckhjmbbalaaGreatDoorVe
set_option linter.unusedVariables false
set_option linter.unusedSimpArgs false
set_option maxRecDepth 100000
set_option maxHeartbeats 4000000
namespace Go.Proofs.YthpnckhjmbbalaaGreatDoor
section
open Go Go.Sx
structure Cv where
 tb:Nat
 t:Lt
 f:List Nat
 lv:Value
 rv:Value
 pv:Value
 hv:Value
 sv:Value
 ev:Value
def Cv.R(cb n:Nat)(es:List Ge)(c:Cv):fS:=kE (gP es n c.f) (gq [blk cb 135 [(Zb c.tb),(Za n),c.lv,c.rv,c.pv,c.hv,c.sv,c.ev],(Lt.R c.tb (fV es n c.f).p c.t),fM gh c.lv 3 1 ((fV es n c.f).l),fM gh c.rv 3 1 ((fV es n c.f).r),fM gh c.pv 3 1 ((fV es n c.f).p),fM gh c.hv 2 1 ((fV es n c.f).h),fM fW c.sv 3 1 ((fV es n c.f).s),fM fW c.ev 3 1 ((List.range (n+(c.f).length)).map (gQ es n (c.f)))])
theorem VN(v:Value)(n:Nat)(es:List Ge)(w:World)(hv:iz 3 Ge.cells (fun _=>True) w v es)(Q:qg n es)(S:n<=4096)(hm:es.length<=16384) :
 CR ya 86 #[(Za n),v] w (fun r w' => ∃ (cb:Nat) (c:Cv),r = .tuple (Z2 cb)/\fZ (gq []) w w' (Cv.R cb n es c)):=by
 refine en Tryz.func86 Tryz.ntmps86 ?_
 have T:=yt w
 refine fR T 10 ?_
 refine cl IZ (Kx v n es w hv Q S hm) ?_
 rintro _ D ⟨b,h,j,d,P,k,rfl,y,O⟩
 have s:=yz (ki T O)
 have F:gP es n b:=⟨Q,y⟩
 have W:=F.f.room F.g
 obtain⟨X,Y,Z,aa,ab⟩:=lK (es:=es) (n:=n) (f:=b)
 have V:=F.mO
 have U:=F.Kr
 refine fK s 3 ?_
 refine iR s (fun E G H I e=>?_)
 refine j8 0 e (fun z o=>?_) (h1:=(ic rfl (ic (yu e (i:=1) rfl) (ic (yu e (i:=2) rfl) (ic (yu e (i:=3) rfl) (ic (yu e (i:=4) rfl) (ic (yu e (i:=5) rfl) lB)))))))
 refine fK o 17 ?_
 refine cl Ou (Qb d (fV es n b).p z (iO o 3 rfl).any V U o_) ?_
 rintro _ J ⟨l,A,rfl,O⟩
 have t:=(ki o O)
 refine gH t 18 ?_
 refine kO mixed [([0,1,2,3],[1])] [4,5,6,7] t (fun B a=>jR ?_)
 refine fK a 3 ?_
 refine cl O3 (Ss es n b F S h j d P k B ⟨(iO a 2 rfl).any,(iO a 3 rfl).any,(iO a 4 rfl).any,(iO a 5 rfl).any,(iO a 6 rfl).any⟩) ?_
 rintro _ K ⟨m,rfl,O⟩
 have q:=(ki a O)
 refine fQ q 1 ?_
 refine kJ (kU ?_)
 refine ji (pvs:=[(0,(Zb l)),(1,(uB n h j d P k)),(2,m)]) (v:=.agg #[(Zb l),(Za n),h,j,d,P,k,m]) rfl rfl (jA [(0,(Zi l)),(1,(Zx n h j d P k)),(2,[m])] Tk acT rfl ⟨rfl,rfl,rfl,rfl,rfl,(cells_one (yu q (i:=0) rfl)),trivial⟩ rfl) (iF q (fun u L M N x=>?_))
 refine fQ x 5 ?_
 refine iH (v:=(Zb u)) (v' := Zc) Tryz.results86 rfl rfl ?_
 have C:=yg [0,2,4,5,6,7,8,1] x
 exact⟨u,(⟨l,A,b,h,j,d,P,k,m⟩:Cv),rfl,vq (yp (p:=gP es n b) (yc [_,_,_,_,_,_,_,_] _ C) F) s_⟩
end
section
open Go Go.Sx
structure tB (w:World) (cb n:Nat) (es:List Ge) (c:Cv):Prop where
 fg:gP es n c.f
 b:(blk cb 135 [(Zb c.tb),(Za n),c.lv,c.rv,c.pv,c.hv,c.sv,c.ev]).holds w
 t:ny w c.tb (fV es n c.f).p c.t
 r:mV w es n c.f c.lv c.rv c.pv c.hv c.sv
 e:iz 1 fW (fun _=>True) w c.ev ((List.range (n+(c.f).length)).map (gQ es n (c.f)))
theorem tB.of{w:World}{cb n:Nat}{es:List Ge}{c:Cv}(a:Own (Cv.R cb n es c) w):tB w cb n es c:=by
 have h:=Own.of a.un
 exact⟨a.fact,St.at h (i:=0) rfl,ny.of (ye h 1 rfl),⟨(iO h 2 rfl).any,(iO h 3 rfl).any,(iO h 4 rfl).any,(iO h 5 rfl).any,(iO h 6 rfl).any⟩,(iO h 7 rfl).any⟩
theorem tB.to{bs:List (World×List Nat)}{L:List fS}{w w0:World}{cb n:Nat}{es:List Ge}{c:Cv}(h:tB w0 cb n es c)(hs:St bs L w)(hb:(w0,[])∈bs):tB w cb n es c :=
 ⟨h.fg,St.x9 hs hb h.b,h.t.to hs hb,h.r.to hs hb,yw hs hb d_ h.e⟩
theorem Wl(cb n:Nat)(es:List Ge)(c:Cv)(w:World)(e:tB w cb n es c)(o:n<=4096) :
 CR ya 94 (Zh cb) w (fun r w' => r = .bool true/\gA [] w w'):=by
 obtain⟨i,j,k,l,m⟩:=lK (es:=es) (n:=n) (f:=c.f)
 have h:=e.fg.f.room e.fg.g
 refine en Tryz.func94 Tryz.ntmps94 ?_
 have d:=yt w
 refine fR d 8 ?_
 refine nh (a:=some ⟨cb,0,none⟩) (c:=true) rfl rfl rfl Tryz.underlying68 rfl (fK d 4 ?_)
 refine ld rfl rfl zH rfl (kC d s_ e.b rfl) (nh (a:=some ⟨c.tb,0,none⟩) (c:=true) rfl rfl rfl zH rfl (fQ d 5 ?_))
 refine gp (v:=Zf) Tryz.results94 rfl ?_
 exact⟨rfl,d.gD s_⟩
theorem Wb(cb n:Nat)(es:List Ge)(c:Cv)(w:World)(o:tB w cb n es c)(s:n<=4096)(x:Nat)(D:x<n)(T:Int) :
 CR ya 53 (Zr cb x T) w (fun r w' => r = .tuple (xH ((jc (fV es n c.f).p (fV es n c.f).h T x:Nat):Int))/\gA [] w w'):=by
 obtain⟨y,z,A,B,C⟩:=lK (es:=es) (n:=n) (f:=c.f)
 have u:=o.fg.f.room o.fg.g
 refine en Tryz.func53 Tryz.ntmps53 ?_
 have q:=yt w
 refine fR q 10 ?_
 refine cl Ym (Wl cb n es c w o s) ?_
 rintro _ l ⟨rfl,i⟩
 have d:=yq q i
 refine fK d 10 ?_
 refine cmp rfl rfl rfl (lC o_) (fK d 6 ?_)
 refine ld rfl rfl yf rfl (kC d s_ o.b rfl) (cmp rfl rfl rfl (oG o_) (gO d 11 fun j a=>?_))
 refine ld rfl rfl zH rfl (kC a s_ o.b rfl) (fK a 5 ?_)
 refine ld rfl rfl y0 rfl (kC a s_ o.b rfl) (fK a 1 ?_)
 refine cl Yn (VF c.tb (fV es n c.f).p c.t j (o.to a s_).t o.fg.mO o_ c.hv (fV es n c.f).h (o.to a s_).r.h o_ T x o_) ?_
 rintro _ m ⟨rfl,k⟩
 have e:=yq a k
 refine fQ e 7 ?_
 refine iH (v:=(Za ((jc (fV es n c.f).p (fV es n c.f).h T x:Nat):Int))) (v' := Zc) Tryz.results53 rfl rfl ?_
 exact⟨rfl,e.gD s_⟩
theorem N6(cb n:Nat)(es:List Ge)(c:Cv)(w:World)(C:tB w cb n es c)(G:n<=4096)(x:Nat)(H:x<n)(T:Int) :
 CR ya 27 (Zr cb x T) w (fun r w' => r = .tuple #[.agg (Zz ((gQ es n c.f (jc (fV es n c.f).p (fV es n c.f).h T x):Nat):Int) ((fJ (fV es n c.f).s (jc (fV es n c.f).p (fV es n c.f).h T x):Nat):Int)),.int .i64 0]/\gA [] w w'):=by
 obtain⟨J,K,L,M,N⟩:=lK (es:=es) (n:=n) (f:=c.f)
 have I:=C.fg.f.room C.fg.g
 have F:(jc (fV es n c.f).p (fV es n c.f).h T x)<n+c.f.length:=by have:=NZ (hs:=(fV es n c.f).h) (T:=T) (x:=x) (ps:=(fV es n c.f).p) o_ C.fg.mO;omega
 have O:((List.range (n+(c.f).length)).map (gQ es n (c.f))).length=n+c.f.length:=by simp
 have D:((List.range (n+(c.f).length)).map (gQ es n (c.f)))[(jc (fV es n c.f).p (fV es n c.f).h T x)]? = some (gQ es n c.f (jc (fV es n c.f).p (fV es n c.f).h T x)):=by simp[F]
 refine en Tryz.func27 Tryz.ntmps27 ?_
 have E:=yt w
 refine fR E 2 ?_
 refine iR E (fun t l u y d=>?_)
 refine fK d 8 ?_
 refine cl X0 (Wb cb n es c l (C.to d s_) G x H T) ?_
 rintro _ z ⟨rfl,m⟩
 have q:=yq d m
 refine gO q 22 fun A a=>?_
 refine ld rfl rfl yd rfl (kC a s_ C.b rfl) (fK a 1 ?_)
 refine iP (k:=(jc (fV es n c.f).p (fV es n c.f).h T x)) (i:=((jc (fV es n c.f).p (fV es n c.f).h T x:Nat):Int)) rfl rfl rfl yd gy C.e o_ o_ D (jq rfl rfl yf rfl (yw a s_ d_ C.e) D rfl (fK a 4 ?_))
 refine ld rfl rfl yd rfl (kC a s_ C.b rfl) (fK a 1 ?_)
 refine iP (k:=(jc (fV es n c.f).p (fV es n c.f).h T x)) (i:=((jc (fV es n c.f).p (fV es n c.f).h T x:Nat):Int)) rfl rfl rfl yd gy C.r.s o_ o_ (gz o_) (jq rfl rfl yf rfl (yw a s_ d_ C.r.s) (gz o_) rfl (ji (pvs:=[(0,(Za (((gQ es n c.f (jc (fV es n c.f).p (fV es n c.f).h T x)):Nat):Int))),(1,(Za (((fJ (fV es n c.f).s (jc (fV es n c.f).p (fV es n c.f).h T x)):Nat):Int)))]) (v:=.agg (Zz (((gQ es n c.f (jc (fV es n c.f).p (fV es n c.f).h T x)):Nat):Int) (((fJ (fV es n c.f).s (jc (fV es n c.f).p (fV es n c.f).h T x)):Nat):Int))) rfl rfl (jA [(0,(Ze (((gQ es n c.f (jc (fV es n c.f).p (fV es n c.f).h T x)):Nat):Int))),(1,(Ze (((fJ (fV es n c.f).s (jc (fV es n c.f).p (fV es n c.f).h T x)):Nat):Int)))] Du ac6 rfl ⟨rfl,rfl,rfl,rfl,trivial⟩ rfl) (j7 a 5 fun B j=>?_)))
 refine og (v:=(B2 (((gQ es n c.f (jc (fV es n c.f).p (fV es n c.f).h T x)):Nat):Int) (((fJ (fV es n c.f).s (jc (fV es n c.f).p (fV es n c.f).h T x)):Nat):Int))) (v' := Zc) Tryz.results27 (oq (cs:=(Zp (((gQ es n c.f (jc (fV es n c.f).p (fV es n c.f).h T x)):Nat):Int) (((fJ (fV es n c.f).s (jc (fV es n c.f).p (fV es n c.f).h T x)):Nat):Int))) rfl Tryz.underlying87 rfl Du rfl (lZ j (i:=0) (o:=0) (vs:=(Zp (((gQ es n c.f (jc (fV es n c.f).p (fV es n c.f).h T x)):Nat):Int) (((fJ (fV es n c.f).s (jc (fV es n c.f).p (fV es n c.f).h T x)):Nat):Int))) rfl rfl)) (pg rfl) ?_
 exact⟨rfl,j.gD s_⟩
end
section
open Go Go.Sx
end
end Go.Proofs.YthpnckhjmbbalaaGreatDoor
namespace Go.Proofs
open Go.Shelf Go.Lib in
def Tryz.afC:Go.Shelf.Ren:=⟨fun|27=>200|28=>210|29=>211|n=>n,fun|25=>188|3=>3|27=>309|22=>27|4=>4|53=>323|0=>0|5=>5|54=>324|n=>n,fun|0=>0|1=>1|n=>n⟩
open Go.Shelf Go.Lib in
theorem Tryz.tzI:Go.Proofs.Lays7.n27 Proofs.Tryz.prog Tryz.afC where
 mixed:=by kernel_rfl
 f27:=Proofs.Tryz.func200.trans (congrArg some<|by kernel_rfl)
 f28:=Proofs.Tryz.func210.trans (congrArg some<|by kernel_rfl)
 f29:=Proofs.Tryz.func211.trans (congrArg some<|by kernel_rfl)
 t0:=Proofs.Tryz.underlying0
 a0:=Proofs.Tryz.isAgg0
 z0:=Proofs.Tryz.sizeOf0
 v0:=Proofs.Tryz.zeroValue0
 i0:=by kernel_rfl
 t3:=Proofs.Tryz.underlying3
 a3:=Proofs.Tryz.isAgg3
 z3:=Proofs.Tryz.sizeOf3
 v3:=Proofs.Tryz.zeroValue3
 i3:=by kernel_rfl
 t4:=Proofs.Tryz.underlying4
 a4:=Proofs.Tryz.isAgg4
 z4:=Proofs.Tryz.sizeOf4
 v4:=Proofs.Tryz.zeroValue4
 i4:=by kernel_rfl
 t5:=Proofs.Tryz.underlying5
 a5:=Proofs.Tryz.isAgg5
 z5:=Proofs.Tryz.sizeOf5
 v5:=Proofs.Tryz.zeroValue5
 i5:=by kernel_rfl
 t22:=Proofs.Tryz.underlying27
 a22:=Proofs.Tryz.isAgg27
 z22:=Proofs.Tryz.sizeOf27
 v22:=Proofs.Tryz.zeroValue27
 i22:=by kernel_rfl
 t25:=Proofs.Tryz.underlying188
 a25:=Proofs.Tryz.isAgg188
 z25:=Proofs.Tryz.sizeOf188
 v25:=Proofs.Tryz.zeroValue188
 i25:=by kernel_rfl
 t27:=Proofs.Tryz.underlying309
 a27:=Proofs.Tryz.isAgg309
 z27:=Proofs.Tryz.sizeOf309
 v27:=Proofs.Tryz.zeroValue309
 i27:=by kernel_rfl
 t53:=Proofs.Tryz.underlying323
 a53:=Proofs.Tryz.isAgg323
 z53:=Proofs.Tryz.sizeOf323
 v53:=Proofs.Tryz.zeroValue323
 i53:=by kernel_rfl
 t54:=Proofs.Tryz.underlying324
 a54:=Proofs.Tryz.isAgg324
 z54:=Proofs.Tryz.sizeOf324
 g0:=by kernel_rfl
 g1:=by kernel_rfl
end Go.Proofs
namespace Go.Proofs.YthpnckhjmbbalaaGreatDoor
section
open Go Go.Sx
def ae9(o:Obj):Prop:=∀ w:World,w.heap[1]? = some o->∀ j,j<64->w.cell? ⟨1,j,none⟩=some (.int .u8 ((Go.Lib.deBruijn64tab.getD j 0:Nat):Int))
def jw(o:Obj):fS where
 gJ:=[1]
 holds w:=w.heap[1]? = some o/\ae9 o
 loc w w' h hh:=⟨(h 1 s_).trans hh.1,hh.2⟩
theorem K9{o:Obj}{w:World}(h:(jw o).holds w):1<w.heap.size:=(p5.1 h.1).1
theorem afc{o:Obj}{w:World}(h:(jw o).holds w):Own (jw o) w:=⟨h,by simp[jw],fun b hb=>by simp[jw]at hb;subst hb;exact K9 h⟩
theorem St.AN{bs:List (World×List Nat)}{L:List fS}{w w0:World}{o:Obj}{X:List Nat}(h:St bs L w)(hb:(w0,X)∈bs)(a:(jw o).holds w0)(b:1∉X):(jw o).holds w :=
 ⟨(h.keep hb (K9 a) b).trans a.1,a.2⟩
theorem afa{o:Obj}{w w' : World}(a:(jw o).holds w)(h:fZ (jw o) w w' (jw o)):gA [] w w' :=
 ⟨h.gD.os,h.gD.tape,h.gD.output,h.gD.size,fun b hb _=>by
  by_cases e:b=1
  . subst e
    exact h.holds.1.trans a.1.symm
  . exact h.gD.block b hb (by simp[jw,e])⟩
theorem afb{w:World}(h:∀ j,j<64->w.cell? ⟨1,j,none⟩=some (.int .u8 ((Go.Lib.deBruijn64tab.getD j 0:Nat):Int))):∃ o,(jw o).holds w:=by
 have a:=World.block_lt_of_cell? w _ (h 0 d_)
 refine⟨w.heap[1],uo a,fun d b j c=>?_⟩
 rw[<-h j c]
 exact World.cell?_of_block (b.trans (uo a).symm)
theorem afD{o:Obj}(w:World)(a:(jw o).holds w)(d:Nat)(hd:d<18446744073709551616) :
 CR ya 200 (xJ d) w (fun r w' => r = .int .i64 ((Go.Lib.ctz 64 d:Nat):Int)/\w' = w):=by
 have h:=Go.Proofs.Any7.bits_TrailingZeros Tryz.tzI d hd w (fun _ j c=>a.2 w a.1 j c)
 exact Calls.mono h fun e w' b=>⟨_,b.1,rfl,b.2⟩
end
section
open Go Go.Sx
theorem acr(d:Nat)(w:World) :
 CR ya 173 (Z8 d) w (fun r w' => ∃ h,w.heap.size<=h/\r = .func (.func 199) #[] (Zh h)/\(blk h 3 (Ze d)).holds w' /\ gA [] w w'):=by
 refine en Tryz.func173 Tryz.ntmps173 ?_
 have g:=yt w
 refine fR g 2 ?_
 refine iF g (fun b e c f a=>?_)
 refine fK a 5 ?_
 refine oc (vf:=[]) (vc:=(Zi b)) rfl rfl rfl (fQ a 4 ?_)
 refine gp (v:=(.func (.func 199) #[] (Zh b))) Tryz.results173 rfl ?_
 exact⟨_,lq (g.size ze) c,rfl,a.at (i:=0) rfl,a.gD s_⟩
theorem afE{o:Obj}(w:World)(a:(jw o).holds w)(d:Nat)(hd:d<18446744073709551616) :
 CR ya 200 (xJ d) w (fun r w' => r = .int .i64 ((Go.Lib.ctz 64 d:Nat):Int)/\gA [] w w') :=
 CR.mono (afD w a d hd) fun r w' h=>⟨h.1,h.2▸gA.refl _ _⟩
theorem acq(p:Nat->fS)(l t n:Nat)(w:World)(B:∀ (d:Nat) (bs:List (World×List Nat)) (L:List fS) (w1:World),d≠0->d<=n->(w,(p n).gJ)∈bs->St bs (p d :: L) w1->YR ya l (Ze ((Go.Lib.ctz 64 d:Nat):Int)) w1 (fun v w' => v = .bool true/\St bs (p (d &&& (d-1)) :: L) w'))(y:Own (p n) w)(A:(blk t 3 (Ze n)).holds w)(E:t∉(p n).gJ){o:Obj}(z:(jw o).holds w)(u:1∉(p n).gJ)(C:n<8192) :
 CR ya 199 #[(.func (.yield l) #[] #[]),(Zb t)] w (fun r w' => r = .tuple #[]/\fZ (p n) w w' (p 0)):=by
 refine en Tryz.func199 Tryz.ntmps199 ?_
 have s:=yr y
 refine fR s 2 ?_
 refine ld rfl rfl yf rfl (Cc A (o:=0) rfl) (gH s 5 ?_)
 refine lp (α:=Nat) (fun d=>[(0,(.func (.yield l) #[] #[])),(3,(Zo d))]) (fun d w1=>St [(w,(p n).gJ)] [p d] w1/\d<=n) (fun d=>d) n ⟨rfl,gr rO,trivial⟩ (⟨s,o_⟩) ?_
 rintro d i f ⟨q,D⟩
 refine fR q 4 ?_
 by_cases j:((d:Int):Int)=(0:Int)
 . refine fQ q 8 ?_
   refine iZ Tryz.results199 ?_
   obtain rfl:d=0:=by omega
   exact⟨rfl,yj (R:=p n) q s_⟩
 . refine fK q 12 ?_
   refine cl Xy (afE f (St.AN q (X:=(p n).gJ) s_ z u) d o_) ?_
   rintro _ k ⟨rfl,g⟩
   have h:=yq q g
   refine yl (vl:=(Ze ((Go.Lib.ctz 64 d:Nat):Int))) rfl rfl rfl (B d _ _ _ o_ o_ s_ h) ?_
   rintro _ m ⟨rfl,c⟩
   refine fK c 10 ?_
   refine ar (e:=((d-1:Nat):Int)) rfl rfl rfl rfl (by rw[GA o_];omega) (bi (a:=(d:Int)) (b:=((d-1:Nat):Int)) (e:=((d &&& (d-1):Nat):Int)) rfl rfl rfl (congrArg some (Go.bits_and_u64_nat d (d-1) o_ o_)) (fQ c 2 ?_))
   refine tN (?_)
   obtain⟨F,G⟩:=Iy (x:=d) o_ o_
   have H:0<2 ^ Go.Lib.ctz 64 d:=Nat.pow_pos d_
   exact again (d &&& (d-1)) ⟨rfl,gr rO,trivial⟩ (⟨c,o_⟩) (by show ((d &&& (d-1)):Nat)<d;omega)
end
section
open Go Go.Sx
theorem ny.b2{w:World}{tb:Nat}{ps:List Int}{t:Lt}(h:ny w tb ps t):(blk tb 247 (.bool true :: t.dv :: t.jl.flatMap kL)).holds w:=by
 rw[P5 h.ok.len]
 exact h.b
theorem Qe(tb:Nat)(ps:List Int)(t:Lt)(w:World)(T:ny w tb ps t)(hP:jV ps)(hn:ps.length<=8192){o:Obj}(hT:(jw o).holds w)(x F:Nat)(hx:x<ps.length)(hd:F<=gj ps x) :
 CR ya 134 (Zr tb x F) w (fun r w' => r = .tuple (D6 ((gI ps F x:Nat):Int))/\gA [] w w'):=by
 have ag:((List.range ps.length).map (gj ps)).length=ps.length:=by simp
 have ay:=ID hP hx
 have an:F<8192:=by omega
 refine EX (vs:=(Ah tb x F)) Tryz.func134 rfl Tryz.ntmps134 rfl ?_
 have am:=yt w
 have ah:((List.range ps.length).map (gj ps))[x]? = some (gj ps x):=by simp[hx]
 refine fR am 2 ?_
 refine iF am (fun c N O P n=>?_)
 refine iF n (fun e Q R S p=>?_)
 refine gO p 9 fun q h=>?_
 refine cl EK (Ff tb ps t q (T.to h s_) hP hn x o_) ?_
 rintro _ s ⟨rfl,u⟩
 have a:=yq h u
 refine fK a 3 ?_
 by_cases U:((F:Int):Int)<(0:Int)
 . refine fQ a 24 ?_
   exfalso
   omega
 . refine fK a 7 ?_
   refine ld rfl rfl yd rfl (kC a s_ T.b rfl) (fK a 1 ?_)
   refine iP (k:=x) (i:=(x:Int)) rfl rfl rfl yd gy T.d o_ o_ ah (jq rfl rfl yf rfl (yw a s_ d_ T.d) ah rfl ?_)
   by_cases V:((F:Int):Int)>((((gj ps x):Nat):Int):Int)
   . refine fQ a 13 ?_
     exfalso
     omega
   . refine fK a 11 ?_
     refine cl Xn (acr F s) ?_
     rintro _ y ⟨f,A,rfl,B,C⟩
     have j:=St.Nk a C A B
     have D:=yg [2,1,0] j
     have E:St [(w,[])] [blk c 117 (Zi tb),blk e 3 (Ze ((gI ps (F-F) x:Nat):Int)),blk f 3 (Ze F)] y:=by rw[Nat.sub_self];exact D
     refine gH j 3 ?_
     refine rf (α:=Nat) (ps:=[30]) (fi:=[]) (ca:=(Zi f)) (fun z=>[blk c 117 (Zi tb),blk e 3 (Ze ((gI ps (F-z) x:Nat):Int)),blk f 3 (Ze F)]) (fun z=>z=0) E rfl Xw ?_ ?_
     . intro fn dd l wl rc ae al
       have G:=yg [0,2,3,1,4] al
       have ad:=yc (BW (jr l rc) c tb e ((gI ps (F-F) x:Nat):Int)) [ku dd (some []),blk f 3 (Ze F)] G
       have aj:rc.state = .ready:=by rw[ae]
       have aq:rc.pending=none:=by rw[ae]
       have ar:∀ (d:Nat) (bs:List (World×List Nat)) (L:List fS) (w1:World),d≠0->d<=F->(wl,((fun(z:Nat)=>gq (BW (jr l rc) c tb e ((gI ps (F-z) x:Nat):Int))) F).gJ)∈bs->St bs ((fun(z:Nat)=>gq (BW (jr l rc) c tb e ((gI ps (F-z) x:Nat):Int))) d :: L) w1->YR ya l (Ze ((Go.Lib.ctz 64 d:Nat):Int)) w1 (fun v w' => v = .bool true/\St bs ((fun(z:Nat)=>gq (BW (jr l rc) c tb e ((gI ps (F-z) x:Nat):Int))) (d &&& (d-1)) :: L) w'):=by
        intro d bs LT wr af ag ap ac
        have ac:=ac.unpack
        have ac:=St.under ad (w:=w) s_ (fun b hb=>by rw[mY];exact zr.2 (.inl hb)) ac ap
        have hU:=BN.next hP hx hd an (⟨ag,rfl⟩:BN ps x F d (gI ps (F-d) x)) af
        have ao:=hU.1
        have ax:=Wc af o_
        refine Db (vl:=(Ze ((Go.Lib.ctz 64 d:Nat):Int))) 0 ae ac rfl rfl rfl (iS ac 3 ?_)
        refine tN (?_)
        refine Ew 0 ac rfl aj rfl ?_
        intro W H
        have ai:(jt ps (Go.Lib.ctz 64 d))[(gI ps (F-d) x)]? = some ((gI ps (2 ^ Go.Lib.ctz 64 d) (gI ps (F-d) x):Nat):Int):=by rw[<-hU.2.1];exact gz (by rw[AL];exact ao)
        have az:=AL (ps:=ps) (k:=Go.Lib.ctz 64 d)
        refine q7 H 6 fun Y g=>?_
        refine jL (o:=2) (o' := 2+(Go.Lib.ctz 64 d)) (i:=((Go.Lib.ctz 64 d:Nat):Int)) rfl rfl rfl rC kg o_ (by first|omega|(simp only[nt];omega)) (ld rfl rfl yd rfl (kC g s_ T.b2 (wA (by rw[T.ok.len];omega) rfl)) (fK g 1 ?_))
        refine iP (k:=(gI ps (F-d) x)) (i:=((gI ps (F-d) x:Nat):Int)) rfl rfl rfl yd gy (T.r (Go.Lib.ctz 64 d) o_) o_ o_ ai (jq rfl rfl yf rfl (yw g s_ d_ (T.r (Go.Lib.ctz 64 d) o_)) ai rfl (j7 g 3 fun Z I=>?_))
        refine EH 0 I rfl aj aq rfl ?_
        intro aa J
        have ak:=J
        rw[hU.2.2.at_]at ak
        exact⟨_,rfl,rfl,yc [_,_,_] _ ak.Wv⟩
       refine CR.mono (acq (fun(z:Nat)=>gq (BW (jr l rc) c tb e ((gI ps (F-z) x:Nat):Int))) l f F wl ar (ye ad 0 rfl) (ad.at (i:=2) rfl) (ad.Ri (by simp[iT,blk,ku])) (St.AN al (X:=[]) s_ hT s_) (ad.acp (w0:=w) s_ (K9 hT)) o_) ?_
       rintro _ w9 ⟨-,aw⟩
       have av:=(ym ad aw)
       have K:=yg [0,3,1,2,4] av
       exact⟨_,rfl,K⟩
     . rintro z dd ab hC m
       refine uZ tt none m 10 ?_
       refine CI 0 m rfl rfl ?_
       intro w8 au
       have M:=yg [] au
       exact⟨_,results_tmp2 Tryz.results134 _ _ _,_,rfl,by rw[sS,sS];exact⟨by subst hC;rfl,M.gD s_⟩⟩
end
section
open Go Go.Sx
theorem aai(tb:Nat)(ps:List Int)(t:Lt)(w:World)(F:ny w tb ps t)(Q:jV ps)(Y:ps.length<=8192){o:Obj}(hT:(jw o).holds w)(an:∀ i,i<ps.length -> -1<=fJ ps i)(a b:Nat)(S:a<ps.length)(hb:b<ps.length) :
 CR ya 88 (Zr tb a b) w (fun r w' => ∃ (z:Nat) (B:Bool),r = .tuple (Z7 z B)/\pG ps a b z B/\gA [] w w'):=by
 have ax:((List.range ps.length).map (gj ps)).length=ps.length:=by simp
 have aq:=IC (ps:=ps) (i:=a)
 have av:=IC (ps:=ps) (i:=b)
 have au:=ID Q S
 have aw:=ID Q hb
 refine enter (vs:=(Ah tb a b)) Tryz.func88 rfl Tryz.ntmps88 rfl ?_
 have ag:=yt w
 have V:((List.range ps.length).map (gj ps))[a]? = some (gj ps a):=by simp[S]
 have W:((List.range ps.length).map (gj ps))[b]? = some (gj ps b):=by simp[hb]
 refine fR ag 11 ?_
 refine jM (vl:=(tD tb a)) rfl rfl EK (Ff tb ps t w F Q Y a o_) ?_
 rintro _ n ⟨rfl,y⟩
 have m:St _ [] n:=yq ag y
 refine fK m 4 ?_
 refine jM (vl:=(tD tb b)) rfl rfl EK (Ff tb ps t n (F.to m s_) Q Y b o_) ?_
 rintro _ C ⟨rfl,D⟩
 have E:St _ [] C:=yq m D
 refine gO E 12 fun G f=>?_
 refine ld (a:=⟨tb,1,none⟩) (v:=t.dv) rfl rfl yd rfl (kC f s_ F.b rfl) (fK f 1 ?_)
 refine iP (k:=a) (i:=(a:Int)) rfl rfl rfl yd gy F.d o_ o_ V (jq (u:=(Za (((gj ps a):Nat):Int))) rfl rfl yf rfl (yw f s_ d_ F.d) V rfl (fK f 3 ?_))
 refine ld (a:=⟨tb,1,none⟩) (v:=t.dv) rfl rfl yd rfl (kC f s_ F.b rfl) (fK f 1 ?_)
 refine iP (k:=b) (i:=(b:Int)) rfl rfl rfl yd gy F.d o_ o_ W (jq (u:=(Za (((gj ps b):Nat):Int))) rfl rfl yf rfl (yw f s_ d_ F.d) W rfl (min2 (a:=(((gj ps a):Nat):Int)) (b:=(((gj ps b):Nat):Int)) (c:=(((min (gj ps a) (gj ps b)):Nat):Int)) rfl rfl rfl FD (fK f 10 ?_)))
 refine ld (a:=⟨tb,1,none⟩) (v:=t.dv) rfl rfl yd rfl (kC f s_ F.b rfl) (fK f 1 ?_)
 refine iP (k:=a) (i:=(a:Int)) rfl rfl rfl yd gy F.d o_ o_ V (jq (u:=(Za (((gj ps a):Nat):Int))) rfl rfl yf rfl (yw f s_ d_ F.d) V rfl (fK f 1 ?_))
 refine ar (a:=(((gj ps a):Nat):Int)) (b:=(((min (gj ps a) (gj ps b)):Nat):Int)) (c:=(((gj ps a):Nat):Int)-(((min (gj ps a) (gj ps b)):Nat):Int)) (e:=((gj ps a-(min (gj ps a) (gj ps b)):Nat):Int)) rfl rfl rfl rfl (by rw[ox o_];omega) (jM (vl:=(Ah tb a ((gj ps a-(min (gj ps a) (gj ps b)):Nat):Int))) rfl rfl Ov (Qe tb ps t G (F.to f s_) Q Y (St.AN f (X:=[]) s_ hT s_) a (gj ps a-(min (gj ps a) (gj ps b))) o_ o_) ?_)
 rintro _ q ⟨rfl,H⟩
 have h:St _ [] q:=yq f H
 refine fK h 13 ?_
 refine ld (a:=⟨tb,1,none⟩) (v:=t.dv) rfl rfl yd rfl (kC h s_ F.b rfl) (fK h 1 ?_)
 refine iP (k:=b) (i:=(b:Int)) rfl rfl rfl yd gy F.d o_ o_ W (jq (u:=(Za (((gj ps b):Nat):Int))) rfl rfl yf rfl (yw h s_ d_ F.d) W rfl (fK h 1 ?_))
 refine ar (a:=(((gj ps b):Nat):Int)) (b:=(((min (gj ps a) (gj ps b)):Nat):Int)) (c:=(((gj ps b):Nat):Int)-(((min (gj ps a) (gj ps b)):Nat):Int)) (e:=((gj ps b-(min (gj ps a) (gj ps b)):Nat):Int)) rfl rfl rfl rfl (by rw[ox o_];omega) (jM (vl:=(Ah tb b ((gj ps b-(min (gj ps a) (gj ps b)):Nat):Int))) rfl rfl Ov (Qe tb ps t q (F.to h s_) Q Y (St.AN h (X:=[]) s_ hT s_) b (gj ps b-(min (gj ps a) (gj ps b))) o_ o_) ?_)
 rintro _ I ⟨rfl,J⟩
 have l:St _ [] I:=yq h J
 refine fK l 11 ?_
 by_cases K:(((gI ps (gj ps a-(min (gj ps a) (gj ps b))) a:Nat):Int):Int)=(((gI ps (gj ps b-(min (gj ps a) (gj ps b))) b:Nat):Int):Int)
 . refine fQ l 13 ?_
   refine iH (v:=(Za ((gI ps (gj ps a-(min (gj ps a) (gj ps b))) a:Nat):Int))) (v' := Zf) Tryz.results88 rfl rfl ?_
   exact⟨_,true,rfl,VP Q S hb o_,l.gD s_⟩
 . obtain⟨U,ah,_⟩:=ow Q S (k:=gj ps a-(min (gj ps a) (gj ps b))) o_
   obtain⟨aa,ai,_⟩:=ow Q hb (k:=gj ps b-(min (gj ps a) (gj ps b))) o_
   have ad:gI ps (gj ps a-(min (gj ps a) (gj ps b))) a≠gI ps (gj ps b-(min (gj ps a) (gj ps b))) b:=by omega
   obtain⟨A,Z⟩:∃ A,A=gI ps (gj ps a-(min (gj ps a) (gj ps b))) a:=⟨_,rfl⟩
   obtain⟨B,ab⟩:∃ B,B=gI ps (gj ps b-(min (gj ps a) (gj ps b))) b:=⟨_,rfl⟩
   refine fK l 1 ?_
   rw[<-Z]at U ah ad ⊢
   rw[<-ab]at aa ai ad ⊢
   refine gH l 12 ?_
   refine lp (α:=Nat×Nat) (fun(j,s)=>[(0,(Zb tb)),(1,(Za ((gI ps s A:Nat):Int))),(2,(Za ((gI ps s B:Nat):Int))),(9,(Za ((j:Int)-1)))]) (fun(j,s) w1=>St [(w,[])] [] w1/\pI ps A B (min (gj ps a) (gj ps b)) j s/\j<=13) (fun(j,s)=>j) (13,0) ⟨rfl,gr (by first|rfl|omega),gr (by first|rfl|omega),gr (by first|rfl|omega),trivial⟩ (⟨l,pI.start ad o_,o_⟩) ?_
   rintro⟨j,s⟩ L M ⟨R,T,ay⟩
   have aA:=T.le
   obtain⟨aD,aE,_⟩:=ow Q U (k:=s) o_
   obtain⟨aF,aG,_⟩:=ow Q aa (k:=s) o_
   refine fR R 4 ?_
   by_cases N:(((j:Int)-1):Int)≥(0:Int)
   . have az:=AL (ps:=ps) (k:=j-1)
     have ae:(jt ps (j-1))[(gI ps s A)]? = some (fJ (jt ps (j-1)) (gI ps s A)):=gz o_
     have af:(jt ps (j-1))[(gI ps s B)]? = some (fJ (jt ps (j-1)) (gI ps s B)):=gz o_
     have aj:pI ps A B (min (gj ps a) (gj ps b)) (j-1+1) s:=by rw[Nat.sub_add_cancel o_];exact T
     obtain⟨ao,ap⟩:=aj.next Q an U aa o_ o_
     refine gO R 14 fun O g=>?_
     refine jL (o:=2) (o' := 2+(j-1)) (i:=((j:Int)-1)) rfl rfl rfl rC kg o_ (by first|omega|(simp only[nt];omega)) (ld (a:=⟨tb,2+(j-1),none⟩) (v:=((fJ t.jl (j-1)).1)) rfl rfl yd rfl (kC g s_ F.b2 (wA (by rw[F.ok.len];omega) rfl)) (fK g 1 ?_))
     refine iP (k:=(gI ps s A)) (i:=((gI ps s A:Nat):Int)) rfl rfl rfl yd gy (F.r (j-1) o_) o_ o_ ae (jq (u:=(Za (fJ (jt ps (j-1)) (gI ps s A)))) rfl rfl yf rfl (yw g s_ d_ (F.r (j-1) o_)) ae rfl (fK g 4 ?_))
     refine jL (o:=2) (o' := 2+(j-1)) (i:=((j:Int)-1)) rfl rfl rfl rC kg o_ (by first|omega|(simp only[nt];omega)) (ld (a:=⟨tb,2+(j-1),none⟩) (v:=((fJ t.jl (j-1)).1)) rfl rfl yd rfl (kC g s_ F.b2 (wA (by rw[F.ok.len];omega) rfl)) (fK g 1 ?_))
     refine iP (k:=(gI ps s B)) (i:=((gI ps s B:Nat):Int)) rfl rfl rfl yd gy (F.r (j-1) o_) o_ o_ af (jq (u:=(Za (fJ (jt ps (j-1)) (gI ps s B)))) rfl rfl yf rfl (yw g s_ d_ (F.r (j-1) o_)) af rfl (fK g 8 ?_))
     by_cases x:((fJ (jt ps (j-1)) (gI ps s A)):Int)=((fJ (jt ps (j-1)) (gI ps s B)):Int)
     . have ac:=ao x
       refine fK g 9 ?_
       refine ar (a:=((j:Int)-1)) (b:=1) (c:=((j:Int)-1)-1) (e:=((j:Int)-1-1)) rfl rfl rfl rfl (ox o_) (fQ g 2 ?_)
       refine tN (?_)
       exact again ((j-1),s) ⟨rfl,rfl,rfl,gr (by first|rfl|omega),trivial⟩ (⟨g,ac,o_⟩) (by show ((j-1):Nat)<j;omega)
     . obtain⟨ac,aB,aC⟩:=ap x
       refine fK g 14 ?_
       refine ar (a:=((j:Int)-1)) (b:=1) (c:=((j:Int)-1)-1) (e:=((j:Int)-1-1)) rfl rfl rfl rfl (ox o_) (fQ g 2 ?_)
       refine tN (?_)
       exact again ((j-1),(s+2 ^ (j-1))) ⟨rfl,gr (by first|rfl|omega),gr (by first|rfl|omega),gr (by first|rfl|omega),trivial⟩ (⟨g,ac,o_⟩) (by show ((j-1):Nat)<j;omega)
   . have am:j=0:=by omega
     refine fK R 1 ?_
     subst am
     obtain⟨ak,al⟩:=T.fin Q U o_
     refine fK R 14 ?_
     refine jL (o:=2) (o' := 2) (i:=0) rfl rfl rfl rC kg d_ rfl (ld (a:=⟨tb,2,none⟩) (v:=((fJ t.jl 0).1)) rfl rfl yd rfl (kC R s_ F.b rfl) (fK R 1 ?_))
     refine iP (k:=(gI ps s A)) (i:=((gI ps s A:Nat):Int)) rfl rfl rfl yd gy F.p o_ o_ (gz o_) (jq (u:=(Za (fJ ps (gI ps s A)))) rfl rfl yf rfl (yw R s_ d_ F.p) (gz o_) rfl ?_)
     by_cases P:((fJ ps (gI ps s A)):Int)<(0:Int)
     . refine fQ R 12 ?_
       refine iH (v:=Zc) (v' := Zn) Tryz.results88 rfl rfl ?_
       exact⟨0,false,rfl,VQ Q S hb Z ab T (ak o_),R.gD s_⟩
     . refine fK R 11 ?_
       refine jL (o:=2) (o' := 2) (i:=0) rfl rfl rfl rC kg d_ rfl (ld (a:=⟨tb,2,none⟩) (v:=((fJ t.jl 0).1)) rfl rfl yd rfl (kC R s_ F.b rfl) (fK R 1 ?_))
       refine iP (k:=(gI ps s A)) (i:=((gI ps s A:Nat):Int)) rfl rfl rfl yd gy F.p o_ o_ (gz o_) (jq (u:=(Za (fJ ps (gI ps s A)))) rfl rfl yf rfl (yw R s_ d_ F.p) (gz o_) rfl (fQ R 5 ?_))
       refine iH (v:=(Za (fJ ps (gI ps s A)))) (v' := Zf) Tryz.results88 rfl rfl ?_
       obtain⟨f1,f2,f3⟩:=al o_
       exact⟨gI ps (s+1) A,true,by rw[f2],VR Q S hb Z ab T f1 f3,R.gD s_⟩
end
section
open Go Go.Sx
structure Mf where
 bt:Nat
 tb:Nat
 t:Lt
 f:List Nat
 lv:Value
 rv:Value
 pv:Value
 hv:Value
 sv:Value
 fv:Value
 mp:Nat
def Mf.R(mb n:Nat)(es:List Ge)(q:Mf):fS:=kE (gP es n q.f) (gq [blk mb 123 (Zi q.bt),blk q.bt 120 [(Zb q.tb),(Za n),q.lv,q.rv,q.pv,q.hv,q.sv,q.fv,(.map (some q.mp))],(Lt.R q.tb (fV es n q.f).p q.t),fM gh q.lv 3 1 ((fV es n q.f).l),fM gh q.rv 3 1 ((fV es n q.f).r),fM gh q.pv 3 1 ((fV es n q.f).p),fM gh q.hv 2 1 ((fV es n q.f).h),fM fW q.sv 3 1 ((fV es n q.f).s)])
theorem abv(v:Value)(n:Nat)(es:List Ge)(w:World)(hv:iz 3 Ge.cells (fun _=>True) w v es)(hg:qg n es)(hn:n<=4096)(hm:es.length<=16384) :
 CR ya 87 #[(Za n),v] w (fun r w' => ∃ (mb:Nat) (q:Mf),r = .tuple (Z2 mb)/\fZ (gq []) w w' (Mf.R mb n es q)):=by
 refine en Tryz.func87 Tryz.ntmps87 ?_
 have a7:=yt w
 refine fR a7 10 ?_
 refine cl IZ (Kx v n es w hv hg hn hm) ?_
 rintro _ aw ⟨d,t,y,o,T,z,rfl,ac,ht⟩
 have P:=yz (ki a7 ht)
 have a1:gP es n d:=⟨hg,ac⟩
 have be:=a1.f.room a1.g
 obtain⟨bh,bi,bj,bk,bl⟩:=lK (es:=es) (n:=n) (f:=d)
 have a9:=a1.mO
 have a8:=a1.Kr
 refine fK P 3 ?_
 refine iR P (fun G ax ay az H=>?_)
 refine j8 0 H (fun ad N=>?_) (h1:=(ic rfl (ic (yu H (i:=1) rfl) (ic (yu H (i:=2) rfl) (ic (yu H (i:=3) rfl) (ic (yu H (i:=4) rfl) (ic (yu H (i:=5) rfl) lB)))))))
 refine fK N 17 ?_
 refine cl Oq (PG v n es ad (yw N s_ d_ hv) hg hn hm) ?_
 rintro _ ae ⟨A,b,rfl,af,ht⟩
 have O:=(ki N ht)
 have a5:=af
 have bd:=a5.len
 refine fK O 21 ?_
 refine cl Ou (Qb o (fV es n d).p ae (iO O 4 rfl).any a9 a8 o_) ?_
 rintro _ aA ⟨B,D,rfl,ht⟩
 have Q:=(ki O ht)
 refine fK Q 22 ?_
 refine mkV (Prod.fst:Value×List jK->Value) .i64 rfl rfl Q (fun j aB aC aD S=>ji (pvs:=[(0,(Zb B)),(1,(uB n t y o T z)),(2,A),(3,(.map (some j)))]) (v:=.agg #[(Zb B),(Za n),t,y,o,T,z,A,(.map (some j))]) rfl rfl (jA [(0,(Zi B)),(1,(Zx n t y o T z)),(2,[A]),(3,[(.map (some j))])] Tf acP rfl ⟨rfl,rfl,rfl,rfl,rfl,(cells_one (yu S (i:=2) rfl)),rfl,rfl,trivial⟩ rfl) (iF S (fun C ag aE aF I=>?_)))
 refine fK I 7 ?_
 refine jm (m:=b.length) 3 rfl rfl yd I rfl ?_
 have ah:St _ [oJ jK.cells 2 244 ([]),blk C 120 [(Zb B),(Za n),t,y,o,T,z,A,(.map (some j))],gY j .i64 (Prod.fst:Value×List jK->Value) ([]),(Lt.R B (fV es n d).p D),fM fW A 3 1 b,blk G 67 (Zx n t y o T z),fM gh t 3 1 ((fV es n d).l),fM gh y 3 1 ((fV es n d).r),fM gh o 3 1 ((fV es n d).p),fM gh T 2 1 ((fV es n d).h),fM fW z 3 1 ((fV es n d).s)] ag:=St.YC I
 have ai:=yg [1,4,2,0,3,5,6,7,8,9,10] ah
 refine gH I 4 ?_
 refine lp (α:=Nat×AM) (fun(k,F)=>[(1,v),(10,(Zb C)),(48,A),(49,(Za b.length)),(50,(Za k))]) (fun(k,F) w1=>St [(w,[])] [blk C 120 [(Zb B),(Za n),t,y,o,T,z,A,(.map (some j))],fM fW A 3 1 b,gY j .i64 (Prod.fst:Value×List jK->Value) F,oJ jK.cells 2 244 F,(Lt.R B (fV es n d).p D),blk G 67 (Zx n t y o T z),fM gh t 3 1 ((fV es n d).l),fM gh y 3 1 ((fV es n d).r),fM gh o 3 1 ((fV es n d).p),fM gh T 2 1 ((fV es n d).h),fM fW z 3 1 ((fV es n d).s)] w1/\k<=b.length/\∀ c,(fT F c).2.length<=2*k) (fun(k,F)=>b.length-k) (0,[]) ⟨rfl,rfl,rfl,rfl,gr rO,trivial⟩ (⟨ai,o_,YF⟩) ?_
 rintro⟨k,F⟩ aG aH ⟨a2,hk,a3⟩
 refine fR a2 2 ?_
 by_cases aI:((k:Int):Int)<((b.length:Int):Int)
 . have ba:k<b.length:=by omega
   have bc:fJ b k<es.length:=a5.lt (zd (gz ba))
   have a6:=hg.at bc
   have bf:=a6.1
   have bg:=a6.2.1
   refine wX a2 33 fun aJ aj=>?_
   have ak:=yg [3,0,1,2,4,5,6,7,8,9,10] aj
   have al:=St.Pr ((fJ es (fJ b k)).u:Int) ak
   refine kO mixed [([0,1,2,3,4,5,6,7,8,9,10,11,12,13,14],[3,8,10]),([15],[3])] [16] al (fun aK J=>jR ?_)
   refine fK J 10 ?_
   refine qT (a:=((fJ es (fJ b k)).u:Int)) (mm:=F) (enc:=(Prod.fst:Value×List jK->Value)) (k:=.i64) 4 rfl rfl rfl zI yf Dm rfl J rfl (fK J 2 ?_)
   refine ji (pvs:=[(0,(Za (((fJ b k):Nat):Int))),(1,(Za ((fJ es (fJ b k)).v:Int)))]) (v:=.agg (Zz (((fJ b k):Nat):Int) ((fJ es (fJ b k)).v:Int))) rfl rfl (jA [(0,(Ze (((fJ b k):Nat):Int))),(1,(Ze ((fJ es (fJ b k)).v:Int)))] zD RQ rfl ⟨rfl,rfl,rfl,rfl,trivial⟩ rfl) (kj (vs:=(HM (((fJ b k):Nat):Int) ((fJ es (fJ b k)).v:Int))) (cs:=(Zp (((fJ b k):Nat):Int) ((fJ es (fJ b k)).v:Int))) rfl rfl GP zD rfl (by simp[Value.cells]) rfl rfl rfl J (fun an aL aM aN K=>fQ K 1 ?_))
   refine vi (lN rfl pX (lN rfl pX (lN rfl (qY (yF (a:=((fJ es (fJ b k)).u:Int)) (mm:=F) (enc:=(Prod.fst:Value×List jK->Value)) (k:=.i64) 5 rfl rfl zI yf Dm rfl K rfl) rfl rfl) (trivial)))) (jR ?_)
   refine mW (cf:=jK.cells) (ys:=(fT F ((fJ es (fJ b k)).u:Int)).2) (zs:=[(tE b k es)]) (LL:=fun e=>(MF (row (.slice (some ⟨an,0,none⟩) 1 1) 244 2 1 ([(.int .i64 (((fJ b k):Nat):Int)),(.int .i64 ((fJ es (fJ b k)).v:Int))])) e (((fT F ((fJ es (fJ b k)).u:Int)).2)++[(⟨(fJ b k),((fJ es (fJ b k)).v)⟩:jK)]) (oJ jK.cells 2 244 (iJ F ((fJ es (fJ b k)).u:Int))) C B n t y o T z A (some j) b j F (fV es n d) D G)) 1 rfl rfl rfl GP zD rfl d_ K rfl (l7 K (i:=0) rfl) (fun x hx=>zt.1 (show List.all _ _=true from rfl) x hx) (by simp only[zh,zn,maxLen];have h7:=a3 ((fJ es (fJ b k)).u:Int);omega) (by simp only[zh,zn,maxLen];have h7:=a3 ((fJ es (fJ b k)).u:Int);omega) f_ ?_
   intro e aO ao aP
   have U:=yg [1,2,3,4,5,6,7,8,9,10,11,12] ao
   refine fQ U 1 ?_
   refine kJ (kU ?_)
   refine qX (a:=((fJ es (fJ b k)).u:Int)) (c:=(e,((fT F ((fJ es (fJ b k)).u:Int)).2)++[(tE b k es)])) (mm:=F) (enc:=(Prod.fst:Value×List jK->Value)) (k:=.i64) (L' := (M3 e (((fT F ((fJ es (fJ b k)).u:Int)).2)++[(⟨(fJ b k),((fJ es (fJ b k)).v)⟩:jK)]) (oJ jK.cells 2 244 (iJ F ((fJ es (fJ b k)).u:Int))) C B n t y o T z A (some j) b j (gx F ((fJ es (fJ b k)).u:Int) (e,((fT F ((fJ es (fJ b k)).u:Int)).2)++[(⟨(fJ b k),((fJ es (fJ b k)).v)⟩:jK)])) (fV es n d) D G)) 4 rfl rfl rfl rfl zI yf U rfl rfl (fun aQ V=>fQ V 1 ?_)
   have W:=St.Pq V
   have a4:=Pt a3 ((fJ es (fJ b k)).u:Int) e (tE b k es)
   refine Kq tt none W 1 ?_
   have ap:=St.Pr ((fJ es (fJ b k)).v:Int) W
   refine kO mixed [([0,1,2,3,4,5,6,7,8,9,10,11,12,13,14],[3,8,10]),([15],[3])] [16] ap (fun aR L=>jR ?_)
   refine fK L 10 ?_
   refine qT (a:=((fJ es (fJ b k)).v:Int)) (mm:=(gx F ((fJ es (fJ b k)).u:Int) (e,((fT F ((fJ es (fJ b k)).u:Int)).2)++[(tE b k es)]))) (enc:=(Prod.fst:Value×List jK->Value)) (k:=.i64) 4 rfl rfl rfl zI yf Dm rfl L rfl (fK L 2 ?_)
   refine ji (pvs:=[(0,(Za (((fJ b k):Nat):Int))),(1,(Za ((fJ es (fJ b k)).u:Int)))]) (v:=.agg (Zz (((fJ b k):Nat):Int) ((fJ es (fJ b k)).u:Int))) rfl rfl (jA [(0,(Ze (((fJ b k):Nat):Int))),(1,(Ze ((fJ es (fJ b k)).u:Int)))] zD RQ rfl ⟨rfl,rfl,rfl,rfl,trivial⟩ rfl) (kj (vs:=(HM (((fJ b k):Nat):Int) ((fJ es (fJ b k)).u:Int))) (cs:=(Zp (((fJ b k):Nat):Int) ((fJ es (fJ b k)).u:Int))) rfl rfl GP zD rfl (by simp[Value.cells]) rfl rfl rfl L (fun aq aS aT aU M=>fQ M 1 ?_))
   refine vi (lN rfl pX (lN rfl pX (lN rfl (qY (yF (a:=((fJ es (fJ b k)).v:Int)) (mm:=(gx F ((fJ es (fJ b k)).u:Int) (e,((fT F ((fJ es (fJ b k)).u:Int)).2)++[(tE b k es)]))) (enc:=(Prod.fst:Value×List jK->Value)) (k:=.i64) 5 rfl rfl zI yf Dm rfl M rfl) rfl rfl) (trivial)))) (jR ?_)
   refine mW (cf:=jK.cells) (ys:=(fT (gx F ((fJ es (fJ b k)).u:Int) (e,((fT F ((fJ es (fJ b k)).u:Int)).2)++[(tE b k es)])) ((fJ es (fJ b k)).v:Int)).2) (zs:=[(D2 b k es)]) (LL:=fun E=>(MF (row (.slice (some ⟨aq,0,none⟩) 1 1) 244 2 1 ([(.int .i64 (((fJ b k):Nat):Int)),(.int .i64 ((fJ es (fJ b k)).u:Int))])) E (((fT (gx F ((fJ es (fJ b k)).u:Int) (e,((fT F ((fJ es (fJ b k)).u:Int)).2)++[(⟨(fJ b k),((fJ es (fJ b k)).v)⟩:jK)])) ((fJ es (fJ b k)).v:Int)).2)++[(⟨(fJ b k),((fJ es (fJ b k)).u)⟩:jK)]) (oJ jK.cells 2 244 (iJ (gx F ((fJ es (fJ b k)).u:Int) (e,((fT F ((fJ es (fJ b k)).u:Int)).2)++[(⟨(fJ b k),((fJ es (fJ b k)).v)⟩:jK)])) ((fJ es (fJ b k)).v:Int))) C B n t y o T z A (some j) b j (gx F ((fJ es (fJ b k)).u:Int) (e,((fT F ((fJ es (fJ b k)).u:Int)).2)++[(⟨(fJ b k),((fJ es (fJ b k)).v)⟩:jK)])) (fV es n d) D G)) 1 rfl rfl rfl GP zD rfl d_ M rfl (l7 M (i:=0) rfl) (fun x hx=>zt.1 (show List.all _ _=true from rfl) x hx) (by simp only[zh,zn,maxLen];have h7:=a4 ((fJ es (fJ b k)).v:Int);omega) (by simp only[zh,zn,maxLen];have h7:=a4 ((fJ es (fJ b k)).v:Int);omega) f_ ?_
   intro E aV ar aW
   have X:=yg [1,2,3,4,5,6,7,8,9,10,11,12] ar
   refine fQ X 1 ?_
   refine kJ (kU ?_)
   refine qX (a:=((fJ es (fJ b k)).v:Int)) (c:=(E,((fT (gx F ((fJ es (fJ b k)).u:Int) (e,((fT F ((fJ es (fJ b k)).u:Int)).2)++[(tE b k es)])) ((fJ es (fJ b k)).v:Int)).2)++[(D2 b k es)])) (mm:=(gx F ((fJ es (fJ b k)).u:Int) (e,((fT F ((fJ es (fJ b k)).u:Int)).2)++[(tE b k es)]))) (enc:=(Prod.fst:Value×List jK->Value)) (k:=.i64) (L' := (M3 E (((fT (gx F ((fJ es (fJ b k)).u:Int) (e,((fT F ((fJ es (fJ b k)).u:Int)).2)++[(⟨(fJ b k),((fJ es (fJ b k)).v)⟩:jK)])) ((fJ es (fJ b k)).v:Int)).2)++[(⟨(fJ b k),((fJ es (fJ b k)).u)⟩:jK)]) (oJ jK.cells 2 244 (iJ (gx F ((fJ es (fJ b k)).u:Int) (e,((fT F ((fJ es (fJ b k)).u:Int)).2)++[(⟨(fJ b k),((fJ es (fJ b k)).v)⟩:jK)])) ((fJ es (fJ b k)).v:Int))) C B n t y o T z A (some j) b j (gx (gx F ((fJ es (fJ b k)).u:Int) (e,((fT F ((fJ es (fJ b k)).u:Int)).2)++[(⟨(fJ b k),((fJ es (fJ b k)).v)⟩:jK)])) ((fJ es (fJ b k)).v:Int) (E,((fT (gx F ((fJ es (fJ b k)).u:Int) (e,((fT F ((fJ es (fJ b k)).u:Int)).2)++[(⟨(fJ b k),((fJ es (fJ b k)).v)⟩:jK)])) ((fJ es (fJ b k)).v:Int)).2)++[(⟨(fJ b k),((fJ es (fJ b k)).u)⟩:jK)])) (fV es n d) D G)) 4 rfl rfl rfl rfl zI yf X rfl rfl (fun aX Y=>fQ Y 1 ?_)
   have Z:=St.Pq Y
   have bb:=Pt a4 ((fJ es (fJ b k)).v:Int) E (D2 b k es)
   refine uZ tt none Z 6 ?_
   refine tN (?_)
   have au:=yg [1,2,3,0,4,5,6,7,8,9,10] Z
   exact again ((k+1),(gx (gx F ((fJ es (fJ b k)).u:Int) (e,((fT F ((fJ es (fJ b k)).u:Int)).2)++[(tE b k es)])) ((fJ es (fJ b k)).v:Int) (E,((fT (gx F ((fJ es (fJ b k)).u:Int) (e,((fT F ((fJ es (fJ b k)).u:Int)).2)++[(tE b k es)])) ((fJ es (fJ b k)).v:Int)).2)++[(D2 b k es)]))) ⟨rfl,rfl,rfl,rfl,gr rO,trivial⟩ (⟨au,o_,bb⟩) (by show (b.length-(k+1):Nat)<b.length-k;omega)
 . refine fK a2 13 ?_
   refine ji (pvs:=[(0,(Zb C))]) (v:=.agg (Zh C)) rfl rfl (jA [(0,(Zi C))] Th acQ rfl ⟨rfl,rfl,trivial⟩ rfl) (iF a2 (fun aa aY aZ a0 ab=>?_))
   refine fQ ab 5 ?_
   refine iH (v:=(Zb aa)) (v' := Zc) Tryz.results87 rfl rfl ?_
   have av:=yg [0,1,5,7,8,9,10,11] ab
   exact⟨aa,(⟨C,B,D,d,t,y,o,T,z,A,j⟩:Mf),rfl,vq (yp (p:=gP es n d) (yc [_,_,_,_,_,_,_,_] _ av) a1) s_⟩
structure uz (w:World) (mb n:Nat) (es:List Ge) (q:Mf):Prop where
 fg:gP es n q.f
 b1:(blk mb 123 (Zi q.bt)).holds w
 b2:(blk q.bt 120 [(Zb q.tb),(Za n),q.lv,q.rv,q.pv,q.hv,q.sv,q.fv,(.map (some q.mp))]).holds w
 t:ny w q.tb (fV es n q.f).p q.t
 r:mV w es n q.f q.lv q.rv q.pv q.hv q.sv
theorem uz.of{w:World}{mb n:Nat}{es:List Ge}{q:Mf}(a:Own (Mf.R mb n es q) w):uz w mb n es q:=by
 have h:=Own.of a.un
 exact⟨a.fact,St.at h (i:=0) rfl,St.at h (i:=1) rfl,ny.of (ye h 2 rfl),⟨(iO h 3 rfl).any,(iO h 4 rfl).any,(iO h 5 rfl).any,(iO h 6 rfl).any,(iO h 7 rfl).any⟩⟩
theorem uz.to{bs:List (World×List Nat)}{L:List fS}{w w0:World}{mb n:Nat}{es:List Ge}{q:Mf}(h:uz w0 mb n es q)(hs:St bs L w)(hb:(w0,[])∈bs):uz w mb n es q :=
 ⟨h.fg,St.x9 hs hb h.b1,St.x9 hs hb h.b2,h.t.to hs hb,h.r.to hs hb⟩
theorem J1(mb n:Nat)(es:List Ge)(q:Mf)(w:World)(d:uz w mb n es q)(m:n<=4096)(x:Nat)(o:x<n) :
 CR ya 47 (Zm mb x) w (fun r w' => r = .bool true/\gA [] w w'):=by
 obtain⟨h,i,j,k,l⟩:=lK (es:=es) (n:=n) (f:=q.f)
 have e:=d.fg.f.room d.fg.g
 refine en Tryz.func47 Tryz.ntmps47 ?_
 have b:=yt w
 refine fR b 8 ?_
 refine nh (a:=some ⟨mb,0,none⟩) (c:=true) rfl rfl rfl Tryz.underlying69 rfl (fK b 4 ?_)
 refine ld rfl rfl Dx rfl (kC b s_ d.b1 rfl) (nh (a:=some ⟨q.bt,0,none⟩) (c:=true) rfl rfl rfl Dx rfl (fK b 3 ?_))
 refine cmp rfl rfl rfl (nY o_) (fK b 6 ?_)
 refine ld rfl rfl Dx rfl (kC b s_ d.b1 rfl) (fK b 3 ?_)
 refine ld rfl rfl yf rfl (kC b s_ d.b2 rfl) (cmp rfl rfl rfl (qo o_) (fQ b 5 ?_))
 refine gp (v:=Zf) Tryz.results47 rfl ?_
 exact⟨rfl,b.gD s_⟩
theorem abw(mb n:Nat)(es:List Ge)(q:Mf)(w:World)(y:uz w mb n es q)(C:n<=4096){o:Obj}(E:(jw o).holds w)(u v:Nat)(L:u<n)(hv:v<n) :
 CR ya 48 (Zr mb u v) w (fun r w' => ∃ (z:Nat) (B:Bool),r = .tuple (Z7 z B)/\((u=v->z=0/\B=false)/\(u≠v->pG (fV es n q.f).p u v z B))/\gA [] w w'):=by
 obtain⟨G,H,I,J,K⟩:=lK (es:=es) (n:=n) (f:=q.f)
 have F:=y.fg.f.room y.fg.g
 refine en Tryz.func48 Tryz.ntmps48 ?_
 have D:=yt w
 refine fR D 11 ?_
 refine cl IN (J1 mb n es q w y C u o_) ?_
 rintro _ h ⟨rfl,i⟩
 have b:=yq D i
 refine fK b 4 ?_
 refine cl IN (J1 mb n es q h (y.to b s_) C v o_) ?_
 rintro _ j ⟨rfl,k⟩
 have a:=yq b k
 refine fK a 5 ?_
 by_cases s:((u:Int):Int)=((v:Int):Int)
 . refine fQ a 13 ?_
   refine iH (v:=Zc) (v' := Zn) Tryz.results48 rfl rfl ?_
   exact⟨0,false,rfl,⟨fun _=>⟨rfl,rfl⟩,fun A=>absurd o_ A⟩,a.gD s_⟩
 . refine fK a 12 ?_
   refine ld rfl rfl Dx rfl (kC a s_ y.b1 rfl) (fK a 2 ?_)
   refine ld rfl rfl zH rfl (kC a s_ y.b2 rfl) (fK a 2 ?_)
   refine cl Yk (aai q.tb (fV es n q.f).p q.t j (y.to a s_).t y.fg.mO o_ (St.AN a (X:=[]) s_ E s_) y.fg.Kr u v o_ o_) ?_
   rintro _ x ⟨c,d,rfl,l,m⟩
   have e:=yq a m
   refine fQ e 7 ?_
   refine iH (v:=(Za c)) (v' := (.bool d)) Tryz.results48 rfl rfl ?_
   exact⟨c,d,rfl,⟨fun A=>absurd A o_,fun _=>l⟩,e.gD s_⟩
theorem pG.lt{ps:List Int}{a b z:Nat}{B:Bool}(hp:jV ps)(h:pG ps a b z B)(e:a<ps.length)(hb:0<ps.length):z<ps.length:=by
 rcases h with ⟨_,s,t,c,_,d,_⟩|⟨_,h,_⟩
 . rw[<-d]
   exact(ow hp e c).1
 . omega
theorem aby(mb n:Nat)(es:List Ge)(q:Mf)(w:World)(A:uz w mb n es q)(C:n<=4096){o:Obj}(E:(jw o).holds w)(u v:Nat)(F:u<n)(hv:v<n) :
 CR ya 21 (Zr mb u v) w (fun r w' => ∃ (θ:Int) (B:Bool),r = .tuple (Z7 θ B)/\((u=v->θ = -9223372036854775808/\B=true)/\(u≠v->∃ z,pG (fV es n q.f).p u v z B/\(B=true->θ=fJ (fV es n q.f).h z)/\(B=false->θ=0)))/\gA [] w w'):=by
 obtain⟨I,J,K,L,M⟩:=lK (es:=es) (n:=n) (f:=q.f)
 have H:=A.fg.f.room A.fg.g
 refine en Tryz.func21 Tryz.ntmps21 ?_
 have D:=yt w
 refine fR D 11 ?_
 refine cl IN (J1 mb n es q w A C u o_) ?_
 rintro _ j ⟨rfl,l⟩
 have b:=yq D l
 refine fK b 3 ?_
 by_cases t:((u:Int):Int)=((v:Int):Int)
 . refine fQ b 13 ?_
   refine iH (v:=(Za (-9223372036854775808))) (v' := Zf) Tryz.results21 rfl rfl ?_
   exact⟨_,true,rfl,⟨fun _=>⟨rfl,rfl⟩,fun y=>absurd o_ y⟩,b.gD s_⟩
 . refine fK b 12 ?_
   refine cl XX (abw mb n es q j (A.to b s_) C (St.AN b (X:=[]) s_ E s_) u v F hv) ?_
   rintro _ x ⟨c,m,rfl,d,s⟩
   have a:=yq b s
   refine gH a 14 ?_
   cases e:(m:Bool)
   . skip
     subst e
     refine iS a 9 ?_
     refine iH (v:=Zc) (v' := Zn) Tryz.results21 rfl rfl ?_
     exact⟨0,false,rfl,⟨fun y=>absurd y o_,fun y=>⟨_,d.2 y,fun h=>absurd h d_,fun _=>rfl⟩⟩,a.gD s_⟩
   . skip
     subst e
     have N:c<n+q.f.length:=by have G:=pG.lt A.fg.mO (d.2 o_) o_ o_;omega
     refine fR a 8 ?_
     refine ld rfl rfl Dx rfl (kC a s_ A.b1 rfl) (fK a 3 ?_)
     refine ld rfl rfl y0 rfl (kC a s_ A.b2 rfl) (fK a 1 ?_)
     refine iP (k:=c) (i:=(c:Int)) rfl rfl rfl y0 ti2 A.r.h o_ o_ (gz o_) (jq rfl rfl vo rfl (yw a s_ d_ A.r.h) (gz o_) rfl (fQ a 5 ?_))
     refine iH (v:=(Za (fJ (fV es n q.f).h c))) (v' := Zf) Tryz.results21 rfl rfl ?_
     exact⟨_,true,rfl,⟨fun y=>absurd y o_,fun y=>⟨_,d.2 y,fun _=>rfl,fun h=>absurd h d_⟩⟩,a.gD s_⟩
end
section
open Go Go.Sx
theorem Uy(fb nb m:Nat)(ed:Int)(xs:List Nd)(w:World)(x:Own (Zk fb nb m ed xs) w)(hm:xs.length=m)(hb:m<=1000001)(t:gf xs)(F:FT)(s:Fo xs F)(v:Nat)(hv:v+1<m) :
 CR ya 127 (Zm fb v) w (fun r w' => ∃ (d:Int) (zs:List Nd) (F2:FT),r = .int .i64 d/\Fo zs F2/\gf zs/\zs.length=m/\(∀ u v,Ad (gw zs F2) u v↔Ad (gw xs F) u v)/\(∀ k,(fJ zs k).key=(fJ xs k).key)/\fZ (Zk fb nb m ed xs) w w' (Zk fb nb m ed zs)):=by
 refine en Tryz.func127 Tryz.ntmps127 ?_
 have q:=(yr x).unpack
 refine fR q 10 ?_
 refine cl EW (AJ fb nb m ed w (q.at (i:=0) rfl) hb v o_) ?_
 rintro _ g ⟨rfl,h⟩
 have e:=yq q h
 have f:=yc [_,_] _ e
 refine fK e 11 ?_
 refine cl xV (xW fb nb m ed xs g (ye f 0 rfl) (by first|exact hm|omega) hb t F s (v+1) o_ o_) ?_
 rintro _ l ⟨z,rfl,a,n,o,b,j,y⟩
 have c:=(ym f y)
 have p:a.length=m:=by have:=b.len;omega
 refine fK c 10 ?_
 refine jk (o' := (v+1)*9+0) (i:=(v:Int)+1) rfl rfl rfl yh jj (o9 (show (v+1)<(a).length from om)) o_ (fQ c 6 ?_)
 refine gp (v:=(Za ((fJ a (v+1)).total))) Tryz.results127 rfl ?_
 exact⟨(fJ a (v+1)).total,a,_,rfl,b.fo,j,by have:=b.len;omega,fun u v=>b.ad u v,fun k=>b.key k,yo (yc [_,_] _ c)⟩
end
section
open Go Go.Sx
theorem aa4(fb nb m:Nat)(A:Nat->Nat->Prop)(key:Nat->Int)(w:World)(o:Own (jN fb nb m A key) w)(hb:m<=1000001)(a:Nat)(q:a+1<m) :
 CR ya 127 (Zm fb a) w (fun r w' => ∃ d:Int,r = .int .i64 d/\fZ (jN fb nb m A key) w w' (jN fb nb m A key)):=by
 obtain⟨ed,xs,F,b,p⟩:=C3 o
 exact CR.mono (Uy fb nb m ed xs w p b.len hb b.CA F b.fo a q) fun r w' ⟨d,zs,F2,e,c,f,g,l,n,s⟩=>⟨d,e,Dv s ⟨g,f,c,fun i j=>(l _ _).trans (b.j4 i j),fun k h=>(n _).trans (b.key k h)⟩⟩
theorem Zv(fN fL ob:Nat)(s:GW)(A:Nat->Nat->Prop)(key:Nat->Int)(w:World)(n:Own (GI.R fN fL ob s A key) w)(v:Nat)(hv:v<fN) :
 CR ya 83 (Zm ob v) w (fun r w' => ∃ d:Int,r = .int .i64 d/\fZ (GI.R fN fL ob s A key) w w' (GI.R fN fL ob s A key)):=by
 have y:=n.fact.vn
 have x:=n.fact.v2
 have u:=n.fact.en
 refine en Tryz.func83 Tryz.ntmps83 ?_
 have t:=Own.of n.un
 have q:s.ok fN fL:=n.fact
 have f:=yp (p:=GW.ok fN fL s) (yc [_,_,_,_] _ t) q
 refine fR t 10 ?_
 refine cl IP (I7 fN fL ob s A key w (ye f 0 rfl) v o_) ?_
 rintro _ l ⟨rfl,o⟩
 have i:=yk 0 f o
 have j:=(jP i).unpack
 refine gO j 18 fun k g=>?_
 refine ar (e:=((fL+v:Nat):Int)) rfl rfl rfl rfl i7 (cl WY (aa4 s.fb s.nb (fL+fN+1) A key k (ye g 1 rfl) o_ (fL+v) o_) ?_)
 rintro _ m ⟨c,rfl,o⟩
 have h:=yk 1 g o
 refine ar (e:=(D3 c)) rfl rfl rfl rfl rfl (quo (a:=(D3 c)) (b:=2) (e:=(IntKind.i64.wrap ((D3 c).tdiv 2))) rfl rfl rfl d_ rfl (fQ h 4 ?_))
 refine gp (v:=(Za (IntKind.i64.wrap ((IntKind.i64.wrap (c+1)).tdiv 2)))) Tryz.results83 rfl ?_
 exact⟨_,rfl,yj (yp (p:=GW.ok fN fL s) (yc [_,_,_,_] _ h) q) ze⟩
theorem ZE(fN fL ob:Nat)(s:GW)(w:World)(b:Own (GW.R fN fL ob s) w)(v:Nat)(hv:v<fN) :
 CR ya 83 (Zm ob v) w (fun r w' => ∃ d:Int,r = .int .i64 d/\fZ (GW.R fN fL ob s) w w' (GW.R fN fL ob s)):=by
 obtain⟨A,key,⟨a,g,f⟩,c⟩:=C2 b
 exact CR.mono (Zv fN fL ob s A key w c v hv) fun r w' ⟨d,e,h⟩=>⟨d,e,Gv h ⟨a,g,f⟩⟩
end
section
open Go Go.Sx
theorem Ja{t:TW}{a b:Int}{c d:Nat}{p q:Bool}(h1:t.mA a c p)(e:t.mA b d q):(p&&q)=true/\t.mA a c true/\t.mA b d true\/(p&&q)=false/\¬ (t.cnt a=0/\t.cnt b=0):=by
 have e1:=h1.cnt
 have f:=e.cnt
 cases p<;>cases q<;>simp_all
theorem agc(c:WC)(F:Nat)(s:WW)(w:World)(H:Own (WW.R c F s) w)(a b:Int) :
 CR ya 23 (Hr F a b) w (fun r w' => ∃ (J K:Nat) (e:Int),r = .tuple (HB J K e)/\(e=0/\s.u.t.mA a J true/\s.u.t.mA b K true\/e=13/\¬ (s.u.t.cnt a=0/\s.u.t.cnt b=0))/\fZ (WW.R c F s) w w' (WW.R c F s)):=by
 refine en Tryz.func23 Tryz.ntmps23 ?_
 have I:=Own.of H.un
 have D:s.ok c:=H.fact
 have L:=D.w1
 have M:=D.wi
 have N:=D.n0
 have O:=D.n1
 have j:=yp (p:=s.ok c) (yc [_,_,_,_,_] _ I) D
 refine fR I 11 ?_
 refine cl uK (vj c F s w (ye j 0 rfl)) ?_
 rintro _ o ⟨rfl,E⟩
 have q:=yk 0 j E
 have f:=(jP q).unpack
 refine fK f 13 ?_
 refine cl ES (Gx c.fN c.fL s.ub s.u o (ye f 2 rfl) a) ?_
 rintro _ x ⟨k,y,rfl,g,E⟩
 have h:=yk 2 f E
 refine fK h 14 ?_
 refine cl ES (Gx c.fN c.fL s.ub s.u x (ye h 2 rfl) b) ?_
 rintro _ A ⟨l,z,rfl,i,E⟩
 have d:=yk 2 h E
 refine fK d 13 ?_
 cases m:(y:Bool)
 . skip
   subst m
   refine fQ d 15 ?_
   refine tf (v:=Zc) (v' := Zc) (v'' := Hs) Tryz.results23 rfl rfl rfl ?_
   rcases Ja g i with ⟨B,C,G⟩|⟨B,C⟩
   . exact absurd B (by simp_all)
   . exact⟨0,0,13,rfl,.inr ⟨rfl,C⟩,yj (yp (p:=s.ok c) (yc [_,_,_,_,_] _ d) D) ze⟩
 . skip
   subst m
   refine gH d 5 ?_
   cases n:(z:Bool)
   . skip
     subst n
     refine iS d 10 ?_
     refine tf (v:=Zc) (v' := Zc) (v'' := Hs) Tryz.results23 rfl rfl rfl ?_
     rcases Ja g i with ⟨B,C,G⟩|⟨B,C⟩
     . exact absurd B (by simp_all)
     . exact⟨0,0,13,rfl,.inr ⟨rfl,C⟩,yj (yp (p:=s.ok c) (yc [_,_,_,_,_] _ d) D) ze⟩
   . skip
     subst n
     refine iS d 13 ?_
     refine tf (v:=(Za ((k:Nat):Int))) (v' := (Za ((l:Nat):Int))) (v'' := Zc) Tryz.results23 rfl rfl rfl ?_
     rcases Ja g i with ⟨B,C,G⟩|⟨B,C⟩
     . exact⟨k,l,0,rfl,.inl ⟨rfl,C,G⟩,yj (yp (p:=s.ok c) (yc [_,_,_,_,_] _ d) D) ze⟩
     . exact absurd B (by simp_all)
theorem agz(c:WC)(A:Nat)(s:WW)(w:World)(E:Own (WW.R c A s) w)(id:Int) :
 CR ya 44 (Z4 A id) w (fun r w' => ∃ (d e:Int),r = .tuple (Zz d e)/\(e=0↔s.u.t.cnt id=0)/\fZ (WW.R c A s) w w' (WW.R c A s)):=by
 refine en Tryz.func44 Tryz.ntmps44 ?_
 have F:=Own.of E.un
 have z:s.ok c:=E.fact
 have K:=z.w1
 have L:=z.wi
 have M:=z.n0
 have N:=z.n1
 have h:=yp (p:=s.ok c) (yc [_,_,_,_,_] _ F) z
 refine fR F 11 ?_
 refine cl XG (agc c A s w (ye h 0 rfl) id id) ?_
 rintro _ l ⟨f,m,b,rfl,j,C⟩
 have n:=yk 0 h C
 have a:=(jP n).unpack
 refine fK a 13 ?_
 by_cases q:(b:Int)=(0:Int)
 . have D:fU.ok c.fN c.fL s.u:=(yy a (i:=2) rfl)
   have J:=z.v2
   have G:b=0/\s.u.t.mA id f true/\s.u.t.mA id m true:=j.elim (fun y=>y) (fun y=>by exfalso;omega)
   have O:f<c.fN:=by have y:=TW.mA.lt G.2.1 D.tok (by rw[D.tn];omega);rw[D.tn]at y;exact y
   refine fK a 13 ?_
   refine cl Yg (ZE c.fN c.fL s.ob s.g l (ye a 4 rfl) f o_) ?_
   rintro _ x ⟨o,rfl,C⟩
   have k:=yk 4 a C
   refine fQ k 5 ?_
   refine iH (v:=(Za o)) (v' := Zc) Tryz.results44 rfl rfl ?_
   have I:=G.2.1.cnt
   exact⟨_,0,rfl,⟨fun _=>by rw[I];rfl,fun _=>rfl⟩,yj (yp (p:=s.ok c) (yc [_,_,_,_,_] _ k) z) ze⟩
 . refine fQ a 13 ?_
   refine iH (v:=Zc) (v' := (Za b)) Tryz.results44 rfl rfl ?_
   have H:b=13/\¬ (s.u.t.cnt id=0/\s.u.t.cnt id=0):=j.elim (fun y=>by exfalso;omega) (fun y=>y)
   exact⟨_,_,rfl,⟨fun B=>(by exfalso;omega),fun B=>absurd ⟨B,B⟩ H.2⟩,yj (yp (p:=s.ok c) (yc [_,_,_,_,_] _ a) z) ze⟩
end
section
open Go Go.Sx
theorem Ul(c:WC)(j:Nat)(s:WW)(w:World)(k:Own (WW.R c j s) w) :
 CR ya 45 (Zh j) w (fun r w' => r = .int .u64 (IntKind.u64.wrap (s.added+s.jB))/\fZ (WW.R c j s) w w' (WW.R c j s)):=by
 refine en Tryz.func45 Tryz.ntmps45 ?_
 have l:=Own.of k.un
 have i:s.ok c:=k.fact
 have n:=i.w1
 have o:=i.wi
 have q:=i.n0
 have t:=i.n1
 have a:=yp (p:=s.ok c) (yc [_,_,_,_,_] _ l) i
 refine fR l 9 ?_
 refine cl uK (vj c j s w (ye a 0 rfl)) ?_
 rintro _ g ⟨rfl,m⟩
 have d:=yk 0 a m
 have f:=(jP d).unpack
 refine gO f 16 fun h b=>?_
 refine ar (e:=IntKind.u64.wrap (s.added+s.jB)) rfl rfl rfl rfl rfl (fQ b 4 ?_)
 refine gp (v:=(Zo (IntKind.u64.wrap (s.added+s.jB)))) Tryz.results45 rfl ?_
 exact⟨rfl,yj (yp (p:=s.ok c) (yc [_,_,_,_,_] _ b) i) ze⟩
structure Vk where
 iv:Value
 K:List Int
 es:List Ge
 f:List Nat
 lv:Value
 rv:Value
 pv:Value
 hv:Value
 sv:Value
 cb:Nat
 c:Cv
 mb:Nat
 q:Mf
structure Vk.ok (k:Vk):Prop where
 fg:gP k.es k.K.length k.f
 j5:k.K.Pairwise fun a b=>a<b
 n:k.K.length<=12
def Vk.R(k:Vk):fS:=kE k.ok (gq [fM iw k.iv 27 1 k.K,fM gh k.lv 3 1 ((fV k.es k.K.length k.f).l),fM gh k.rv 3 1 ((fV k.es k.K.length k.f).r),fM gh k.pv 3 1 ((fV k.es k.K.length k.f).p),fM gh k.hv 2 1 ((fV k.es k.K.length k.f).h),fM fW k.sv 3 1 ((fV k.es k.K.length k.f).s),(Cv.R k.cb k.K.length k.es k.c),(Mf.R k.mb k.K.length k.es k.q)])
abbrev Vk.v(k:Vk):Value:=.agg #[k.iv,(Za k.K.length),k.lv,k.rv,k.pv,k.hv,k.sv,(Zb k.cb),(Zb k.mb)]
structure Vk.of (s:WW) (k:Vk):Prop where
 ids:s.u.pK k.K
 RJ:∃ L,s.u.mB L/\oQ k.K L k.es L.length
abbrev Ak a b:=(gq [Vk.R a,b]:fS)
abbrev sO(a:Vk) b:=(Cv.R a.cb b a.es a.c:fS)
abbrev qj(a:Vk) b:=(Mf.R a.mb b a.es a.q:fS)
abbrev Zl(a:Vk):=fV a.es a.K.length a.f
abbrev Aa(a:Vk) b:=nB a.es a.K.length a.f b
abbrev Hv a (b c:Nat):=(gq [Vk.R a,gq [blk b 39 qm,blk c 40 qm]]:fS)
abbrev M9 a (b:Nat) (c:Int) (d:Nat) (e:Int) (f:Nat):=(gq [Vk.R a,gq [blk b 27 (Zt c),blk d 2 (Ze e),blk f 35 xP]]:fS)
abbrev rL(a:Vk)(b:Int):=([a.iv,.int .i64 b,a.lv,a.rv,a.pv,a.hv,a.sv,.pointer (some ⟨a.cb,0,none⟩),.pointer (some ⟨a.mb,0,none⟩)]:List Value)
abbrev Na a (b:Nat) (c:Int) (d:Nat) (e:Int) (f g:Nat) h:=(gq [Vk.R a,gq [blk b 27 (Zt c),blk d 27 (Zt e),blk f 2 [.int .i64 0],blk g 4 [.bool false],h]]:fS)
abbrev Ei(a:Vk)(b:Int):=(.agg #[a.iv,.int .i64 b,a.lv,a.rv,a.pv,a.hv,a.sv,.pointer (some ⟨a.cb,0,none⟩),.pointer (some ⟨a.mb,0,none⟩)]:Value)
abbrev Eg(a:Nat)(b:Int)(c:Vk)(d:Int):=([.pointer (some ⟨a,0,none⟩),.bool true,.int .u64 b,c.iv,.int .i64 d,c.lv,c.rv,c.pv,c.hv,c.sv,.pointer (some ⟨c.cb,0,none⟩),.pointer (some ⟨c.mb,0,none⟩),.int .i64 1]:List Value)
abbrev Hx(a b:Nat)(c:Int)(d:Vk)(e f:Int):=(blk a 102 [.pointer (some ⟨b,0,none⟩),.bool true,.int .u64 c,d.iv,.int .i64 e,d.lv,d.rv,d.pv,d.hv,d.sv,.pointer (some ⟨d.cb,0,none⟩),.pointer (some ⟨d.mb,0,none⟩),.int .i64 f]:fS)
abbrev Nc(a b:Nat)(c:Int)(d:Vk)(e:Int) f g:=(gq [blk a 102 (Eg b c d e),Vk.R d,WW.R f b g]:fS)
abbrev DX(a b:Nat)(c:Int)(d:Vk)(e f:Int) g h:=(gq [blk a 102 [.pointer (some ⟨b,0,none⟩),.bool true,.int .u64 c,d.iv,.int .i64 e,d.lv,d.rv,d.pv,d.hv,d.sv,.pointer (some ⟨d.cb,0,none⟩),.pointer (some ⟨d.mb,0,none⟩),.int .i64 f],Vk.R d,WW.R g b h]:fS)
abbrev UC(a b:Nat)(c:Int)(d:Vk)(e:Int) f g h:=(gq [blk a 102 (Eg b c d e),Vk.R d,WW.R f b g,h]:fS)
abbrev rK(a b:Nat)(c:Int)(d:Vk)(e f:Int) g h i:=(gq [blk a 102 [.pointer (some ⟨b,0,none⟩),.bool true,.int .u64 c,d.iv,.int .i64 e,d.lv,d.rv,d.pv,d.hv,d.sv,.pointer (some ⟨d.cb,0,none⟩),.pointer (some ⟨d.mb,0,none⟩),.int .i64 f],Vk.R d,WW.R g b h,i]:fS)
theorem oQ.ZC{s:fU}{fN fL:Nat}{K:List Int}{L:List Lv}{es:List Ge}(j:s.ok fN fL)(g:s.mB L)(h:oQ K L es L.length):qg K.length es:=fun e f=>by
 obtain⟨i,hi,e1⟩:=vC f
 have b:i<L.length:=by rw[<-h.len];exact hi
 have a:=h.fst i b
 have d:fJ es i=e:=ij (by rw[zm hi,e1])
 rw[d]at a
 refine⟨a.ul,a.vl,fun c=>(j.AJ ((g.mem _).1 (zd (gz b)))).2 ?_⟩
 rw[<-a.u,<-a.v,c]
theorem afY(c:WC)(wb:Nat)(s:WW)(w:World)(hO:Own (WW.R c wb s) w)(am:c.fN<=12) :
 CR ya 46 (Zh wb) w (fun r w' => ∃ (k:Vk),r=k.v/\Vk.of s k/\fZ (WW.R c wb s) w w' (gq [(WW.R c wb s),Vk.R k])):=by
 refine en Tryz.func46 Tryz.ntmps46 ?_
 have al:=yr hO
 have F:=r8 hO
 have au:=F.1.en
 have ar:=F.1.w1
 refine fR al 2 ?_
 refine iR al (fun U K V W A=>?_)
 refine fK A 5 ?_
 refine cl Yh (acL c wb s K (ye A 1 rfl) am) ?_
 rintro _ X ⟨d,B,Y,a,Z,g,rfl,b,T⟩
 have L:=yg [1,0] A
 have z:=yz (yk 0 L T)
 have F:=r8 (ye z 0 rfl)
 have ak:=oQ.ZC F.2.1 b.2.1 b.2.2
 have ap:=b.1.len F.2.1 F.2.2
 have aq:=b.2.1.len F.2.1
 have ao:=b.2.2.len
 have an:=F.1.en
 refine fK z 12 ?_
 refine ji (pvs:=[(0,d)]) (v:=.agg #[d,Zc,Zg,Zg,Zg,Zg,Zg,Zs,Zs]) rfl rfl (jA [(0,[d])] Dt ac4 rfl ⟨rfl,(cells_one (yu z (i:=1) rfl)),trivial⟩ rfl) (iR z (fun aa ab ac ad D=>?_))
 refine j8 0 D (fun M h=>?_) (h1:=(ic (yu D (i:=2) rfl) (ic rfl (ic rfl (ic rfl (ic rfl (ic rfl (ic rfl (ic rfl (ic rfl lB))))))))))
 refine fK h 5 ?_
 refine jm (m:=a.length) 2 rfl rfl oB h rfl (fK h 1 ?_)
 refine cl IZ (Kx B a.length g M (iO h 3 rfl).any ak o_ o_) ?_
 rintro _ ae ⟨E,j,l,n,aj,q,rfl,N,T⟩
 have f:=yz (ki h T)
 refine fK f 4 ?_
 refine j8 5 f (fun O t=>?_) (h1:=(ic rfl (ic (yu f (i:=0) rfl) (ic (yu f (i:=1) rfl) (ic (yu f (i:=2) rfl) (ic (yu f (i:=3) rfl) (ic (yu f (i:=4) rfl) lB)))))))
 refine fK t 5 ?_
 refine jm (m:=a.length) 7 rfl rfl oB t rfl (fK t 1 ?_)
 refine cl Yi (VN B a.length g O (iO t 8 rfl).any ak o_ o_) ?_
 rintro _ af ⟨u,G,rfl,T⟩
 have H:=(ki t T)
 refine fK H 4 ?_
 refine j8 6 H (fun P x=>?_)
 refine fK x 5 ?_
 refine jm (m:=a.length) 8 rfl rfl oB x rfl (fK x 1 ?_)
 refine cl Yj (abv B a.length g P (iO x 9 rfl).any ak o_ o_) ?_
 rintro _ ag ⟨y,I,rfl,T⟩
 have J:=(ki x T)
 refine fK J 4 ?_
 refine j8 7 J (fun ah e=>?_)
 refine fK e 5 ?_
 refine j8 12 e (fun ai C=>?_) (h1:=(ic (yu e (i:=9) rfl) (ic rfl (ic (yu e (i:=2) rfl) (ic (yu e (i:=3) rfl) (ic (yu e (i:=4) rfl) (ic (yu e (i:=5) rfl) (ic (yu e (i:=6) rfl) (ic rfl (ic rfl lB))))))))))
 refine fQ C 3 ?_
 refine Sn (v:=(.agg #[d,(Za a.length),j,l,n,aj,q,(Zb u),(Zb y)])) Tryz.results46 (oq (cs:=(B9 d a.length j l n aj q u y)) rfl GU rfl Dt rfl (lZ C (i:=12) (o:=0) (vs:=(B9 d a.length j l n aj q u y)) rfl rfl)) ?_
 have Q:=yg [8,9,2,3,4,5,6,1,0] C
 have S:=(yc [_,_,_,_,_,_,_,_] _ (Q.perm (rD (l₁:=[_]) (l₂:=[_,_,_,_,_,_,_,_])))).swap
 exact⟨(⟨d,a,g,E,j,l,n,aj,q,u,G,y,I⟩:Vk),rfl,⟨b.1,_,b.2.1,b.2.2⟩,yj (yc [_,_] [] (St.swap (yp (p:=Vk.ok (⟨d,a,g,E,j,l,n,aj,q,u,G,y,I⟩:Vk)) S.swap ⟨⟨ak,N⟩,b.1.j5,by show a.length<=12;omega⟩))) ze⟩
theorem Bm(b e:Nat)(cs:List Value)(w:World)(f:Own (blk b 102 ((Zb e) :: cs)) w) :
 CR ya 17 (Zh b) w (fun r w' => r = .bool true/\fZ (blk b 102 ((Zb e) :: cs)) w w' (blk b 102 ((Zb e) :: cs))):=by
 refine en Tryz.func17 Tryz.ntmps17 ?_
 have d:=yr f
 refine fR d 8 ?_
 refine nh (a:=some ⟨b,0,none⟩) (c:=true) rfl rfl rfl Tryz.underlying24 rfl (fK d 5 ?_)
 refine nh (a:=some ⟨e,0,none⟩) (c:=true) rfl rfl rfl Dz rfl (fQ d 5 ?_)
 refine gp (v:=Zf) Tryz.results17 rfl ?_
 exact⟨rfl,yo d⟩
theorem TX(c:WC)(j i:Nat)(s:WW)(cs:List Value)(w:World)(l:Own (Zy j ((.pointer (some ⟨i,0,none⟩)) :: cs) c i s) w)(id:Int) :
 CR ya 18 (Z4 j id) w (fun r w' => ∃ B:Bool,r = .bool B/\(B=true↔s.u.t.cnt id=0)/\fZ (Zy j ((.pointer (some ⟨i,0,none⟩)) :: cs) c i s) w w' (Zy j ((.pointer (some ⟨i,0,none⟩)) :: cs) c i s)):=by
 refine en Tryz.func18 Tryz.ntmps18 ?_
 have k:=(yr l).unpack
 refine fR k 12 ?_
 refine cl XV (agz c i s w (ye k 1 rfl) id) ?_
 rintro _ e ⟨f,d,rfl,b,m⟩
 have a:=yk 1 k m
 refine fK a 10 ?_
 by_cases g:(d:Int)=(0:Int)
 . refine fQ a 5 ?_
   refine gp (v:=Zf) Tryz.results18 rfl ?_
   exact⟨true,rfl,⟨fun h=>(by first|exact b.1 o_|cases h),fun h=>(by first|rfl|(exact absurd (b.2 h) o_))⟩,yo (yc [_,_] _ a)⟩
 . refine fQ a 5 ?_
   refine gp (v:=Zn) Tryz.results18 rfl ?_
   exact⟨false,rfl,⟨fun h=>(by first|exact b.1 o_|cases h),fun h=>(by first|rfl|(exact absurd (b.2 h) o_))⟩,yo (yc [_,_] _ a)⟩
theorem aeZ:ya.stoodInHeld 100=false:=by kernel_rfl
theorem PI:ya.eqGuardType ya.depth 100=false:=by kernel_rfl
theorem Pf(a b:Bool)(c d:Int)(w:World):(Op.equal 100 (.agg #[.bool a,.int .u64 c]) (.agg #[.bool b,.int .u64 d])).run ya w = .ok ((a==b)&&(c==d)) w :=
 aef GM aeZ d_ d_ (SD nr _ 0 _ rfl) (SD nr _ 0 _ rfl) (wV yi _ 1 _ rfl) (wV yi _ 1 _ rfl) (KN 9998 nr a b) (KO 9998 yi c d)
theorem Ys(a:Bool)(c:Int)(w:World):(Op.equal 100 (.agg #[.bool a,.int .u64 c]) (.agg #[.bool a,.int .u64 c])).run ya w = .ok true w:=by
 rw[Pf,beq_self_eq_true,beq_self_eq_true]
 rfl
theorem Ua(c:WC)(S F:Nat)(s:WW)(w:World){α:Type}(R:fS)(W : α->fS)(Φ : Vk->α->Prop)(V:Nat)(cap:List Value)(Y:gi ya V)(hq:∀ (k:Vk) (w1:World),Vk.of s k->Own (Ak k R) w1->CR ya V (k.v :: cap).toArray w1 (fun r w' => r = .tuple #[]/\∃ x,Φ k x/\fZ (Ak k R) w1 w' (Ak k (W x))))(X:Own (Md S F c s R) w)(aa:c.fN<=12) :
 CR ya 19 (HE S (.func (.func V) #[] cap.toArray)) w (fun r w' => ∃ (k:Vk) (x:α),r = .tuple #[]/\(Vk.of s k /\ Φ k x)/\fZ (Md S F c s R) w w' (UC S F (IntKind.u64.wrap (s.added+s.jB)) k k.K.length c s (W x))):=by
 refine en Tryz.func19 Tryz.ntmps19 ?_
 have T:=(yr X).unpack
 refine fR T 6 ?_
 refine cl O2 (Ul c F s w (ye T 1 rfl)) ?_
 rintro _ H ⟨rfl,U⟩
 have n:=yk 1 T U
 refine ji (pvs:=[(0,Zf),(1,(Zo (IntKind.u64.wrap (s.added+s.jB))))]) (v:=.agg (BU (IntKind.u64.wrap (s.added+s.jB)))) rfl rfl (jA [(0,[Zf]),(1,(Zt (IntKind.u64.wrap (s.added+s.jB))))] Dk RL rfl ⟨rfl,rfl,rfl,rfl,trivial⟩ rfl) (iR n (fun I J L M q=>?_))
 refine gO q 11 fun t f=>?_
 refine Rc (c:=false) (xs:=#[Zn,sP]) (ys:=(BU (IntKind.u64.wrap (s.added+s.jB)))) rfl rfl rfl PI (fun w=>Pf _ _ _ _ w) (fK f 10 ?_)
 refine cl XW (afY c F s t (ye f 2 rfl) aa) ?_
 rintro _ N ⟨b,rfl,h,U⟩
 have u:=yg [2,0,1,3] f
 have y:=yz (yk 0 u U)
 have j:=yg [1,0,2,3,4] y
 have Z:=sG j
 have a:=(jP j).unpack
 refine fK a 2 ?_
 refine j8 10 a (fun O d=>?_) (h1:=(ic (yu a (i:=0) rfl) (ic rfl (ic (yu a (i:=1) rfl) (ic (yu a (i:=2) rfl) (ic (yu a (i:=3) rfl) (ic (yu a (i:=4) rfl) (ic (yu a (i:=5) rfl) (ic rfl (ic rfl lB))))))))))
 refine fK d 5 ?_
 refine uR (cs:=[Zf,(Zo (IntKind.u64.wrap (s.added+s.jB)))]) rfl rfl GM rfl Dk rfl (lZ d (i:=9) (o:=0) (vs:=[Zf,(Zo (IntKind.u64.wrap (s.added+s.jB)))]) rfl rfl) (fK d 2 ?_)
 refine j8 10 d (fun P e=>?_)
 refine fK e 6 ?_
 refine ld rfl rfl yf rfl (k8 e 10 rfl rfl) (fK e 3 ?_)
 refine j8 10 e (fun z g=>?_)
 refine fK g 7 ?_
 refine uR (cs:=(rL b b.K.length)) rfl rfl GU rfl Dt rfl (lZ g (i:=10) (o:=3) (vs:=(rL b b.K.length)) rfl rfl) ?_
 have A:=yp (p:=Vk.ok b) (yc [_,_,_,_,_,_,_,_] _ g) Z
 have B:=yg [0,4,1,2,3] A
 have l:=yc [_,_] _ B
 refine qp (fi:=[]) (ca:=cap) rfl rfl rfl Y (hq b z h (ye l 0 rfl)) ?_
 rintro _ Q ⟨rfl,C,D,E⟩
 have m:=(ym l E)
 refine fQ m 1 ?_
 refine iZ Tryz.results19 ?_
 have G:=yg [4,0,2,1] m
 exact⟨b,C,rfl,⟨h,D⟩,yo (yc [_,_,_,_] _ G)⟩
theorem T9(c:WC)(A B:Nat)(s:WW)(w:World){α:Type}(z:fS)(E : α->fS)(Φ : Vk->α->Prop)(D:Nat)(cap:List Value)(G:gi ya D)(I:∀ (k:Vk) (w1:World),Vk.of s k->Own (Ak k z) w1->CR ya D (k.v :: cap).toArray w1 (fun r w' => r = .tuple #[]/\∃ x,Φ k x/\fZ (Ak k z) w1 w' (Ak k (E x))))(k:Vk)(H:Vk.of s k)(b:Int)(F:Own (rK A B (IntKind.u64.wrap (s.added+s.jB)) k k.K.length b c s z) w) :
 CR ya 19 (HE A (.func (.func D) #[] cap.toArray)) w (fun r w' => ∃ (x:α),r = .tuple #[] /\ Φ k x/\fZ (rK A B (IntKind.u64.wrap (s.added+s.jB)) k k.K.length b c s z) w w' (rK A B (IntKind.u64.wrap (s.added+s.jB)) k k.K.length b c s (E x))):=by
 refine en Tryz.func19 Tryz.ntmps19 ?_
 have C:=(yr F).unpack
 refine fR C 6 ?_
 refine cl O2 (Ul c B s w (ye C 2 rfl)) ?_
 rintro _ o ⟨rfl,J⟩
 have f:=yk 2 C J
 refine ji (pvs:=[(0,Zf),(1,(Zo (IntKind.u64.wrap (s.added+s.jB))))]) (v:=.agg (BU (IntKind.u64.wrap (s.added+s.jB)))) rfl rfl (jA [(0,[Zf]),(1,(Zt (IntKind.u64.wrap (s.added+s.jB))))] Dk RL rfl ⟨rfl,rfl,rfl,rfl,trivial⟩ rfl) (iR f (fun p q t u g=>?_))
 refine gO g 11 fun h a=>?_
 refine Rc (c:=true) (xs:=(BU (IntKind.u64.wrap (s.added+s.jB)))) (ys:=(BU (IntKind.u64.wrap (s.added+s.jB)))) rfl rfl rfl PI (fun w=>Ys _ _ w) ?_
 have i:=yg [2,4,0,1,3] a
 have d:=yc [_,_] _ i
 refine fK a 11 ?_
 refine qp (fi:=[]) (ca:=cap) rfl rfl rfl G (I k h H (ye d 0 rfl)) ?_
 rintro _ y ⟨rfl,j,l,m⟩
 have e:=(ym d m)
 refine fQ e 1 ?_
 refine iZ Tryz.results19 ?_
 have n:=yg [3,0,4,1] e
 exact⟨j,rfl,l,yo (yc [_,_,_,_] _ n)⟩
end
section
open Go Go.Sx
abbrev Vk.top(k:Vk)(T:Int)(x:Nat):Nat:=jc (fV k.es k.K.length k.c.f).p (fV k.es k.K.length k.c.f).h T x
abbrev Vk.gQ(k:Vk)(T:Int)(x:Nat):Nat:=Go.Sx.gQ k.es k.K.length k.c.f (k.top T x)
abbrev Vk.tZ(k:Vk)(T:Int)(x:Nat):Nat:=fJ (fV k.es k.K.length k.c.f).s (k.top T x)
theorem gP.JI{es:List Ge}{n:Nat}{f:List Nat}(h:gP es n f){y:Nat}(a:y<n+f.length):gQ es n f y<n:=by
 unfold gQ
 split
 . assumption
 . have:=h.st (i:=y-n) o_
   omega
theorem Vk.JI{k:Vk}(h:gP k.es k.K.length k.c.f){T:Int}{x:Nat}(i:x<k.K.length):k.gQ T x<k.K.length:=by
 obtain⟨a,b,d,e,g⟩:=lK (es:=k.es) (n:=k.K.length) (f:=k.c.f)
 refine gP.JI h ?_
 have:=NZ (hs:=(fV k.es k.K.length k.c.f).h) (T:=T) (x:=x) (ps:=(fV k.es k.K.length k.c.f).p) o_ h.mO
 show jc _ _ _ _<_
 omega
theorem V2{t:TW}{id:Int}(h:t.cnt id=0):t.mem id:=by
 apply Classical.byContradiction
 intro a
 rw[TW.tH a]at h
 cases h
theorem Vk.of.mem{s:WW}{k:Vk}(h:Vk.of s k){u:Int}(a:s.u.t.cnt u=0):u∈k.K:=(h.ids.mem u).2 (V2 a)
theorem VM(N O P:Nat)(u T:Int)(k:Vk)(w:World)(X:Own (M9 k N u O T P) w)(Z:u∈k.K) :
 CR ya 26 #[(Ei k k.K.length),(Zb N),(Zb O),(Zb P)] w (fun r w' => r = .tuple #[]/\∃ x:Int×Nat,x=(fJ k.K (k.gQ T (gK k.K u)),k.tZ T (gK k.K u))/\fZ (M9 k N u O T P) w w' (gq [Vk.R k,(gq [blk N 27 (Zt u),blk O 2 (Ze T),blk P 35 (Eb x.1 x.2)])])):=by
 refine en Tryz.func26 Tryz.ntmps26 ?_
 have V:=Own.of X
 have S:=sG V
 have aa:=S.n
 have W:=(jP V).unpack
 have j:=yg [8,0,1,2,3,4,5,6,7] W
 have d:=yz j
 have Y:gP k.es k.K.length k.c.f:=(yy W (i:=6) rfl)
 have U:=(r9 S.j5 Z).1
 have ab:=Vk.JI Y (T:=T) U
 refine fR d 2 ?_
 refine iF d (fun b C D E e=>?_)
 refine gH e 3 ?_
 refine rgs (Γ:=Nat) mixed [[],[0],[],[2],[],[2,3,4],[],[0,1,2,3,4,5,6],[0,1,2,3,4,5,6,7],[0,1,2,3,4,5,6,7,8],[0,1,2,3,4,5,6,7,8],[],[0,1,2,3,4,5,6,7,8,9,11],[0,1,2,3,4,5,6,7,8,9,10,11,12]] [11,12] d_ [fun _=>(.pointer (some ⟨b,7,none⟩)),fun _=>(Zb k.cb),fun _=>(Zb b),fun _=>k.iv,fun _=>(Zo u),fun _=>(Za (gK k.K u:Int)),fun _=>(Za T),fun _=>(MS ((k.gQ T (gK k.K u):Nat):Int) ((k.tZ T (gK k.K u):Nat):Int)),fun _=>(MS ((k.gQ T (gK k.K u):Nat):Int) ((k.tZ T (gK k.K u):Nat):Int)),fun _=>(B2 ((k.gQ T (gK k.K u):Nat):Int) ((k.tZ T (gK k.K u):Nat):Int)),fun _=>Zc,fun a=>(Zb a),fun _=>undef,fun _=>Zc] [(fun a=>[blk b 71 (rL k k.K.length),blk N 27 (Zt u),blk O 2 (Ze T),blk P 35 xP,fM iw k.iv 27 1 k.K,fM gh k.lv 3 1 ((Zl k).l),fM gh k.rv 3 1 ((Zl k).r),fM gh k.pv 3 1 ((Zl k).p),fM gh k.hv 2 1 ((Zl k).h),fM fW k.sv 3 1 ((Zl k).s),(sO k k.K.length),(qj k k.K.length)],fun _ _=>True),(fun a=>[blk a 87 vO,blk b 71 (rL k k.K.length),blk N 27 (Zt u),blk O 2 (Ze T),blk P 35 xP,fM iw k.iv 27 1 k.K,fM gh k.lv 3 1 ((Zl k).l),fM gh k.rv 3 1 ((Zl k).r),fM gh k.pv 3 1 ((Zl k).p),fM gh k.hv 2 1 ((Zl k).h),fM fW k.sv 3 1 ((Zl k).s),(sO k k.K.length),(qj k k.K.length)],fun _ _=>True),(fun a=>[blk a 87 (Zp ((k.gQ T (gK k.K u):Nat):Int) ((k.tZ T (gK k.K u):Nat):Int)),blk b 71 (rL k k.K.length),blk N 27 (Zt u),blk O 2 (Ze T),blk P 35 xP,fM iw k.iv 27 1 k.K,fM gh k.lv 3 1 ((Zl k).l),fM gh k.rv 3 1 ((Zl k).r),fM gh k.pv 3 1 ((Zl k).p),fM gh k.hv 2 1 ((Zl k).h),fM fW k.sv 3 1 ((Zl k).s),(sO k k.K.length),(qj k k.K.length)],fun _ _=>True)] 0 _ rfl e (fun _ _=>trivial) ?_ (fun a=>rfl) rfl ?_
 . skip
   refine' FK 5 ?_
   refine Kj rfl rfl rfl rfl rfl (fun a M F Q=>qc rfl rfl (sR rfl AG) (CR.mono (A7 k.iv k.K u M (Sl.any (iO F 4 rfl)) S.j5 o_) fun _ _ h=>⟨h.1,⟨F.grow h.2,trivial⟩⟩)) (fun a M F Q=>qc rfl rfl (sR rfl AG) (CR.mono (A7 k.iv k.K u M (Sl.any (iO F 5 rfl)) S.j5 o_) fun _ _ h=>⟨h.1,⟨F.grow h.2,trivial⟩⟩)) ?_
   refine' FK 1 ?_
   refine Kj rfl rfl rfl rfl rfl (fun a M F Q=>qc rfl rfl (sR rfl OW) (CR.mono (N6 k.cb k.K.length k.es k.c M (tB.of (ye F 10 rfl)) o_ (gK k.K u) U T) fun _ _ h=>⟨h.1,⟨F.grow h.2,trivial⟩⟩)) (fun a M F Q=>qc rfl rfl (sR rfl OW) (CR.mono (N6 k.cb k.K.length k.es k.c M (tB.of (ye F 11 rfl)) o_ (gK k.K u) U T) fun _ _ h=>⟨h.1,⟨F.grow h.2,trivial⟩⟩)) ?_
   refine' FK 3 ?_
   refine Ki rfl rfl rfl rfl (fun a M F Q=>Fq (cs:=vO) rfl Du rfl F (fun m _ h=>⟨m,⟨h,trivial⟩,rfl,kS rfl sT⟩)) (Ki rfl rfl rfl rfl (fun a M F Q=>JS 0 rfl rfl rfl rfl Du rfl rfl F rfl rfl rfl rfl (fun _ h=>⟨a,⟨h,trivial⟩,rfl,l9.refl _ _ _⟩)) ?_)
   refine' FK 1 ?_
   exact Rp
 rintro a G g -
 refine Kq tt none g 1 ?_
 refine kO mixed [([0,1,2,3,4,5,6,7,8],[1,3,5,7]),([9,10],[7])] [11,12] g (fun H o=>jR ?_)
 refine j7 o 10 fun I q=>?_
 refine kJ (jR ?_)
 refine j7 q 3 fun J t=>?_
 refine kJ (kU ?_)
 refine j7 t 3 fun L v=>?_
 refine iZ Tryz.results26 ?_
 have y:=yg [2,3,4,0,1,5,6,7,8,9,10,11,12] v
 have z:=yc [_,_,_] _ y
 have A:=yg [3,4,5,6,7,8,9,10,0,1,2] z
 have B:=yp (p:=Vk.ok k) (yc [_,_,_,_,_,_,_,_] _ A) S
 exact⟨rfl,(fJ k.K (k.gQ T (gK k.K u)),k.tZ T (gK k.K u)),rfl,yo (yc [_,_] _ B)⟩
theorem LC(c:WC)(b a:Nat)(s:WW)(cs:List Value)(w:World)(g:Own (Zy b ((.pointer (some ⟨a,0,none⟩)) :: cs) c a s) w)(id:Int)(h:s.u.t.cnt id=0):CR ya 18 (Z4 b id) w (fun r w' => r = .bool true/\fZ (Zy b ((.pointer (some ⟨a,0,none⟩)) :: cs) c a s) w w' (Zy b ((.pointer (some ⟨a,0,none⟩)) :: cs) c a s)) :=
 CR.mono (TX c b a s cs w g id) fun r w' ⟨B,d,e,f⟩=>⟨by rw[d,e.2 h],f⟩
theorem af1(c:WC)(b a:Nat)(s:WW)(cs:List Value)(w:World)(g:Own (Zy b ((.pointer (some ⟨a,0,none⟩)) :: cs) c a s) w)(id:Int)(i:s.u.t.cnt id≠0):CR ya 18 (Z4 b id) w (fun r w' => r = .bool false/\fZ (Zy b ((.pointer (some ⟨a,0,none⟩)) :: cs) c a s) w w' (Zy b ((.pointer (some ⟨a,0,none⟩)) :: cs) c a s)) :=
 CR.mono (TX c b a s cs w g id) fun r w' ⟨B,d,e,f⟩=>⟨by rw[d,Bool.eq_false_iff.2 (fun h=>i (e.1 h))],f⟩
theorem af0(c:WC)(F wb:Nat)(s:WW)(w:World)(hO:Own (Al F wb c s) w)(ag:c.fN<=12)(u T:Int)(hu:s.u.t.cnt u=0) :
 CR ya 9 (Mm F u T) w (fun r w' => ∃ (k:Vk) (x:Int×Nat),r = .tuple #[.agg (Mc x.1 x.2),.int .i64 0]/\(Vk.of s k/\x=(fJ k.K (k.gQ T (gK k.K u)),k.tZ T (gK k.K u)))/\fZ (Al F wb c s) w w' (Nc F wb (IntKind.u64.wrap (s.added+s.jB)) k k.K.length c s)):=by
 refine en Tryz.func9 Tryz.ntmps9 ?_
 have ae:=(yr hO).unpack
 refine fR ae 2 ?_
 refine iF ae (fun b P Q R q=>?_)
 refine iF q (fun d S U V y=>?_)
 refine iR y (fun W z X Y f=>?_)
 refine fK f 7 ?_
 refine cl AF (Bm F wb _ z (ye f 3 rfl)) ?_
 rintro _ A ⟨rfl,ht⟩
 have h:=yk 3 f ht
 have B:=yg [3,4,0,1,2] h
 have j:=yc [_,_] _ B
 refine fK h 11 ?_
 refine cl EP (LC c F wb s _ A (ye j 0 rfl) u hu) ?_
 rintro _ Z ⟨rfl,C⟩
 have l:=(ym j C)
 refine fK l 8 ?_
 refine iR l (fun e D aa ab m=>?_)
 refine fK m 5 ?_
 refine oc (vf:=[]) (vc:=(Ai b d e)) rfl rfl rfl ?_
 have E:=yg [5,4,0,1,2,3] m
 have G:=yc [_,_,_] _ E
 have H:=yg [1,2,0,3] G
 have n:=yc [_,_,_] _ H
 refine cl ER (Ua c F wb s D (gq [blk b 27 (Zt u),blk d 2 (Ze T),blk e 35 xP]) (fun x:Int×Nat=>gq [blk b 27 (Zt u),blk d 2 (Ze T),blk e 35 (Eb x.1 x.2)]) (fun k x=>x=(fJ k.K (k.gQ T (gK k.K u)),k.tZ T (gK k.K u))) 26 (Ai b d e) XJ (fun k w1 af hO=>VM b d e u T k w1 hO (af.mem hu)) (ye n 0 rfl) ag) ?_
 rintro _ ac ⟨I,a,rfl,J,L⟩
 have M:=(ym n L)
 have N:=yg [3,0,1,2,4] M
 have p:=yz N
 refine fK p 5 ?_
 refine j8 6 p (fun ad g=>?_)
 refine fQ g 4 ?_
 refine og (v:=(UA a.1 a.2)) (v' := Zc) Tryz.results9 (oq (cs:=(Eb a.1 a.2)) rfl GR rfl Gp rfl (lZ g (i:=6) (o:=0) (vs:=(Eb a.1 a.2)) rfl rfl)) (pg rfl) ?_
 have O:=yg [3,4,5] g
 exact⟨I,a,rfl,J,yo (yc [_,_,_] _ O)⟩
theorem afZ(c:WC)(I F:Nat)(s:WW)(cs:List Value)(w:World)(K:Own (Zy I ((.pointer (some ⟨F,0,none⟩)) :: cs) c F s) w)(u T:Int)(M:s.u.t.cnt u≠0) :
 CR ya 9 (Mm I u T) w (fun r w' => r = .tuple #[.agg HC,.int .i64 13]/\fZ (Zy I ((.pointer (some ⟨F,0,none⟩)) :: cs) c F s) w w' (Zy I ((.pointer (some ⟨F,0,none⟩)) :: cs) c F s)):=by
 refine en Tryz.func9 Tryz.ntmps9 ?_
 have J:=(yr K).unpack
 refine fR J 2 ?_
 refine iF J (fun n p q x g=>?_)
 refine iF g (fun y z A B h=>?_)
 refine iR h (fun C j D E a=>?_)
 refine fK a 7 ?_
 refine cl AF (Bm I F _ j (ye a 3 rfl)) ?_
 rintro _ k ⟨rfl,L⟩
 have b:=yk 3 a L
 have l:=yg [3,4,0,1,2] b
 have d:=yc [_,_] _ l
 refine fK b 11 ?_
 refine cl EP (af1 c I F s _ k (ye d 0 rfl) u M) ?_
 rintro _ G ⟨rfl,m⟩
 have e:=(ym d m)
 refine fK e 6 ?_
 refine ji (pvs:=[]) (v:=.agg HC) rfl rfl (jA [] Gp ac2 rfl trivial rfl) (j7 e 6 fun H f=>?_)
 refine og (v:=(.agg HC)) (v' := Hs) Tryz.results9 (oq (cs:=xP) rfl GR rfl Gp rfl (lZ f (i:=2) (o:=0) (vs:=xP) rfl rfl)) (pg rfl) ?_
 exact⟨rfl,yo (yc [_,_] _ f)⟩
end
section
open Go Go.Sx
theorem Own.still{R:fS}{w w' : World}(h:Own R w)(a:gA [] w w'):fZ R w w' R:=yj (yq (yr h) a) ze
def Vk.mm(k:Vk)(u v:Nat)(x:Int×Bool):Prop:=(u=v->x.1 = -9223372036854775808/\x.2=true) /\
 (u≠v->∃ z,pG (fV k.es k.K.length k.q.f).p u v z x.2/\(x.2=true->x.1=fJ (fV k.es k.K.length k.q.f).h z)/\(x.2=false->x.1=0))
theorem abx(k:Vk)(w:World)(a:Own (qj k k.K.length) w)(f:k.K.length<=4096){o:Obj}(e:(jw o).holds w)(u v:Nat)(g:u<k.K.length)(hv:v<k.K.length) :
 CR ya 21 (Zr k.mb u v) w (fun r w' => ∃ (z:Int) (y:Bool),r = .tuple (Z7 z y)/\k.mm u v (z,y)/\fZ (qj k k.K.length) w w' (qj k k.K.length)) :=
 CR.mono (aby k.mb k.K.length k.es k.q w (uz.of a) f e u v g hv) fun r w' ⟨z,y,b,c,d⟩=>⟨z,y,b,c,Own.still a d⟩
theorem abH(M N O L:Nat){o:Obj}(a a2:Int)(k:Vk)(w:World)(Q:Own (Na k M a N a2 O L (jw o)) w)(S:a∈k.K)(T:a2∈k.K) :
 CR ya 20 #[(Ei k k.K.length),(Zb M),(Zb N),(Zb O),(Zb L)] w (fun r w' => r = .tuple #[]/\∃ x:Int×Bool,k.mm (gK k.K a) (gK k.K a2) x/\fZ (Na k M a N a2 O L (jw o)) w w' (gq [Vk.R k,(gq (Mn M a N a2 O x.1 L x.2 (jw o)))])):=by
 refine en Tryz.func20 Tryz.ntmps20 ?_
 have P:=Own.of Q
 have F:=sG P
 have Y:=F.n
 have W:=(jP P).unpack
 have g:=yg [8,0,1,2,3,4,5,6,7] W
 have e:=yz g
 have U:=(r9 F.j5 S).1
 have V:=(r9 F.j5 T).1
 refine fR e 2 ?_
 refine iF e (fun D E G H f=>?_)
 refine gH f 2 ?_
 refine kO mixed [([0,1,2,3,4,6,7,8,5],[1,7,8]),([9],[1])] [10,11,12,13,14,15] f (fun h c=>jR ?_)
 refine fK c 8 ?_
 refine cl AG (A7 k.iv k.K a h (Sl.any (iO c 6 rfl)) F.j5 o_) ?_
 rintro _ j ⟨rfl,l⟩
 have d:=yq c l
 refine fQ d 1 ?_
 refine kJ (jR ?_)
 refine cl AG (A7 k.iv k.K a2 j (Sl.any (iO d 6 rfl)) F.j5 o_) ?_
 rintro _ m ⟨rfl,q⟩
 have b:=yq d q
 refine fQ b 1 ?_
 refine kJ (kU ?_)
 refine cl XC (abx k m (ye b 13 rfl) o_ (St.at b (i:=5) rfl) (gK k.K a) (gK k.K a2) U V) ?_
 rintro _ I ⟨s,t,rfl,u,X⟩
 have v:=yk 13 b X
 refine j7 v 6 fun J y=>?_
 refine iZ Tryz.results20 ?_
 have z:=yg [1,2,3,4,5,0,6,7,8,9,10,11,12,13] y
 have A:=yc [_,_,_,_,_] _ z
 have B:=yg [2,3,4,5,6,7,8,9,0,1] A
 have C:=yp (p:=Vk.ok k) (yc [_,_,_,_,_,_,_,_] _ B) F
 exact⟨rfl,(s,t),u,yo (yc [_,_] _ C)⟩
theorem TY{o:Obj}(c:WC)(F T:Nat)(s:WW)(k:Vk)(ai:Vk.of s k)(b:Int)(w:World)(hO:Own (rK F T (IntKind.u64.wrap (s.added+s.jB)) k k.K.length b c s (jw o)) w)(a a2:Int)(hu:s.u.t.cnt a=0)(ak:s.u.t.cnt a2=0) :
 CR ya 6 (Hr F a a2) w (fun r w' => ∃ (x:Int×Bool),r = .tuple (Me x.1 x.2)/\k.mm (gK k.K a) (gK k.K a2) x/\fZ (rK F T (IntKind.u64.wrap (s.added+s.jB)) k k.K.length b c s (jw o)) w w' (rK F T (IntKind.u64.wrap (s.added+s.jB)) k k.K.length b c s (jw o))):=by
 refine en Tryz.func6 Tryz.ntmps6 ?_
 have aj:=(yr hO).unpack
 refine fR aj 2 ?_
 refine iF aj (fun d V W X A=>?_)
 refine iF A (fun e B Y Z h=>?_)
 refine fK h 9 ?_
 refine cl AF (Bm F T _ B (ye h 2 rfl)) ?_
 rintro _ C ⟨rfl,ht⟩
 have j:=yk 2 h ht
 have D:=yg [2,4,0,1,3,5] j
 have l:=yc [_,_] _ D
 refine fK j 11 ?_
 refine cl EP (LC c F T s _ C (ye l 0 rfl) a hu) ?_
 rintro _ E ⟨rfl,G⟩
 have m:=(ym l G)
 have n:=yc [_,_] _ m
 refine fK m 4 ?_
 refine cl EP (LC c F T s _ E (ye n 0 rfl) a2 ak) ?_
 rintro _ aa ⟨rfl,H⟩
 have p:=(ym n H)
 refine fK p 9 ?_
 refine iR p (fun f ab ac ad q=>?_)
 refine fK q 4 ?_
 refine iR q (fun g I ae af y=>?_)
 refine fK y 5 ?_
 refine oc (vf:=[]) (vc:=(Mh d e f g)) rfl rfl rfl ?_
 have J:=yg [5,4,1,0,7,2,3,6] y
 have L:=yc [_,_,_,_,_] _ J
 have M:=yg [1,3,2,0] L
 have z:=yc [_,_,_,_] _ M
 refine cl ER (T9 c F T s I (UD d a e a2 f g (jw o)) (fun x:Int×Bool=>gq (Mn d a e a2 f x.1 g x.2 (jw o))) (fun k x=>k.mm (gK k.K a) (gK k.K a2) x) 20 (Mh d e f g) Xx (fun k w1 ai hO=>abH d e f g a a2 k w1 hO (ai.mem hu) (ai.mem ak)) k ai b (ye z 0 rfl)) ?_
 rintro _ ag ⟨i,rfl,N,O⟩
 have P:=(ym z O)
 have Q:=yg [3,0,1,2] P
 have R:=yz Q
 refine j7 R 12 fun ah S=>?_
 refine tf (v:=(Za i.1)) (v' := (.bool i.2)) (v'' := Zc) Tryz.results6 rfl rfl rfl ?_
 have U:=yg [5,6,7,4] S
 exact⟨i,rfl,N,yo (yc [_,_,_,_] _ U)⟩
end
section
open Go Go.Sx

end
section
open Go Go.Sx

end
section
open Go Go.Sx
structure jT where
 a:Int
 b:Int
instance:Inhabited jT:=⟨⟨0,0⟩⟩
def jT.cells(x:jT):List Value:=[.int .u64 x.a,.int .u64 x.b]
abbrev Vk.mg(k:Vk):List Mg:=nZ k.es k.K.length k.f k.f.length
def Vk.mI(k:Vk)(j:Nat):List jT:=(k.mg.take j).map fun m=>⟨fJ k.K m.a,fJ k.K m.b⟩
def Vk.mH(k:Vk)(j:Nat):List Int:=(k.mg.take j).map Mg.h
abbrev Nb a (b:Nat) c (d:Nat) e f g:=(gq [Vk.R a,gq [blk b 39 [c],blk d 40 [e],fM jT.cells c 46 2 f,fM gh e 2 1 g]]:fS)
abbrev Nf(a b:Nat)(c:Int)(d:Vk)(e f:Int) g h i j k l:=(gq [blk a 102 [.pointer (some ⟨b,0,none⟩),.bool true,.int .u64 c,d.iv,.int .i64 e,d.lv,d.rv,d.pv,d.hv,d.sv,.pointer (some ⟨d.cb,0,none⟩),.pointer (some ⟨d.mb,0,none⟩),.int .i64 f],Vk.R d,WW.R g b h,fM jT.cells i 46 2 j,fM gh k 2 1 l]:fS)
abbrev BX(a:Nat) b (c:Nat) d e f g h (i:Nat) j (k:Nat) l m n o p (q r:Nat) s (t:nW) u v x:=([blk a 39 [b],blk c 40 [d],fM jT.cells b 46 2 e,fM gh d 2 1 f,fM Mg.cells g 96 5 h,blk i 71 (B9 j k l m n o p q r),fM iw j 27 1 s,fM gh l 3 1 t.l,fM gh m 3 1 t.r,fM gh n 3 1 t.p,fM gh o 2 1 t.h,fM fW p 3 1 t.s,Cv.R q k u v,Mf.R r k u x]:List fS)
abbrev ME a (b:Nat) (c d e f:Int) (g:Nat) h (i:Nat) j k l m n o (p:Nat) q (r:Nat) s t u v x (y z:Nat) aa (ab:nW) ac ad ae:=([a,blk b 96 (B7 c d e f),blk g 39 [h],blk i 40 [j],fM jT.cells k 46 2 l,fM gh j 2 1 m,fM Mg.cells n 96 5 o,blk p 71 (B9 q r s t u v x y z),fM iw q 27 1 aa,fM gh s 3 1 ab.l,fM gh t 3 1 ab.r,fM gh u 3 1 ab.p,fM gh v 2 1 ab.h,fM fW x 3 1 ab.s,Cv.R y r ac ad,Mf.R z r ac ae]:List fS)
abbrev MX(a:Nat) b (c:Nat) (d e f g:Int) (h:Nat) i (j:Nat) k l m n o p (q:Nat) r (s:Nat) t u v x y (z A:Nat) ab (w:nW) ad ae af:=([ir .i64 (Z6 a) 2 b,blk c 96 (B7 d e f g),blk h 39 [i],blk j 40 [k],fM jT.cells i 46 2 l,fM gh m 2 1 n,fM Mg.cells o 96 5 p,blk q 71 (B9 r s t u v x y z A),fM iw r 27 1 ab,fM gh t 3 1 w.l,fM gh u 3 1 w.r,fM gh v 3 1 w.p,fM gh x 2 1 w.h,fM fW y 3 1 w.s,Cv.R z s ad ae,Mf.R A s ad af]:List fS)
theorem Vk.abA{k:Vk}(h:gP k.es k.K.length k.f){i:Nat}(hi:i<k.f.length):(fJ k.mg i).a<k.K.length/\(fJ k.mg i).b<k.K.length:=by
 rw[ij (show k.mg[i]? = some (Fy k.es k.K.length k.f i) by show ((List.range k.f.length).map _)[i]? = _;simp[hi])]
 have:=h.st hi
 show nA _ _ _ _<_/\nB _ _ _ _<_
 omega
theorem Vk.abc{k:Vk}{j:Nat}(h:j<k.mg.length):k.mI (j+1)=k.mI j++[⟨fJ k.K (fJ k.mg j).a,fJ k.K (fJ k.mg j).b⟩]:=Gg _ h
theorem Vk.aa8{k:Vk}{j:Nat}(h:j<k.mg.length):k.mH (j+1)=k.mH j++[(fJ k.mg j).h]:=Gg _ h
theorem Vk.aba{k:Vk}{j:Nat}:(k.mI j).length<=j:=by simp[Vk.mI];omega
theorem Vk.aa7{k:Vk}{j:Nat}:(k.mH j).length<=j:=by simp[Vk.mH];omega
theorem QI(b2 b3:Nat)(k:Vk)(w:World)(hO:Own (Hv k b2 b3) w) :
 CR ya 28 #[(Ei k k.K.length),(Zb b2),(Zb b3)] w (fun r w' => r = .tuple #[]/\∃ x:Value×Value×List jT×List Int,(x.2.2.1=k.mI k.mg.length/\x.2.2.2=k.mH k.mg.length)/\fZ (Hv k b2 b3) w w' (Nb k b2 x.1 b3 x.2.1 x.2.2.1 x.2.2.2)):=by
 refine enter (vs:=[(Ei k k.K.length),(Zb b2),(Zb b3)]) Tryz.func28 rfl Tryz.ntmps28 rfl ?_
 have aI:St _ [Vk.R k,(DZ b2 b3)] w:=Own.of hO
 have T:=sG aI
 have aR:=T.n
 have aL:St _ [fM iw k.iv 27 1 k.K,fM gh k.lv 3 1 ((fV k.es k.K.length k.f).l),fM gh k.rv 3 1 ((fV k.es k.K.length k.f).r),fM gh k.pv 3 1 ((fV k.es k.K.length k.f).p),fM gh k.hv 2 1 ((fV k.es k.K.length k.f).h),fM fW k.sv 3 1 ((fV k.es k.K.length k.f).s),(sO k k.K.length),(qj k k.K.length),(DZ b2 b3)] w:=(jP aI).unpack
 have S:=yg [8,0,1,2,3,4,5,6,7] aL
 have M:St _ [blk b2 39 qm,blk b3 40 qm,fM iw k.iv 27 1 k.K,fM gh k.lv 3 1 ((fV k.es k.K.length k.f).l),fM gh k.rv 3 1 ((fV k.es k.K.length k.f).r),fM gh k.pv 3 1 ((fV k.es k.K.length k.f).p),fM gh k.hv 2 1 ((fV k.es k.K.length k.f).h),fM fW k.sv 3 1 ((fV k.es k.K.length k.f).s),(sO k k.K.length),(qj k k.K.length)] w:=yz S
 have aK:k.mg.length=k.f.length:=Fz
 have aO:=T.fg.f.room T.fg.g
 refine fR M 2 ?_
 refine iF M (fun e U am an t=>?_)
 refine fK t 6 ?_
 refine jM (vl:=(D9 k.K.length k.lv k.rv k.pv k.hv k.sv)) rfl rfl XK (Ws k.es k.K.length k.f T.fg o_ k.lv k.rv k.pv k.hv k.sv U ⟨(vr t (i:=4) rfl f_).any,(vr t (i:=5) rfl f_).any,(vr t (i:=6) rfl f_).any,(vr t (i:=7) rfl f_).any,(vr t (i:=8) rfl f_).any⟩) ?_
 rintro _ D ⟨d,rfl,ht⟩
 have A:St _ [fM Mg.cells d 96 5 k.mg,blk e 71 (rL k k.K.length),blk b2 39 qm,blk b3 40 qm,fM iw k.iv 27 1 k.K,fM gh k.lv 3 1 ((fV k.es k.K.length k.f).l),fM gh k.rv 3 1 ((fV k.es k.K.length k.f).r),fM gh k.pv 3 1 ((fV k.es k.K.length k.f).p),fM gh k.hv 2 1 ((fV k.es k.K.length k.f).h),fM fW k.sv 3 1 ((fV k.es k.K.length k.f).s),(sO k k.K.length),(qj k k.K.length)] D:=(ki (R:=fM Mg.cells d 96 5 k.mg) t ht)
 refine fK A 10 ?_
 refine jm (m:=k.mg.length) 0 rfl rfl GX A rfl ?_
 have V:St _ [fM jT.cells Zg 46 2 (k.mI 0),fM Mg.cells d 96 5 k.mg,blk e 71 (rL k k.K.length),blk b2 39 qm,blk b3 40 qm,fM iw k.iv 27 1 k.K,fM gh k.lv 3 1 ((fV k.es k.K.length k.f).l),fM gh k.rv 3 1 ((fV k.es k.K.length k.f).r),fM gh k.pv 3 1 ((fV k.es k.K.length k.f).p),fM gh k.hv 2 1 ((fV k.es k.K.length k.f).h),fM fW k.sv 3 1 ((fV k.es k.K.length k.f).s),(sO k k.K.length),(qj k k.K.length)] D:=rA A 46 2
 have W:St _ [fM gh Zg 2 1 (k.mH 0),fM jT.cells Zg 46 2 (k.mI 0),fM Mg.cells d 96 5 k.mg,blk e 71 (rL k k.K.length),blk b2 39 qm,blk b3 40 qm,fM iw k.iv 27 1 k.K,fM gh k.lv 3 1 ((fV k.es k.K.length k.f).l),fM gh k.rv 3 1 ((fV k.es k.K.length k.f).r),fM gh k.pv 3 1 ((fV k.es k.K.length k.f).p),fM gh k.hv 2 1 ((fV k.es k.K.length k.f).h),fM fW k.sv 3 1 ((fV k.es k.K.length k.f).s),(sO k k.K.length),(qj k k.K.length)] D:=rA V 2 1
 have X:=yg [4,5,1,0,2,3,6,7,8,9,10,11,12,13] W
 refine gH A 4 ?_
 refine lp (α:=Nat×Value×Value) (fun(i,F,hv)=>[(1,(Zb b2)),(2,(Zb b3)),(3,(Zb e)),(14,d),(15,(Za k.mg.length)),(16,(Za i))]) (fun(i,F,hv) w1=>St [(w,(Hv k b2 b3).gJ)] (BX b2 F b3 hv (k.mI i) (k.mH i) d k.mg e k.iv k.K.length k.lv k.rv k.pv k.hv k.sv k.cb k.mb k.K (fV k.es k.K.length k.f) k.es k.c k.q) w1/\i<=k.mg.length) (fun(i,F,hv)=>k.mg.length-i) (0,Zg,Zg) ⟨rfl,rfl,rfl,rfl,rfl,gr (by first|rfl|omega),trivial⟩ (⟨X,o_⟩) ?_
 rintro⟨i,F,hv⟩ ao B ⟨aF,hi⟩
 have aQ:=Vk.aba (k:=k) (j:=i)
 have aP:=Vk.aa7 (k:=k) (j:=i)
 refine fR aF 2 ?_
 by_cases ap:((i:Int):Int)<((k.mg.length:Int):Int)
 . have aJ:i<k.f.length:=by have h7:=aK;omega
   have aG:=Vk.abA T.fg aJ
   have aM:=aG.1
   have aN:=aG.2
   refine fK aF 13 ?_
   refine iR aF (fun y aq ar au Y=>?_)
   refine wX Y 4 fun aw Z=>?_
   refine kO mixed [([0,1,2,3,4,5,6,7,8,9,10,11,12,13,14],[0])] [15,16] Z (fun ax N=>jR ?_)
   refine fK N 13 ?_
   refine ji (pvs:=[(0,(Zo (fJ k.K ((fJ k.mg i).a)))),(1,(Zo (fJ k.K ((fJ k.mg i).b))))]) (v:=.agg (vN (fJ k.K ((fJ k.mg i).a)) (fJ k.K ((fJ k.mg i).b)))) rfl rfl (uG [(0,(Zt (fJ k.K ((fJ k.mg i).a)))),(1,(Zt (fJ k.K ((fJ k.mg i).b))))] ue y8 jx rfl ⟨rfl,rfl,rfl,rfl,trivial⟩ rfl s_) (kj (vs:=[(HW (fJ k.K ((fJ k.mg i).a)) (fJ k.K ((fJ k.mg i).b)))]) (cs:=[(Zo (fJ k.K ((fJ k.mg i).a))),(Zo (fJ k.K ((fJ k.mg i).b)))]) rfl rfl uf ue rfl (by simp[Value.cells]) rfl rfl rfl N ?_)
   intro E aa ay az z
   have z:St _ [row (Z6 E) 46 2 1 ([(Zo (fJ k.K ((fJ k.mg i).a))),(Zo (fJ k.K ((fJ k.mg i).b)))]),blk y 96 (B7 ((fJ k.mg i).a:Int) ((fJ k.mg i).b:Int) ((fJ k.mg i).h) ((fJ k.mg i).s:Int)),blk b2 39 [F],blk b3 40 [hv],fM jT.cells F 46 2 (k.mI i),fM gh hv 2 1 (k.mH i),fM Mg.cells d 96 5 k.mg,blk e 71 (rL k k.K.length),fM iw k.iv 27 1 k.K,fM gh k.lv 3 1 ((fV k.es k.K.length k.f).l),fM gh k.rv 3 1 ((fV k.es k.K.length k.f).r),fM gh k.pv 3 1 ((fV k.es k.K.length k.f).p),fM gh k.hv 2 1 ((fV k.es k.K.length k.f).h),fM fW k.sv 3 1 ((fV k.es k.K.length k.f).s),(sO k k.K.length),(qj k k.K.length)] aa:=z
   refine fQ z 1 ?_
   refine kJ (kU ?_)
   refine mW (cf:=jT.cells) (ys:=(k.mI i)) (zs:=[(⟨(fJ k.K ((fJ k.mg i).a)),(fJ k.K ((fJ k.mg i).b))⟩:jT)]) (LL:=fun o=>(ME (row (.slice (some ⟨E,0,none⟩) 1 1) 46 2 1 ([(.int .u64 (fJ k.K ((fJ k.mg i).a))),(.int .u64 (fJ k.K ((fJ k.mg i).b)))])) y ((fJ k.mg i).a:Int) ((fJ k.mg i).b:Int) ((fJ k.mg i).h) ((fJ k.mg i).s:Int) b2 F b3 hv o ((k.mI i)++[(⟨(fJ k.K ((fJ k.mg i).a)),(fJ k.K ((fJ k.mg i).b))⟩:jT)]) (k.mH i) d k.mg e k.iv k.K.length k.lv k.rv k.pv k.hv k.sv k.cb k.mb k.K (fV k.es k.K.length k.f) k.es k.c k.q)) 4 rfl rfl rfl uf ue rfl d_ z rfl (l7 z (i:=0) rfl) (fun x hx=>zt.1 (show List.all _ _=true from rfl) x hx) (by simp only[zh,zn,maxLen];omega) (by simp only[zh,zn,maxLen];omega) f_ ?_
   intro o ab G aA
   have G:St _ (ME (row (.slice (some ⟨E,0,none⟩) 1 1) 46 2 1 ([(.int .u64 (fJ k.K ((fJ k.mg i).a))),(.int .u64 (fJ k.K ((fJ k.mg i).b)))])) y ((fJ k.mg i).a:Int) ((fJ k.mg i).b:Int) ((fJ k.mg i).h) ((fJ k.mg i).s:Int) b2 F b3 hv o ((k.mI i)++[(⟨(fJ k.K ((fJ k.mg i).a)),(fJ k.K ((fJ k.mg i).b))⟩:jT)]) (k.mH i) d k.mg e k.iv k.K.length k.lv k.rv k.pv k.hv k.sv k.cb k.mb k.K (fV k.es k.K.length k.f) k.es k.c k.q) ab:=G
   have H:=yg [1,2,3,4,5,6,7,8,9,10,11,12,13,14,15] G
   refine j8 1 H (fun aB O=>?_) (hvs:=(cells_one (yu H (i:=3) rfl))) (h1:=(ic (yu H (i:=3) rfl) lB))
   refine fK O 7 ?_
   refine kj (vs:=(Ze ((fJ k.mg i).h))) (cs:=(Ze ((fJ k.mg i).h))) rfl rfl y0 ti2 rfl (by simp[Value.cells]) rfl rfl rfl O ?_
   intro I ac aC aD C
   have C:St _ [ir .i64 (Z6 I) 2 ([(fJ k.mg i).h]),blk y 96 (B7 ((fJ k.mg i).a:Int) ((fJ k.mg i).b:Int) ((fJ k.mg i).h) ((fJ k.mg i).s:Int)),blk b2 39 [o],blk b3 40 [hv],fM jT.cells o 46 2 ((k.mI i)++[(⟨(fJ k.K ((fJ k.mg i).a)),(fJ k.K ((fJ k.mg i).b))⟩:jT)]),fM gh hv 2 1 (k.mH i),fM Mg.cells d 96 5 k.mg,blk e 71 (rL k k.K.length),fM iw k.iv 27 1 k.K,fM gh k.lv 3 1 ((fV k.es k.K.length k.f).l),fM gh k.rv 3 1 ((fV k.es k.K.length k.f).r),fM gh k.pv 3 1 ((fV k.es k.K.length k.f).p),fM gh k.hv 2 1 ((fV k.es k.K.length k.f).h),fM fW k.sv 3 1 ((fV k.es k.K.length k.f).s),(sO k k.K.length),(qj k k.K.length)] ac:=C
   refine mW (cf:=gh) (ys:=(k.mH i)) (zs:=[(fJ k.mg i).h]) (LL:=fun u=>(MX I ([(fJ k.mg i).h]) y ((fJ k.mg i).a:Int) ((fJ k.mg i).b:Int) ((fJ k.mg i).h) ((fJ k.mg i).s:Int) b2 o b3 hv ((k.mI i)++[(⟨(fJ k.K ((fJ k.mg i).a)),(fJ k.K ((fJ k.mg i).b))⟩:jT)]) u ((k.mH i)++[(fJ k.mg i).h]) d k.mg e k.iv k.K.length k.lv k.rv k.pv k.hv k.sv k.cb k.mb k.K (fV k.es k.K.length k.f) k.es k.c k.q)) 5 rfl rfl rfl y0 ti2 rfl d_ C rfl (l7 C (i:=0) rfl) (fun x hx=>zt.1 (show List.all _ _=true from rfl) x hx) (by simp only[zh,zn,maxLen];omega) (by simp only[zh,zn,maxLen];omega) f_ ?_
   intro u ad J aE
   have J:St _ (MX I ([(fJ k.mg i).h]) y ((fJ k.mg i).a:Int) ((fJ k.mg i).b:Int) ((fJ k.mg i).h) ((fJ k.mg i).s:Int) b2 o b3 hv ((k.mI i)++[(⟨(fJ k.K ((fJ k.mg i).a)),(fJ k.K ((fJ k.mg i).b))⟩:jT)]) u ((k.mH i)++[(fJ k.mg i).h]) d k.mg e k.iv k.K.length k.lv k.rv k.pv k.hv k.sv k.cb k.mb k.K (fV k.es k.K.length k.f) k.es k.c k.q) ad:=J
   have L:=yg [1,2,3,4,5,6,7,8,9,10,11,12,13,14,15] J
   refine j8 2 L (fun P Q=>?_) (hvs:=(cells_one (yu L (i:=4) rfl))) (h1:=(ic (yu L (i:=4) rfl) lB))
   refine fQ Q 7 ?_
   refine tN (?_)
   have ae:=yg [1,2,3,4,5,6,7,8,9,10,11,12,13,14] Q
   have af:St _ (BX b2 o b3 u (k.mI (i+1)) ((k.mH i)++[(fJ k.mg i).h]) d k.mg e k.iv k.K.length k.lv k.rv k.pv k.hv k.sv k.cb k.mb k.K (fV k.es k.K.length k.f) k.es k.c k.q) P:=yx 2 ae rfl (congrArg (fM jT.cells o 46 2) ((Vk.abc o_).symm))
   have ag:St _ (BX b2 o b3 u (k.mI (i+1)) (k.mH (i+1)) d k.mg e k.iv k.K.length k.lv k.rv k.pv k.hv k.sv k.cb k.mb k.K (fV k.es k.K.length k.f) k.es k.c k.q) P:=yx 3 af rfl (congrArg (fM gh u 2 1) ((Vk.aa8 o_).symm))
   exact again ((i+1),o,u) ⟨rfl,rfl,rfl,rfl,rfl,gr (by first|rfl|omega),trivial⟩ (⟨ag,o_⟩) (by show (k.mg.length-(i+1):Nat)<k.mg.length-i;omega)
 . refine fQ aF 9 ?_
   refine iZ Tryz.results28 ?_
   have aH:i=k.mg.length:=by omega
   have ah:St _ (BX b2 F b3 hv (k.mI k.mg.length) (k.mH i) d k.mg e k.iv k.K.length k.lv k.rv k.pv k.hv k.sv k.cb k.mb k.K (fV k.es k.K.length k.f) k.es k.c k.q) B:=yx 2 aF rfl (congrArg (fM jT.cells F 46 2) (congrArg k.mI aH))
   have ai:St _ (BX b2 F b3 hv (k.mI k.mg.length) (k.mH k.mg.length) d k.mg e k.iv k.K.length k.lv k.rv k.pv k.hv k.sv k.cb k.mb k.K (fV k.es k.K.length k.f) k.es k.c k.q) B:=yx 3 ah rfl (congrArg (fM gh hv 2 1) (congrArg k.mH aH))
   have aj:St _ [(gq [blk b2 39 [F],blk b3 40 [hv],fM jT.cells F 46 2 (k.mI k.mg.length),fM gh hv 2 1 (k.mH k.mg.length)]),fM Mg.cells d 96 5 k.mg,blk e 71 (rL k k.K.length),fM iw k.iv 27 1 k.K,fM gh k.lv 3 1 ((fV k.es k.K.length k.f).l),fM gh k.rv 3 1 ((fV k.es k.K.length k.f).r),fM gh k.pv 3 1 ((fV k.es k.K.length k.f).p),fM gh k.hv 2 1 ((fV k.es k.K.length k.f).h),fM fW k.sv 3 1 ((fV k.es k.K.length k.f).s),(sO k k.K.length),(qj k k.K.length)] B:=yc [_,_,_,_] _ ai
   have ak:=yg [3,4,5,6,7,8,9,10,0,1,2] aj
   have al:St _ [(Vk.R k),(gq [blk b2 39 [F],blk b3 40 [hv],fM jT.cells F 46 2 (k.mI k.mg.length),fM gh hv 2 1 (k.mH k.mg.length)]),fM Mg.cells d 96 5 k.mg,blk e 71 (rL k k.K.length)] B:=yp (p:=Vk.ok k) (yc [_,_,_,_,_,_,_,_] _ ak) T
   exact⟨rfl,(F,hv,k.mI k.mg.length,k.mH k.mg.length),⟨rfl,rfl⟩,yj (R' := (Nb k b2 F b3 hv (k.mI k.mg.length) (k.mH k.mg.length))) (yc [_,_] _ al) ze⟩
theorem af2(c:WC)(F Q:Nat)(s:WW)(k:Vk)(T:Vk.of s k)(b:Int)(w:World)(R:Own (DX F Q (IntKind.u64.wrap (s.added+s.jB)) k k.K.length b c s) w) :
 CR ya 10 (Zh F) w (fun r w' => ∃ (S hv:Value),r = .tuple #[S,hv]/\fZ (DX F Q (IntKind.u64.wrap (s.added+s.jB)) k k.K.length b c s) w w' (Nf F Q (IntKind.u64.wrap (s.added+s.jB)) k k.K.length b c s S (k.mI k.mg.length) hv (k.mH k.mg.length))):=by
 refine en Tryz.func10 Tryz.ntmps10 ?_
 have U:=(yr R).unpack
 refine fR U 2 ?_
 refine iR U (fun a G H I p=>?_)
 refine iR p (fun d q J L j=>?_)
 refine fK j 6 ?_
 refine cl AF (Bm F Q _ q (ye j 2 rfl)) ?_
 rintro _ t ⟨rfl,V⟩
 have l:=yk 2 j V
 refine fK l 9 ?_
 refine oc (vf:=[]) (vc:=(qI a d)) rfl rfl rfl ?_
 have u:=yg [1,0,2,3,4] l
 have y:=yc [_,_] _ u
 have z:=yg [1,2,3,0] y
 have m:=yc [_,_,_,_] _ z
 refine cl ER (T9 c F Q s t (DZ a d) (fun x:Value×Value×List jT×List Int=>gq [blk a 39 [x.1],blk d 40 [x.2.1],fM jT.cells x.1 46 2 x.2.2.1,fM gh x.2.1 2 1 x.2.2.2]) (fun k x=>x.2.2.1=k.mI k.mg.length/\x.2.2.2=k.mH k.mg.length) 28 (qI a d) OX (fun k w1 T R=>QI a d k w1 R) k T b (ye m 0 rfl)) ?_
 rintro _ M ⟨e,rfl,A,B⟩
 have C:=(ym m B)
 have D:=yg [3,0,1,2] C
 have n:=yz D
 refine gH n 3 ?_
 refine kO mixed [([0,1,2],[1])] [3] n (fun N f=>jR ?_)
 refine fK f 2 ?_
 refine j8 0 f (fun O g=>?_) (hvs:=(cells_one (yu f (i:=2) rfl))) (h1:=(ic (yu f (i:=2) rfl) lB))
 refine fQ g 1 ?_
 refine kJ (kU ?_)
 refine j8 1 g (fun P h=>?_) (hvs:=(cells_one (yu g (i:=3) rfl))) (h1:=(ic (yu g (i:=3) rfl) lB))
 refine fQ h 3 ?_
 refine og (v:=e.1) (v' := e.2.1) Tryz.results10 (wW rfl uf rfl (k8 h 0 rfl rfl)) (wW rfl y0 rfl (k8 h 1 rfl rfl)) ?_
 have E:=yg [4,5,6,2,3] h
 obtain⟨W,X⟩:=A
 have o:=E
 rw[W,X]at o
 exact⟨e.1,e.2.1,rfl,yo (yc [_,_,_,_,_] _ o)⟩
end
section
open Go Go.Sx
theorem LD(c:WC)(a:Nat)(s:WW)(w:World)(h:Own (WW.R c a s) w)(x:Lv)(j:x.ok)(k:s.now<=x.t)(l:x.t<=1000000)(i:s.added<1000000)(d:s.u.gN c.fN c.fL x.u x.v=0) :
 CR ya 16 (xK a x) w (fun r w' => ∃ (s2:WW),r = .int .i64 0/\WW.Ins c s s2 x/\fZ (WW.R c a s) w w' (WW.R c a s2)) :=
 CR.mono (T4 c a s w h x j k l i) fun r w' ⟨e,s2,f,b,g⟩=>⟨s2,by rw[f,b.room d],b.ins (b.room d),g⟩
theorem JP{u v w t:Int}(h:0<=u/\u<=100/\0<=v/\v<=100/\0<=w/\w<=100/\0<=t/\t<=100):Lv.ok ⟨0,0,u,v,w,t,0⟩ :=
 ⟨kH (by show _/\_;dsimp only;omega),oZ (by show _/\_;dsimp only;omega),oZ (by show _/\_;dsimp only;omega),oZ (by show _/\_;dsimp only;omega),kH (by show _/\_;dsimp only;omega),kH (by show _/\_;dsimp only;omega),kH (by show _/\_;dsimp only;omega)⟩
def Hq(s:WW):Prop:=∀ K L es,s.u.pK K->s.u.mB L->oQ K L es L.length->K=[1,2,3]/\L.length=3/\es=me
structure Vk.wk (s:WW) (k:Vk):Prop where
 of:Vk.of s k
 K:k.K=[1,2,3]
 es:k.es=me
theorem Vk.of.wk{s:WW}{k:Vk}(h:Vk.of s k)(d:Hq s):Vk.wk s k:=by
 obtain⟨L,b,c⟩:=h.RJ
 obtain⟨e1,e,a⟩:=d _ _ _ h.ids b c
 exact⟨h,e1,a⟩
instance:DecidableEq jT:=fun a b=>by
 cases a with|mk a1 a2=>cases b with|mk b1 b2=>exact decidable_of_iff (a1=b1/\a2=b2) s_
abbrev wI:List jT:=[⟨1,2⟩,⟨1,3⟩]
abbrev wH:List Int:=[5,7]
theorem Vk.wk.VL{s:WW}{k:Vk}(h:Vk.wk s k)(a:gP k.es k.K.length k.c.f):fJ k.K (k.gQ 7 (gK k.K 3))=1/\k.tZ 7 (gK k.K 3)=3:=by
 obtain⟨_,e,g⟩:=h
 unfold Vk.gQ Vk.tZ Vk.top
 revert a
 rw[e,g]
 intro a
 obtain⟨b,d⟩:=Uj a
 obtain⟨b,d⟩:=Uj (f:=k.c.f) a
 rw[show gK [1,2,3] 3=2 by decide]
 refine⟨?_,d⟩
 show fJ [1,2,3] (Go.Sx.gQ me 3 k.c.f (jc (fV me 3 k.c.f).p (fV me 3 k.c.f).h 7 2))=1
 rw[b]
 rfl
theorem Vk.wk.mmx{s:WW}{k:Vk}(h:Vk.wk s k)(e:gP k.es k.K.length k.q.f){x:Int×Bool}(c:k.mm (gK k.K 1) (gK k.K 3) x):x=(7,true):=by
 obtain⟨_,m,n⟩:=h
 unfold Vk.mm at c
 revert e c
 rw[m,n]
 intro e c
 obtain⟨z,g,j,o⟩:=c.2 d_
 rw[show gK [1,2,3] 1=0 by decide,show gK [1,2,3] 3=2 by decide]at g
 obtain⟨d,l⟩:=agx e g
 have i:=(j d).trans l
 obtain⟨a,b⟩:=x
 simp only at d i
 rw[d,i]
theorem Vk.wk.mg{s:WW}{k:Vk}(h:Vk.wk s k)(a:gP k.es k.K.length k.f):k.mI k.mg.length=wI/\k.mH k.mg.length=wH:=by
 obtain⟨_,c,d⟩:=h
 unfold Vk.mI Vk.mH Vk.mg
 revert a
 rw[c,d]
 intro a
 obtain⟨b,e⟩:=agw a
 rw[b]
 exact⟨d_,d_⟩
theorem Vk.parts{k:Vk}{w:World}(h:Own (Vk.R k) w):k.ok/\gP k.es k.K.length k.c.f/\gP k.es k.K.length k.q.f:=by
 have a:=Own.of h.un
 exact⟨h.fact,(yy a (i:=6) rfl),(yy a (i:=7) rfl)⟩
theorem af9(c:WC)(a b:Nat)(s:WW)(w:World)(m:Own (Al a b c s) w)(o:c.fN<=12)(l:Hq s)(n:s.u.t.cnt 3=0):CR ya 9 #[(Zb a),.int .u64 3,.int .i64 7] w (fun r w' => ∃ (k:Vk),r = .tuple #[.agg #[.int .u64 1,.int .i64 3],.int .i64 0]/\Vk.wk s k/\fZ (Al a b c s) w w' (Nc a b (IntKind.u64.wrap (s.added+s.jB)) k k.K.length c s)) :=
 CR.mono (af0 c a b s w m o 3 7 n) fun r w' ⟨k,x,h,⟨j,d⟩,e⟩=>by
  have f:=j.wk l
  obtain⟨e1,g⟩:=f.VL (Vk.parts (kV (Own.of e.own) (i:=1) rfl)).2.1
  rw[e1,g]at d
  subst d
  exact⟨k,h,f,e⟩
theorem agm{o:Obj}(c:WC)(a d:Nat)(s:WW)(k:Vk)(l:Vk.of s k)(b:Int)(w:World)(f:Own (rK a d (IntKind.u64.wrap (s.added+s.jB)) k k.K.length b c s (jw o)) w)(hk:Vk.wk s k)(m:s.u.t.cnt 1=0)(n:s.u.t.cnt 3=0):CR ya 6 #[(Zb a),.int .u64 1,.int .u64 3] w (fun r w' => r = .tuple #[.int .i64 7,.bool true,.int .i64 0]/\fZ (rK a d (IntKind.u64.wrap (s.added+s.jB)) k k.K.length b c s (jw o)) w w' (rK a d (IntKind.u64.wrap (s.added+s.jB)) k k.K.length b c s (jw o))) :=
 CR.mono (TY c a d s k l b w f 1 3 m n) fun r w' ⟨x,g,h,j⟩=>by
  have e:=hk.mmx (Vk.parts (kV (Own.of f) (i:=1) rfl)).2.2 h
  subst e
  exact⟨g,j⟩
theorem agl(c:WC)(a f:Nat)(s:WW)(k:Vk)(l:Vk.of s k)(b:Int)(w:World)(h:Own (DX a f (IntKind.u64.wrap (s.added+s.jB)) k k.K.length b c s) w)(hk:Vk.wk s k):CR ya 10 (Zh a) w (fun r w' => ∃ (d hv:Value),r = .tuple #[d,hv]/\fZ (DX a f (IntKind.u64.wrap (s.added+s.jB)) k k.K.length b c s) w w' (Nf a f (IntKind.u64.wrap (s.added+s.jB)) k k.K.length b c s d wI hv wH)) :=
 CR.mono (af2 c a f s k l b w h) fun r w' ⟨d,hv,j,g⟩=>by
  have e:=hk.mg (Vk.parts (kV (Own.of h) (i:=1) rfl)).1.fg
  rw[e.1,e.2]at g
  exact⟨d,hv,j,g⟩
theorem afX(d e:Nat)(k:Vk)(b g:Int)(w:World)(h:Own (Hx d e g k k.K.length b) w) :
 CR ya 25 (Zh d) w (fun r w' => r = .int .i64 b/\fZ (Hx d e g k k.K.length b) w w' (Hx d e g k k.K.length b)):=by
 refine en Tryz.func25 Tryz.ntmps25 ?_
 have f:=yr h
 refine fR f 9 ?_
 refine cl AF (Bm d e _ w (ye f 0 rfl)) ?_
 rintro _ c ⟨rfl,i⟩
 have a:=yk 0 f i
 refine fQ a 16 ?_
 refine gp (v:=(Za b)) Tryz.results25 rfl ?_
 exact⟨rfl,yo a⟩
end
section
open Go Go.Sx
theorem fU.N5{fN fL:Nat}{s:fU}(h:s.ok fN fL){x:Lv}(b:s.has x){id:Int}(a:x.u=id\/x.v=id):s.t.cnt id=0:=by
 obtain⟨i,hi,rfl⟩:=b
 exact TW.v7 ((h.mem id).2 ⟨i,hi,a⟩)
theorem fU.V3{fN fL:Nat}{s:fU}(h:s.ok fN fL){id:Int}(c:∀ x,s.has x->x.u≠id/\x.v≠id):s.t.cnt id≠0:=by
 rw[TW.tH fun hm=>?_]
 . decide
 . obtain⟨i,hi,b⟩:=(h.mem id).1 hm
   have a:=c _ ⟨i,hi,rfl⟩
   exact b.elim a.1 a.2
theorem Y5:ya.eqGuardType ya.depth 46=false:=by kernel_rfl
theorem Yv(a b:Int)(w:World):(Op.equal 46 (HW a b) (HW a b)).run ya w = .ok true w:=by
 rw[aed y8 yi jx]
 simp
theorem ago{o:Obj}(w:World)(hO:Own (jw o) w) :
 CR ya 8 #[] w (fun r w' => r = .bool true/\fZ (jw o) w w' (jw o)):=by
 refine en Tryz.func8 Tryz.ntmps8 ?_
 have aL:=yr hO
 have aY:wI.length=2:=rfl
 have aX:wH.length=2:=rfl
 refine fR aL 7 ?_
 refine ji (pvs:=[(0,xN),(1,rN),(2,rN),(3,rN)]) (v:=.agg #[xN,rN,rN,rN]) rfl rfl (jA [(0,[xN]),(1,[rN]),(2,[rN]),(3,[rN])] Dr RT rfl ⟨rfl,rfl,rfl,rfl,rfl,rfl,rfl,rfl,trivial⟩ rfl) (cl Om (Uf cW w d_ d_ d_ d_ d_ d_ d_) ?_)
 rintro _ P ⟨d,B,rfl,p,T⟩
 have g:=(ki aL T)
 have aG:=r8 (ye g 0 rfl)
 have aK:=p.2.2
 have aD:=p.1
 have aC:=p.2.1
 have aR:B.u.last=0:=by have h7:=aG.1.la;have h8:=aG.2.1.sV;omega
 refine fK g 14 ?_
 refine uL (a:=some ⟨d,0,none⟩) (c:=false) rfl rfl rfl Dz rfl (fK g 9 ?_)
 refine ji (pvs:=[(0,vQ),(1,Ae),(2,(.int .i64 5))]) (v:=.agg #[vQ,Ae,(.int .i64 5),Zc]) rfl rfl (jA [(0,[vQ]),(1,[Ae]),(2,[(.int .i64 5)])] vg FN rfl ⟨rfl,rfl,rfl,rfl,rfl,rfl,trivial⟩ rfl) ?_
 have aS:=fU.Ip aG.2.1 aG.2.2 (u:=1) (v:=2) d_ (L:=[]) (K:=[1,2]) d_ (fun x F=>absurd F (aK x)) (fun x F=>absurd F (aK x)) d_ d_ d_
 refine cl EN (LD cW d B P (ye g 0 rfl) ⟨0,0,1,2,5,0,0⟩ (JP d_) (by rw[aD];decide) d_ (by rw[aC];decide) aS) ?_
 rintro _ Q ⟨C,rfl,q,T⟩
 have j:=yk 0 g T
 have aN:=r8 (ye j 0 rfl)
 obtain⟨⟨i1,aI⟩,aP⟩:=agr aK aR q
 have aD:=q.now
 have aC:C.added=1:=q.added.trans (by rw[aC];rfl)
 refine fK j 6 ?_
 refine ji (pvs:=[(0,Ae),(1,vR),(2,(.int .i64 7)),(3,rN)]) (v:=.agg #[Ae,vR,(.int .i64 7),rN]) rfl rfl (jA [(0,[Ae]),(1,[vR]),(2,[(.int .i64 7)]),(3,[rN])] vg FN rfl ⟨rfl,rfl,rfl,rfl,rfl,rfl,rfl,rfl,trivial⟩ rfl) ?_
 have aT:=fU.Ip aN.2.1 aN.2.2 (u:=2) (v:=3) d_ (L:=[wE i1 1 1 2 5 0]) (K:=[1,2,3]) (by show (1:Nat)<4;decide) (fun x F=>by rw[(aI x).1 F];simp) (fun x F=>by rw[(aI x).1 F];simp) d_ d_ d_
 refine cl EN (LD cW d C Q (ye j 0 rfl) ⟨0,0,2,3,7,4,0⟩ (JP d_) (by rw[aD];decide) d_ (by rw[aC];decide) aT) ?_
 rintro _ R ⟨D,rfl,s,T⟩
 have l:=yk 0 j T
 have aO:=r8 (ye l 0 rfl)
 obtain⟨⟨i2,aJ⟩,aQ⟩:=ags aI aP s
 have aD:=s.now
 have aC:D.added=2:=s.added.trans (by rw[aC];rfl)
 refine fK l 6 ?_
 refine ji (pvs:=[(0,vQ),(1,vR),(2,Ac),(3,BQ)]) (v:=.agg #[vQ,vR,Ac,BQ]) rfl rfl (jA [(0,[vQ]),(1,[vR]),(2,[Ac]),(3,[BQ])] vg FN rfl ⟨rfl,rfl,rfl,rfl,rfl,rfl,rfl,rfl,trivial⟩ rfl) ?_
 have aU:=fU.Ip aO.2.1 aO.2.2 (u:=1) (v:=3) d_ (L:=[wE i1 1 1 2 5 0,wE i2 2 2 3 7 4]) (K:=[1,2,3]) (by show (2:Nat)<4;decide) (fun x F=>by rcases(aJ x).1 F with h|h<;>rw[h]<;>simp) (fun x F=>by rcases(aJ x).1 F with h|h<;>rw[h]<;>simp) d_ d_ d_
 refine cl EN (LD cW d D R (ye l 0 rfl) ⟨0,0,1,3,9,6,0⟩ (JP d_) (by rw[aD];decide) d_ (by rw[aC];decide) aU) ?_
 rintro _ S ⟨e,rfl,y,T⟩
 have n:=yk 0 l T
 have aH:=r8 (ye n 0 rfl)
 obtain⟨i3,aE⟩:=agt aJ aQ y
 have aD:=y.now
 have aC:e.added=3:=y.added.trans (by rw[aC];rfl)
 have hG:Hq e:=fun K L es h1 h2 h3=>agv aH.2.1 aE h1 h2 h3
 have aV:=fU.N5 aH.2.1 ((aE _).2 (.inl (.inl rfl))) (.inl rfl)
 have aM:=fU.N5 aH.2.1 ((aE _).2 (.inr rfl)) (.inr rfl)
 have aW:e.u.t.cnt 4≠0:=fU.V3 aH.2.1 fun x F=>by rcases(aE x).1 F with (h|h)|h<;>rw[h]<;>simp
 refine fK n 6 ?_
 refine cl Oo (T1 cW d e S (ye n 0 rfl)) ?_
 rintro _ U ⟨f,rfl,T⟩
 have z:=yz (yk 0 n T)
 refine fK z 26 ?_
 refine uL (a:=some ⟨f,0,none⟩) (c:=false) rfl rfl rfl Tryz.underlying24 rfl ?_
 have V:=yg [1,0,2] z
 have E:=yc [_,_] _ V
 refine fK z 9 ?_
 refine cl Pb (af9 cW f d e U (ye E 0 rfl) d_ hG aM) ?_
 rintro _ an ⟨A,rfl,W,X⟩
 have G:=(ym E X)
 have aF:=W
 refine fK G 3 ?_
 refine iR G (fun ao ap aq ar Y=>?_)
 refine gO Y 7 fun Z aa=>?_
 have ab:=yg [1,2,3,4,0] aa
 have H:=yc [_,_,_,_] _ ab
 refine cl IS (agm cW f d e A aF.of 1 Z (ye H 0 rfl) aF aV aM) ?_
 rintro _ ac ⟨rfl,ad⟩
 have I:=(ym H ad)
 have ae:=yg [0,2,1,3,4] I
 have J:=yc [_,_] _ ae
 refine fK I 12 ?_
 refine cl Pb (afZ cW f d e _ ac (ye J 0 rfl) 4 7 aW) ?_
 rintro _ au ⟨rfl,af⟩
 have M:=(ym J af)
 refine fK M 3 ?_
 refine iR M (fun av aw ax ay ag=>?_)
 refine gO ag 7 fun ah ai=>?_
 have aj:=yg [1,3,2,0,4,5] ai
 have N:=yc [_,_,_] _ aj
 refine cl Oe (agl cW f d e A aF.of 1 ah (ye N 0 rfl) aF) ?_
 rintro _ ak ⟨az,aA,rfl,al⟩
 have b:=(ym N al)
 refine fK b 38 ?_
 refine jm (m:=wI.length) 3 rfl rfl uf b rfl (fK b 4 ?_)
 refine iP (cf:=jT.cells) (k:=1) (i:=1) rfl rfl rfl uf ue (iO b 3 rfl) o_ o_ (gz om) (fK b 1 ?_)
 refine ji (pvs:=[(0,vQ),(1,vR)]) (v:=.agg HD) rfl rfl (uG [(0,[vQ]),(1,[vR])] ue y8 jx rfl ⟨rfl,rfl,rfl,rfl,trivial⟩ rfl s_) (Yq (c:=true) (xs:=HD) (ys:=HD) rfl rfl rfl Y5 (fun w=>Yv _ _ w) (fK b 3 ?_))
 refine jm (m:=wH.length) 4 rfl rfl y0 b rfl (fK b 4 ?_)
 refine iP (cf:=gh) (k:=1) (i:=1) rfl rfl rfl y0 ti2 (iO b 4 rfl) o_ o_ (gz om) (fK b 5 ?_)
 refine cl XI (afX f d A 1 _ ak (ye b 0 rfl)) ?_
 rintro _ aB ⟨rfl,T⟩
 have O:=yk 0 b T
 refine fQ O 6 ?_
 refine gp (v:=Zf) Tryz.results8 rfl ?_
 have am:=yg [6,0,1,2,3,4,5,7] O
 exact⟨rfl,yo am⟩
end
end Go.Proofs.YthpnckhjmbbalaaGreatDoor
