/- What the functions that the statements reach do: walks through the code of the program and of the references, one theorem a function; under what is said of its arguments. -/
import Derived.Test.YthpnckhjmbbalaaGreatDoorFb
import Derived.Test.YthpnckhjmbbalaaGreatDoorVa
import Derived.Test.YthpnckhjmbbalaaGreatDoorFd
import Derived.Test.YthpnckhjmbbalaaGreatDoorVf
import Derived.Shelf.Spec.TrailingZeros
import Derived.Shelf.Lays7
import Derived.Test.YthpnckhjmbbalaaGreatDoorFa
import Derived.Test.YthpnckhjmbbalaaGreatDoorFc
import Derived.Test.YthpnckhjmbbalaaGreatDoorVd
import Derived.Test.YthpnckhjmbbalaaGreatDoorVe
set_option linter.unusedVariables false
set_option linter.unusedSimpArgs false
set_option maxRecDepth 100000
set_option maxHeartbeats 4000000
namespace Go.Proofs.YthpnckhjmbbalaaGreatDoor
section
open Go Go.Sx
structure Cv where
 tb:Nat
 t:Lt
 f:List Nat
 lv:Value
 rv:Value
 pv:Value
 hv:Value
 sv:Value
 ev:Value
def Cv.R(cb n:Nat)(es:List Ge)(c:Cv):fS:=kC (gQ es n c.f) (gq [blk cb 135 [(Zb c.tb),(Za n),c.lv,c.rv,c.pv,c.hv,c.sv,c.ev],(Lt.R c.tb (fU es n c.f).p c.t),fM gh c.lv 3 1 ((fU es n c.f).l),fM gh c.rv 3 1 ((fU es n c.f).r),fM gh c.pv 3 1 ((fU es n c.f).p),fM gh c.hv 2 1 ((fU es n c.f).h),fM fW c.sv 3 1 ((fU es n c.f).s),fM fW c.ev 3 1 ((List.range (n+(c.f).length)).map (gM es n (c.f)))])
theorem VK(v:Value)(n:Nat)(es:List Ge)(w:World)(hv:ir 3 Ge.cells (fun _=>True) w v es)(Q:p7 n es)(S:n<=4096)(hm:es.length<=16384) :
 CR ya 86 #[(Za n),v] w (fun r w' => ∃ (cb:Nat) (c:Cv),r = .tuple (Z2 cb)/\fZ (gq []) w w' (Cv.R cb n es c)):=by
 refine en Tryz.func86 Tryz.ntmps86 ?_
 have T:=yt w
 refine fR T 10 ?_
 refine cl I2 (Kv v n es w hv Q S hm) ?_
 rintro _ D ⟨b,h,j,d,P,k,rfl,y,O⟩
 have s:=y0 (kf T O)
 have F:gQ es n b:=⟨Q,y⟩
 have W:=F.f.room F.g
 obtain⟨X,Y,Z,aa,ab⟩:=kX (es:=es) (n:=n) (f:=b)
 have V:=F.mj
 have U:=F.Kn
 refine fK s 3 ?_
 refine iO s (fun E G H I e=>?_)
 refine j8 0 e (fun z o=>?_) (h1:=(iw rfl (iw (yu e (i:=1) rfl) (iw (yu e (i:=2) rfl) (iw (yu e (i:=3) rfl) (iw (yu e (i:=4) rfl) (iw (yu e (i:=5) rfl) lS)))))))
 refine fK o 17 ?_
 refine cl Ou (Qf d (fU es n b).p z (iW o 3 rfl).any V U o_) ?_
 rintro _ J ⟨l,A,rfl,O⟩
 have t:=(kf o O)
 refine gJ t 18 ?_
 refine kW mixed [([0,1,2,3],[1])] [4,5,6,7] t (fun B a=>j3 ?_)
 refine fK a 3 ?_
 refine cl O5 (Sy es n b F S h j d P k B ⟨(iW a 2 rfl).any,(iW a 3 rfl).any,(iW a 4 rfl).any,(iW a 5 rfl).any,(iW a 6 rfl).any⟩) ?_
 rintro _ K ⟨m,rfl,O⟩
 have q:=(kf a O)
 refine fQ q 1 ?_
 refine kR (lE ?_)
 refine jh (pvs:=[(0,(Zb l)),(1,(uy n h j d P k)),(2,m)]) (v:=.agg #[(Zb l),(Za n),h,j,d,P,k,m]) rfl rfl (jx [(0,(Zi l)),(1,(Zx n h j d P k)),(2,[m])] Tn acI rfl ⟨rfl,rfl,rfl,rfl,rfl,(cells_one (yu q (i:=0) rfl)),trivial⟩ rfl) (iz q (fun u L M N x=>?_))
 refine fQ x 5 ?_
 refine iF (v:=(Zb u)) (v' := Zc) Tryz.results86 rfl rfl ?_
 have C:=yg [0,2,4,5,6,7,8,1] x
 exact⟨u,(⟨l,A,b,h,j,d,P,k,m⟩:Cv),rfl,vj (yp (p:=gQ es n b) (yc [_,_,_,_,_,_,_,_] _ C) F) s_⟩
end
section
open Go Go.Sx
structure tj (w:World) (cb n:Nat) (es:List Ge) (c:Cv):Prop where
 fg:gQ es n c.f
 b:(blk cb 135 [(Zb c.tb),(Za n),c.lv,c.rv,c.pv,c.hv,c.sv,c.ev]).holds w
 t:nu w c.tb (fU es n c.f).p c.t
 r:mR w es n c.f c.lv c.rv c.pv c.hv c.sv
 e:ir 1 fW (fun _=>True) w c.ev ((List.range (n+(c.f).length)).map (gM es n (c.f)))
theorem tj.of{w:World}{cb n:Nat}{es:List Ge}{c:Cv}(a:Own (Cv.R cb n es c) w):tj w cb n es c:=by
 have h:=Own.of a.un
 exact⟨a.fact,St.at h (i:=0) rfl,nu.of (ye h 1 rfl),⟨(iW h 2 rfl).any,(iW h 3 rfl).any,(iW h 4 rfl).any,(iW h 5 rfl).any,(iW h 6 rfl).any⟩,(iW h 7 rfl).any⟩
theorem tj.to{bs:List (World×List Nat)}{L:List fS}{w w0:World}{cb n:Nat}{es:List Ge}{c:Cv}(h:tj w0 cb n es c)(hs:St bs L w)(hb:(w0,[])∈bs):tj w cb n es c :=
 ⟨h.fg,St.xW hs hb h.b,h.t.to hs hb,h.r.to hs hb,yw hs hb d_ h.e⟩
theorem Wg(cb n:Nat)(es:List Ge)(c:Cv)(w:World)(e:tj w cb n es c)(o:n<=4096) :
 CR ya 94 (Zh cb) w (fun r w' => r = .bool true/\gz [] w w'):=by
 obtain⟨i,j,k,l,m⟩:=kX (es:=es) (n:=n) (f:=c.f)
 have h:=e.fg.f.room e.fg.g
 refine en Tryz.func94 Tryz.ntmps94 ?_
 have d:=yt w
 refine fR d 8 ?_
 refine mY (a:=some ⟨cb,0,none⟩) (c:=true) rfl rfl rfl Tryz.underlying68 rfl (fK d 4 ?_)
 refine ld rfl rfl yZ rfl (kB d s_ e.b rfl) (mY (a:=some ⟨c.tb,0,none⟩) (c:=true) rfl rfl rfl yZ rfl (fQ d 5 ?_))
 refine gp (v:=Zf) Tryz.results94 rfl ?_
 exact⟨rfl,d.gC s_⟩
theorem V6(cb n:Nat)(es:List Ge)(c:Cv)(w:World)(o:tj w cb n es c)(s:n<=4096)(x:Nat)(D:x<n)(T:Int) :
 CR ya 53 (Zr cb x T) w (fun r w' => r = .tuple (xB ((jb (fU es n c.f).p (fU es n c.f).h T x:Nat):Int))/\gz [] w w'):=by
 obtain⟨y,z,A,B,C⟩:=kX (es:=es) (n:=n) (f:=c.f)
 have u:=o.fg.f.room o.fg.g
 refine en Tryz.func53 Tryz.ntmps53 ?_
 have q:=yt w
 refine fR q 10 ?_
 refine cl Yd (Wg cb n es c w o s) ?_
 rintro _ l ⟨rfl,i⟩
 have d:=yq q i
 refine fK d 10 ?_
 refine cmp rfl rfl rfl (k8 o_) (fK d 6 ?_)
 refine ld rfl rfl yf rfl (kB d s_ o.b rfl) (cmp rfl rfl rfl (pN o_) (gO d 11 fun j a=>?_))
 refine ld rfl rfl yZ rfl (kB a s_ o.b rfl) (fK a 5 ?_)
 refine ld rfl rfl y9 rfl (kB a s_ o.b rfl) (fK a 1 ?_)
 refine cl Ye (VD c.tb (fU es n c.f).p c.t j (o.to a s_).t o.fg.mj o_ c.hv (fU es n c.f).h (o.to a s_).r.h o_ T x o_) ?_
 rintro _ m ⟨rfl,k⟩
 have e:=yq a k
 refine fQ e 7 ?_
 refine iF (v:=(Za ((jb (fU es n c.f).p (fU es n c.f).h T x:Nat):Int))) (v' := Zc) Tryz.results53 rfl rfl ?_
 exact⟨rfl,e.gC s_⟩
theorem N7(cb n:Nat)(es:List Ge)(c:Cv)(w:World)(C:tj w cb n es c)(G:n<=4096)(x:Nat)(H:x<n)(T:Int) :
 CR ya 27 (Zr cb x T) w (fun r w' => r = .tuple #[.agg (Zz ((gM es n c.f (jb (fU es n c.f).p (fU es n c.f).h T x):Nat):Int) ((fJ (fU es n c.f).s (jb (fU es n c.f).p (fU es n c.f).h T x):Nat):Int)),.int .i64 0]/\gz [] w w'):=by
 obtain⟨J,K,L,M,N⟩:=kX (es:=es) (n:=n) (f:=c.f)
 have I:=C.fg.f.room C.fg.g
 have F:(jb (fU es n c.f).p (fU es n c.f).h T x)<n+c.f.length:=by have:=NZ (hs:=(fU es n c.f).h) (T:=T) (x:=x) (ps:=(fU es n c.f).p) o_ C.fg.mj;omega
 have O:((List.range (n+(c.f).length)).map (gM es n (c.f))).length=n+c.f.length:=by simp
 have D:((List.range (n+(c.f).length)).map (gM es n (c.f)))[(jb (fU es n c.f).p (fU es n c.f).h T x)]? = some (gM es n c.f (jb (fU es n c.f).p (fU es n c.f).h T x)):=by simp[F]
 refine en Tryz.func27 Tryz.ntmps27 ?_
 have E:=yt w
 refine fR E 2 ?_
 refine iO E (fun t l u y d=>?_)
 refine fK d 8 ?_
 refine cl XR (V6 cb n es c l (C.to d s_) G x H T) ?_
 rintro _ z ⟨rfl,m⟩
 have q:=yq d m
 refine gO q 22 fun A a=>?_
 refine ld rfl rfl yd rfl (kB a s_ C.b rfl) (fK a 1 ?_)
 refine iX (k:=(jb (fU es n c.f).p (fU es n c.f).h T x)) (i:=((jb (fU es n c.f).p (fU es n c.f).h T x:Nat):Int)) rfl rfl rfl yd gy C.e o_ o_ D (jq rfl rfl yf rfl (yw a s_ d_ C.e) D rfl (fK a 4 ?_))
 refine ld rfl rfl yd rfl (kB a s_ C.b rfl) (fK a 1 ?_)
 refine iX (k:=(jb (fU es n c.f).p (fU es n c.f).h T x)) (i:=((jb (fU es n c.f).p (fU es n c.f).h T x:Nat):Int)) rfl rfl rfl yd gy C.r.s o_ o_ (gE o_) (jq rfl rfl yf rfl (yw a s_ d_ C.r.s) (gE o_) rfl (jh (pvs:=[(0,(Za (((gM es n c.f (jb (fU es n c.f).p (fU es n c.f).h T x)):Nat):Int))),(1,(Za (((fJ (fU es n c.f).s (jb (fU es n c.f).p (fU es n c.f).h T x)):Nat):Int)))]) (v:=.agg (Zz (((gM es n c.f (jb (fU es n c.f).p (fU es n c.f).h T x)):Nat):Int) (((fJ (fU es n c.f).s (jb (fU es n c.f).p (fU es n c.f).h T x)):Nat):Int))) rfl rfl (jx [(0,(Ze (((gM es n c.f (jb (fU es n c.f).p (fU es n c.f).h T x)):Nat):Int))),(1,(Ze (((fJ (fU es n c.f).s (jb (fU es n c.f).p (fU es n c.f).h T x)):Nat):Int)))] DD acV rfl ⟨rfl,rfl,rfl,rfl,trivial⟩ rfl) (jY a 5 fun B j=>?_)))
 refine oc (v:=(B4 (((gM es n c.f (jb (fU es n c.f).p (fU es n c.f).h T x)):Nat):Int) (((fJ (fU es n c.f).s (jb (fU es n c.f).p (fU es n c.f).h T x)):Nat):Int))) (v' := Zc) Tryz.results27 (nM (cs:=(Zp (((gM es n c.f (jb (fU es n c.f).p (fU es n c.f).h T x)):Nat):Int) (((fJ (fU es n c.f).s (jb (fU es n c.f).p (fU es n c.f).h T x)):Nat):Int))) rfl Tryz.underlying87 rfl DD rfl (lN j (i:=0) (o:=0) (vs:=(Zp (((gM es n c.f (jb (fU es n c.f).p (fU es n c.f).h T x)):Nat):Int) (((fJ (fU es n c.f).s (jb (fU es n c.f).p (fU es n c.f).h T x)):Nat):Int))) rfl rfl)) (oK rfl) ?_
 exact⟨rfl,j.gC s_⟩
end
section
open Go Go.Sx
end
end Go.Proofs.YthpnckhjmbbalaaGreatDoor
namespace Go.Proofs
open Go.Shelf Go.Lib in
def Tryz.afs:Go.Shelf.Ren:=⟨fun|27=>200|28=>210|29=>211|n=>n,fun|25=>188|3=>3|27=>309|22=>27|4=>4|53=>323|0=>0|5=>5|54=>324|n=>n,fun|0=>0|1=>1|n=>n⟩
open Go.Shelf Go.Lib in
theorem Tryz.tzI:Go.Proofs.Lays7.n27 Proofs.Tryz.prog Tryz.afs where
 mixed:=by kernel_rfl
 f27:=Proofs.Tryz.func200.trans (congrArg some<|by kernel_rfl)
 f28:=Proofs.Tryz.func210.trans (congrArg some<|by kernel_rfl)
 f29:=Proofs.Tryz.func211.trans (congrArg some<|by kernel_rfl)
 t0:=Proofs.Tryz.underlying0
 a0:=Proofs.Tryz.isAgg0
 z0:=Proofs.Tryz.sizeOf0
 v0:=Proofs.Tryz.zeroValue0
 i0:=by kernel_rfl
 t3:=Proofs.Tryz.underlying3
 a3:=Proofs.Tryz.isAgg3
 z3:=Proofs.Tryz.sizeOf3
 v3:=Proofs.Tryz.zeroValue3
 i3:=by kernel_rfl
 t4:=Proofs.Tryz.underlying4
 a4:=Proofs.Tryz.isAgg4
 z4:=Proofs.Tryz.sizeOf4
 v4:=Proofs.Tryz.zeroValue4
 i4:=by kernel_rfl
 t5:=Proofs.Tryz.underlying5
 a5:=Proofs.Tryz.isAgg5
 z5:=Proofs.Tryz.sizeOf5
 v5:=Proofs.Tryz.zeroValue5
 i5:=by kernel_rfl
 t22:=Proofs.Tryz.underlying27
 a22:=Proofs.Tryz.isAgg27
 z22:=Proofs.Tryz.sizeOf27
 v22:=Proofs.Tryz.zeroValue27
 i22:=by kernel_rfl
 t25:=Proofs.Tryz.underlying188
 a25:=Proofs.Tryz.isAgg188
 z25:=Proofs.Tryz.sizeOf188
 v25:=Proofs.Tryz.zeroValue188
 i25:=by kernel_rfl
 t27:=Proofs.Tryz.underlying309
 a27:=Proofs.Tryz.isAgg309
 z27:=Proofs.Tryz.sizeOf309
 v27:=Proofs.Tryz.zeroValue309
 i27:=by kernel_rfl
 t53:=Proofs.Tryz.underlying323
 a53:=Proofs.Tryz.isAgg323
 z53:=Proofs.Tryz.sizeOf323
 v53:=Proofs.Tryz.zeroValue323
 i53:=by kernel_rfl
 t54:=Proofs.Tryz.underlying324
 a54:=Proofs.Tryz.isAgg324
 z54:=Proofs.Tryz.sizeOf324
 g0:=by kernel_rfl
 g1:=by kernel_rfl
end Go.Proofs
namespace Go.Proofs.YthpnckhjmbbalaaGreatDoor
section
open Go Go.Sx
def aeY(o:Obj):Prop:=∀ w:World,w.heap[1]? = some o->∀ j,j<64->w.cell? ⟨1,j,none⟩=some (.int .u8 ((Go.Lib.deBruijn64tab.getD j 0:Nat):Int))
def js(o:Obj):fS where
 gK:=[1]
 holds w:=w.heap[1]? = some o/\aeY o
 loc w w' h hh:=⟨(h 1 s_).trans hh.1,hh.2⟩
theorem K5{o:Obj}{w:World}(h:(js o).holds w):1<w.heap.size:=(pX.1 h.1).1
theorem ae1{o:Obj}{w:World}(h:(js o).holds w):Own (js o) w:=⟨h,by simp[js],fun b hb=>by simp[js]at hb;subst hb;exact K5 h⟩
theorem St.AG{bs:List (World×List Nat)}{L:List fS}{w w0:World}{o:Obj}{X:List Nat}(h:St bs L w)(hb:(w0,X)∈bs)(a:(js o).holds w0)(b:1∉X):(js o).holds w :=
 ⟨(h.keep hb (K5 a) b).trans a.1,a.2⟩
theorem aeZ{o:Obj}{w w' : World}(a:(js o).holds w)(h:fZ (js o) w w' (js o)):gz [] w w' :=
 ⟨h.gC.os,h.gC.tape,h.gC.output,h.gC.size,fun b hb _=>by
  by_cases e:b=1
  . subst e
    exact h.holds.1.trans a.1.symm
  . exact h.gC.block b hb (by simp[js,e])⟩
theorem ae0{w:World}(h:∀ j,j<64->w.cell? ⟨1,j,none⟩=some (.int .u8 ((Go.Lib.deBruijn64tab.getD j 0:Nat):Int))):∃ o,(js o).holds w:=by
 have a:=World.block_lt_of_cell? w _ (h 0 d_)
 refine⟨w.heap[1],uh a,fun d b j c=>?_⟩
 rw[<-h j c]
 exact World.cell?_of_block (b.trans (uh a).symm)
theorem aft{o:Obj}(w:World)(a:(js o).holds w)(d:Nat)(hd:d<18446744073709551616) :
 CR ya 200 (xD d) w (fun r w' => r = .int .i64 ((Go.Lib.ctz 64 d:Nat):Int)/\w' = w):=by
 have h:=Go.Proofs.Any7.bits_TrailingZeros Tryz.tzI d hd w (fun _ j c=>a.2 w a.1 j c)
 exact Calls.mono h fun e w' b=>⟨_,b.1,rfl,b.2⟩
end
section
open Go Go.Sx
theorem acf(d:Nat)(w:World) :
 CR ya 173 (Z8 d) w (fun r w' => ∃ h,w.heap.size<=h/\r = .func (.func 199) #[] (Zh h)/\(blk h 3 (Ze d)).holds w' /\ gz [] w w'):=by
 refine en Tryz.func173 Tryz.ntmps173 ?_
 have g:=yt w
 refine fR g 2 ?_
 refine iz g (fun b e c f a=>?_)
 refine fK a 5 ?_
 refine nF (vf:=[]) (vc:=(Zi b)) rfl rfl rfl (fQ a 4 ?_)
 refine gp (v:=(.func (.func 199) #[] (Zh b))) Tryz.results173 rfl ?_
 exact⟨_,k7 (g.size zd) c,rfl,a.at (i:=0) rfl,a.gC s_⟩
theorem afu{o:Obj}(w:World)(a:(js o).holds w)(d:Nat)(hd:d<18446744073709551616) :
 CR ya 200 (xD d) w (fun r w' => r = .int .i64 ((Go.Lib.ctz 64 d:Nat):Int)/\gz [] w w') :=
 CR.mono (aft w a d hd) fun r w' h=>⟨h.1,h.2▸gz.refl _ _⟩
theorem ace(p:Nat->fS)(l t n:Nat)(w:World)(B:∀ (d:Nat) (bs:List (World×List Nat)) (L:List fS) (w1:World),d≠0->d<=n->(w,(p n).gK)∈bs->St bs (p d :: L) w1->YR ya l (Ze ((Go.Lib.ctz 64 d:Nat):Int)) w1 (fun v w' => v = .bool true/\St bs (p (d &&& (d-1)) :: L) w'))(y:Own (p n) w)(A:(blk t 3 (Ze n)).holds w)(E:t∉(p n).gK){o:Obj}(z:(js o).holds w)(u:1∉(p n).gK)(C:n<8192) :
 CR ya 199 #[(.func (.yield l) #[] #[]),(Zb t)] w (fun r w' => r = .tuple #[]/\fZ (p n) w w' (p 0)):=by
 refine en Tryz.func199 Tryz.ntmps199 ?_
 have s:=yr y
 refine fR s 2 ?_
 refine ld rfl rfl yf rfl (Ch A (o:=0) rfl) (gJ s 5 ?_)
 refine lp (α:=Nat) (fun d=>[(0,(.func (.yield l) #[] #[])),(3,(Zo d))]) (fun d w1=>St [(w,(p n).gK)] [p d] w1/\d<=n) (fun d=>d) n ⟨rfl,gw rO,trivial⟩ (⟨s,o_⟩) ?_
 rintro d i f ⟨q,D⟩
 refine fR q 4 ?_
 by_cases j:((d:Int):Int)=(0:Int)
 . refine fQ q 8 ?_
   refine i6 Tryz.results199 ?_
   obtain rfl:d=0:=by omega
   exact⟨rfl,yo (R:=p n) q s_⟩
 . refine fK q 12 ?_
   refine cl Xs (afu f (St.AG q (X:=(p n).gK) s_ z u) d o_) ?_
   rintro _ k ⟨rfl,g⟩
   have h:=yq q g
   refine yl (vl:=(Ze ((Go.Lib.ctz 64 d:Nat):Int))) rfl rfl rfl (B d _ _ _ o_ o_ s_ h) ?_
   rintro _ m ⟨rfl,c⟩
   refine fK c 10 ?_
   refine ar (e:=((d-1:Nat):Int)) rfl rfl rfl rfl (by rw[GM o_];omega) (bi (a:=(d:Int)) (b:=((d-1:Nat):Int)) (e:=((d &&& (d-1):Nat):Int)) rfl rfl rfl (congrArg some (Go.bits_and_u64_nat d (d-1) o_ o_)) (fQ c 2 ?_))
   refine tN (?_)
   obtain⟨F,G⟩:=IB (x:=d) o_ o_
   have H:0<2 ^ Go.Lib.ctz 64 d:=Nat.pow_pos d_
   exact again (d &&& (d-1)) ⟨rfl,gw rO,trivial⟩ (⟨c,o_⟩) (by show ((d &&& (d-1)):Nat)<d;omega)
end
section
open Go Go.Sx
theorem nu.b2{w:World}{tb:Nat}{ps:List Int}{t:Lt}(h:nu w tb ps t):(blk tb 247 (.bool true :: t.dv :: t.jl.flatMap kI)).holds w:=by
 rw[Qa h.ok.len]
 exact h.b
theorem Qi(tb:Nat)(ps:List Int)(t:Lt)(w:World)(T:nu w tb ps t)(hP:jR ps)(hn:ps.length<=8192){o:Obj}(hT:(js o).holds w)(x F:Nat)(hx:x<ps.length)(hd:F<=gj ps x) :
 CR ya 134 (Zr tb x F) w (fun r w' => r = .tuple (Eh ((gI ps F x:Nat):Int))/\gz [] w w'):=by
 have ag:((List.range ps.length).map (gj ps)).length=ps.length:=by simp
 have ay:=IG hP hx
 have an:F<8192:=by omega
 refine E5 (vs:=(Aa tb x F)) Tryz.func134 rfl Tryz.ntmps134 rfl ?_
 have am:=yt w
 have ah:((List.range ps.length).map (gj ps))[x]? = some (gj ps x):=by simp[hx]
 refine fR am 2 ?_
 refine iz am (fun c N O P n=>?_)
 refine iz n (fun e Q R S p=>?_)
 refine gO p 9 fun q h=>?_
 refine cl EV (Fm tb ps t q (T.to h s_) hP hn x o_) ?_
 rintro _ s ⟨rfl,u⟩
 have a:=yq h u
 refine fK a 3 ?_
 by_cases U:((F:Int):Int)<(0:Int)
 . refine fQ a 24 ?_
   exfalso
   omega
 . refine fK a 7 ?_
   refine ld rfl rfl yd rfl (kB a s_ T.b rfl) (fK a 1 ?_)
   refine iX (k:=x) (i:=(x:Int)) rfl rfl rfl yd gy T.d o_ o_ ah (jq rfl rfl yf rfl (yw a s_ d_ T.d) ah rfl ?_)
   by_cases V:((F:Int):Int)>((((gj ps x):Nat):Int):Int)
   . refine fQ a 13 ?_
     exfalso
     omega
   . refine fK a 11 ?_
     refine cl Xi (acf F s) ?_
     rintro _ y ⟨f,A,rfl,B,C⟩
     have j:=St.Nj a C A B
     have D:=yg [2,1,0] j
     have E:St [(w,[])] [blk c 117 (Zi tb),blk e 3 (Ze ((gI ps (F-F) x:Nat):Int)),blk f 3 (Ze F)] y:=by rw[Nat.sub_self];exact D
     refine gJ j 3 ?_
     refine rf (α:=Nat) (ps:=[30]) (fi:=[]) (ca:=(Zi f)) (fun z=>[blk c 117 (Zi tb),blk e 3 (Ze ((gI ps (F-z) x:Nat):Int)),blk f 3 (Ze F)]) (fun z=>z=0) E rfl Xr ?_ ?_
     . intro fn dd l wl rc ae al
       have G:=yg [0,2,3,1,4] al
       have ad:=yc (BY (jr l rc) c tb e ((gI ps (F-F) x:Nat):Int)) [kq dd (some []),blk f 3 (Ze F)] G
       have aj:rc.state = .ready:=by rw[ae]
       have aq:rc.pending=none:=by rw[ae]
       have ar:∀ (d:Nat) (bs:List (World×List Nat)) (L:List fS) (w1:World),d≠0->d<=F->(wl,((fun(z:Nat)=>gq (BY (jr l rc) c tb e ((gI ps (F-z) x:Nat):Int))) F).gK)∈bs->St bs ((fun(z:Nat)=>gq (BY (jr l rc) c tb e ((gI ps (F-z) x:Nat):Int))) d :: L) w1->YR ya l (Ze ((Go.Lib.ctz 64 d:Nat):Int)) w1 (fun v w' => v = .bool true/\St bs ((fun(z:Nat)=>gq (BY (jr l rc) c tb e ((gI ps (F-z) x:Nat):Int))) (d &&& (d-1)) :: L) w'):=by
        intro d bs LT wr af ag ap ac
        have ac:=ac.unpack
        have ac:=St.under ad (w:=w) s_ (fun b hb=>by rw[mU];exact zp.2 (.inl hb)) ac ap
        have hU:=BO.next hP hx hd an (⟨ag,rfl⟩:BO ps x F d (gI ps (F-d) x)) af
        have ao:=hU.1
        have ax:=V7 af o_
        refine Di (vl:=(Ze ((Go.Lib.ctz 64 d:Nat):Int))) 0 ae ac rfl rfl rfl (iP ac 3 ?_)
        refine tN (?_)
        refine EG 0 ac rfl aj rfl ?_
        intro W H
        have ai:(jt ps (Go.Lib.ctz 64 d))[(gI ps (F-d) x)]? = some ((gI ps (2 ^ Go.Lib.ctz 64 d) (gI ps (F-d) x):Nat):Int):=by rw[<-hU.2.1];exact gE (by rw[AF];exact ao)
        have az:=AF (ps:=ps) (k:=Go.Lib.ctz 64 d)
        refine qu H 6 fun Y g=>?_
        refine jM (o:=2) (o' := 2+(Go.Lib.ctz 64 d)) (i:=((Go.Lib.ctz 64 d:Nat):Int)) rfl rfl rfl ru j9 o_ (by first|omega|(simp only[nq];omega)) (ld rfl rfl yd rfl (kB g s_ T.b2 (wm (by rw[T.ok.len];omega) rfl)) (fK g 1 ?_))
        refine iX (k:=(gI ps (F-d) x)) (i:=((gI ps (F-d) x:Nat):Int)) rfl rfl rfl yd gy (T.r (Go.Lib.ctz 64 d) o_) o_ o_ ai (jq rfl rfl yf rfl (yw g s_ d_ (T.r (Go.Lib.ctz 64 d) o_)) ai rfl (jY g 3 fun Z I=>?_))
        refine ES 0 I rfl aj aq rfl ?_
        intro aa J
        have ak:=J
        rw[hU.2.2.at_]at ak
        exact⟨_,rfl,rfl,yc [_,_,_] _ ak.Wq⟩
       refine CR.mono (ace (fun(z:Nat)=>gq (BY (jr l rc) c tb e ((gI ps (F-z) x:Nat):Int))) l f F wl ar (ye ad 0 rfl) (ad.at (i:=2) rfl) (ad.Ro (by simp[iQ,blk,kq])) (St.AG al (X:=[]) s_ hT s_) (ad.acd (w0:=w) s_ (K5 hT)) o_) ?_
       rintro _ w9 ⟨-,aw⟩
       have av:=(yi ad aw)
       have K:=yg [0,3,1,2,4] av
       exact⟨_,rfl,K⟩
     . rintro z dd ab hC m
       refine uV tt none m 10 ?_
       refine CQ 0 m rfl rfl ?_
       intro w8 au
       have M:=yg [] au
       exact⟨_,results_tmp2 Tryz.results134 _ _ _,_,rfl,by rw[sN,sN];exact⟨by subst hC;rfl,M.gC s_⟩⟩
end
section
open Go Go.Sx
theorem ZZ(tb:Nat)(ps:List Int)(t:Lt)(w:World)(F:nu w tb ps t)(Q:jR ps)(Y:ps.length<=8192){o:Obj}(hT:(js o).holds w)(an:∀ i,i<ps.length -> -1<=fJ ps i)(a b:Nat)(S:a<ps.length)(hb:b<ps.length) :
 CR ya 88 (Zr tb a b) w (fun r w' => ∃ (z:Nat) (B:Bool),r = .tuple (Z7 z B)/\mP ps a b z B/\gz [] w w'):=by
 have ax:((List.range ps.length).map (gj ps)).length=ps.length:=by simp
 have aq:=IF (ps:=ps) (i:=a)
 have av:=IF (ps:=ps) (i:=b)
 have au:=IG Q S
 have aw:=IG Q hb
 refine enter (vs:=(Aa tb a b)) Tryz.func88 rfl Tryz.ntmps88 rfl ?_
 have ag:=yt w
 have V:((List.range ps.length).map (gj ps))[a]? = some (gj ps a):=by simp[S]
 have W:((List.range ps.length).map (gj ps))[b]? = some (gj ps b):=by simp[hb]
 refine fR ag 11 ?_
 refine jN (vl:=(tA tb a)) rfl rfl EV (Fm tb ps t w F Q Y a o_) ?_
 rintro _ n ⟨rfl,y⟩
 have m:St _ [] n:=yq ag y
 refine fK m 4 ?_
 refine jN (vl:=(tA tb b)) rfl rfl EV (Fm tb ps t n (F.to m s_) Q Y b o_) ?_
 rintro _ C ⟨rfl,D⟩
 have E:St _ [] C:=yq m D
 refine gO E 12 fun G f=>?_
 refine ld (a:=⟨tb,1,none⟩) (v:=t.dv) rfl rfl yd rfl (kB f s_ F.b rfl) (fK f 1 ?_)
 refine iX (k:=a) (i:=(a:Int)) rfl rfl rfl yd gy F.d o_ o_ V (jq (u:=(Za (((gj ps a):Nat):Int))) rfl rfl yf rfl (yw f s_ d_ F.d) V rfl (fK f 3 ?_))
 refine ld (a:=⟨tb,1,none⟩) (v:=t.dv) rfl rfl yd rfl (kB f s_ F.b rfl) (fK f 1 ?_)
 refine iX (k:=b) (i:=(b:Int)) rfl rfl rfl yd gy F.d o_ o_ W (jq (u:=(Za (((gj ps b):Nat):Int))) rfl rfl yf rfl (yw f s_ d_ F.d) W rfl (min2 (a:=(((gj ps a):Nat):Int)) (b:=(((gj ps b):Nat):Int)) (c:=(((min (gj ps a) (gj ps b)):Nat):Int)) rfl rfl rfl FJ (fK f 10 ?_)))
 refine ld (a:=⟨tb,1,none⟩) (v:=t.dv) rfl rfl yd rfl (kB f s_ F.b rfl) (fK f 1 ?_)
 refine iX (k:=a) (i:=(a:Int)) rfl rfl rfl yd gy F.d o_ o_ V (jq (u:=(Za (((gj ps a):Nat):Int))) rfl rfl yf rfl (yw f s_ d_ F.d) V rfl (fK f 1 ?_))
 refine ar (a:=(((gj ps a):Nat):Int)) (b:=(((min (gj ps a) (gj ps b)):Nat):Int)) (c:=(((gj ps a):Nat):Int)-(((min (gj ps a) (gj ps b)):Nat):Int)) (e:=((gj ps a-(min (gj ps a) (gj ps b)):Nat):Int)) rfl rfl rfl rfl (by rw[oL o_];omega) (jN (vl:=(Aa tb a ((gj ps a-(min (gj ps a) (gj ps b)):Nat):Int))) rfl rfl Ov (Qi tb ps t G (F.to f s_) Q Y (St.AG f (X:=[]) s_ hT s_) a (gj ps a-(min (gj ps a) (gj ps b))) o_ o_) ?_)
 rintro _ q ⟨rfl,H⟩
 have h:St _ [] q:=yq f H
 refine fK h 13 ?_
 refine ld (a:=⟨tb,1,none⟩) (v:=t.dv) rfl rfl yd rfl (kB h s_ F.b rfl) (fK h 1 ?_)
 refine iX (k:=b) (i:=(b:Int)) rfl rfl rfl yd gy F.d o_ o_ W (jq (u:=(Za (((gj ps b):Nat):Int))) rfl rfl yf rfl (yw h s_ d_ F.d) W rfl (fK h 1 ?_))
 refine ar (a:=(((gj ps b):Nat):Int)) (b:=(((min (gj ps a) (gj ps b)):Nat):Int)) (c:=(((gj ps b):Nat):Int)-(((min (gj ps a) (gj ps b)):Nat):Int)) (e:=((gj ps b-(min (gj ps a) (gj ps b)):Nat):Int)) rfl rfl rfl rfl (by rw[oL o_];omega) (jN (vl:=(Aa tb b ((gj ps b-(min (gj ps a) (gj ps b)):Nat):Int))) rfl rfl Ov (Qi tb ps t q (F.to h s_) Q Y (St.AG h (X:=[]) s_ hT s_) b (gj ps b-(min (gj ps a) (gj ps b))) o_ o_) ?_)
 rintro _ I ⟨rfl,J⟩
 have l:St _ [] I:=yq h J
 refine fK l 11 ?_
 by_cases K:(((gI ps (gj ps a-(min (gj ps a) (gj ps b))) a:Nat):Int):Int)=(((gI ps (gj ps b-(min (gj ps a) (gj ps b))) b:Nat):Int):Int)
 . refine fQ l 13 ?_
   refine iF (v:=(Za ((gI ps (gj ps a-(min (gj ps a) (gj ps b))) a:Nat):Int))) (v' := Zf) Tryz.results88 rfl rfl ?_
   exact⟨_,true,rfl,VM Q S hb o_,l.gC s_⟩
 . obtain⟨U,ah,_⟩:=lK Q S (k:=gj ps a-(min (gj ps a) (gj ps b))) o_
   obtain⟨aa,ai,_⟩:=lK Q hb (k:=gj ps b-(min (gj ps a) (gj ps b))) o_
   have ad:gI ps (gj ps a-(min (gj ps a) (gj ps b))) a≠gI ps (gj ps b-(min (gj ps a) (gj ps b))) b:=by omega
   obtain⟨A,Z⟩:∃ A,A=gI ps (gj ps a-(min (gj ps a) (gj ps b))) a:=⟨_,rfl⟩
   obtain⟨B,ab⟩:∃ B,B=gI ps (gj ps b-(min (gj ps a) (gj ps b))) b:=⟨_,rfl⟩
   refine fK l 1 ?_
   rw[<-Z]at U ah ad ⊢
   rw[<-ab]at aa ai ad ⊢
   refine gJ l 12 ?_
   refine lp (α:=Nat×Nat) (fun(j,s)=>[(0,(Zb tb)),(1,(Za ((gI ps s A:Nat):Int))),(2,(Za ((gI ps s B:Nat):Int))),(9,(Za ((j:Int)-1)))]) (fun(j,s) w1=>St [(w,[])] [] w1/\pE ps A B (min (gj ps a) (gj ps b)) j s/\j<=13) (fun(j,s)=>j) (13,0) ⟨rfl,gw (by first|rfl|omega),gw (by first|rfl|omega),gw (by first|rfl|omega),trivial⟩ (⟨l,pE.start ad o_,o_⟩) ?_
   rintro⟨j,s⟩ L M ⟨R,T,ay⟩
   have aA:=T.le
   obtain⟨aD,aE,_⟩:=lK Q U (k:=s) o_
   obtain⟨aF,aG,_⟩:=lK Q aa (k:=s) o_
   refine fR R 4 ?_
   by_cases N:(((j:Int)-1):Int)≥(0:Int)
   . have az:=AF (ps:=ps) (k:=j-1)
     have ae:(jt ps (j-1))[(gI ps s A)]? = some (fJ (jt ps (j-1)) (gI ps s A)):=gE o_
     have af:(jt ps (j-1))[(gI ps s B)]? = some (fJ (jt ps (j-1)) (gI ps s B)):=gE o_
     have aj:pE ps A B (min (gj ps a) (gj ps b)) (j-1+1) s:=by rw[Nat.sub_add_cancel o_];exact T
     obtain⟨ao,ap⟩:=aj.next Q an U aa o_ o_
     refine gO R 14 fun O g=>?_
     refine jM (o:=2) (o' := 2+(j-1)) (i:=((j:Int)-1)) rfl rfl rfl ru j9 o_ (by first|omega|(simp only[nq];omega)) (ld (a:=⟨tb,2+(j-1),none⟩) (v:=((fJ t.jl (j-1)).1)) rfl rfl yd rfl (kB g s_ F.b2 (wm (by rw[F.ok.len];omega) rfl)) (fK g 1 ?_))
     refine iX (k:=(gI ps s A)) (i:=((gI ps s A:Nat):Int)) rfl rfl rfl yd gy (F.r (j-1) o_) o_ o_ ae (jq (u:=(Za (fJ (jt ps (j-1)) (gI ps s A)))) rfl rfl yf rfl (yw g s_ d_ (F.r (j-1) o_)) ae rfl (fK g 4 ?_))
     refine jM (o:=2) (o' := 2+(j-1)) (i:=((j:Int)-1)) rfl rfl rfl ru j9 o_ (by first|omega|(simp only[nq];omega)) (ld (a:=⟨tb,2+(j-1),none⟩) (v:=((fJ t.jl (j-1)).1)) rfl rfl yd rfl (kB g s_ F.b2 (wm (by rw[F.ok.len];omega) rfl)) (fK g 1 ?_))
     refine iX (k:=(gI ps s B)) (i:=((gI ps s B:Nat):Int)) rfl rfl rfl yd gy (F.r (j-1) o_) o_ o_ af (jq (u:=(Za (fJ (jt ps (j-1)) (gI ps s B)))) rfl rfl yf rfl (yw g s_ d_ (F.r (j-1) o_)) af rfl (fK g 8 ?_))
     by_cases x:((fJ (jt ps (j-1)) (gI ps s A)):Int)=((fJ (jt ps (j-1)) (gI ps s B)):Int)
     . have ac:=ao x
       refine fK g 9 ?_
       refine ar (a:=((j:Int)-1)) (b:=1) (c:=((j:Int)-1)-1) (e:=((j:Int)-1-1)) rfl rfl rfl rfl (oL o_) (fQ g 2 ?_)
       refine tN (?_)
       exact again ((j-1),s) ⟨rfl,rfl,rfl,gw (by first|rfl|omega),trivial⟩ (⟨g,ac,o_⟩) (by show ((j-1):Nat)<j;omega)
     . obtain⟨ac,aB,aC⟩:=ap x
       refine fK g 14 ?_
       refine ar (a:=((j:Int)-1)) (b:=1) (c:=((j:Int)-1)-1) (e:=((j:Int)-1-1)) rfl rfl rfl rfl (oL o_) (fQ g 2 ?_)
       refine tN (?_)
       exact again ((j-1),(s+2 ^ (j-1))) ⟨rfl,gw (by first|rfl|omega),gw (by first|rfl|omega),gw (by first|rfl|omega),trivial⟩ (⟨g,ac,o_⟩) (by show ((j-1):Nat)<j;omega)
   . have am:j=0:=by omega
     refine fK R 1 ?_
     subst am
     obtain⟨ak,al⟩:=T.fin Q U o_
     refine fK R 14 ?_
     refine jM (o:=2) (o' := 2) (i:=0) rfl rfl rfl ru j9 d_ rfl (ld (a:=⟨tb,2,none⟩) (v:=((fJ t.jl 0).1)) rfl rfl yd rfl (kB R s_ F.b rfl) (fK R 1 ?_))
     refine iX (k:=(gI ps s A)) (i:=((gI ps s A:Nat):Int)) rfl rfl rfl yd gy F.p o_ o_ (gE o_) (jq (u:=(Za (fJ ps (gI ps s A)))) rfl rfl yf rfl (yw R s_ d_ F.p) (gE o_) rfl ?_)
     by_cases P:((fJ ps (gI ps s A)):Int)<(0:Int)
     . refine fQ R 12 ?_
       refine iF (v:=Zc) (v' := Zn) Tryz.results88 rfl rfl ?_
       exact⟨0,false,rfl,VN Q S hb Z ab T (ak o_),R.gC s_⟩
     . refine fK R 11 ?_
       refine jM (o:=2) (o' := 2) (i:=0) rfl rfl rfl ru j9 d_ rfl (ld (a:=⟨tb,2,none⟩) (v:=((fJ t.jl 0).1)) rfl rfl yd rfl (kB R s_ F.b rfl) (fK R 1 ?_))
       refine iX (k:=(gI ps s A)) (i:=((gI ps s A:Nat):Int)) rfl rfl rfl yd gy F.p o_ o_ (gE o_) (jq (u:=(Za (fJ ps (gI ps s A)))) rfl rfl yf rfl (yw R s_ d_ F.p) (gE o_) rfl (fQ R 5 ?_))
       refine iF (v:=(Za (fJ ps (gI ps s A)))) (v' := Zf) Tryz.results88 rfl rfl ?_
       obtain⟨f1,f2,f3⟩:=al o_
       exact⟨gI ps (s+1) A,true,by rw[f2],VO Q S hb Z ab T f1 f3,R.gC s_⟩
end
section
open Go Go.Sx
structure Mf where
 bt:Nat
 tb:Nat
 t:Lt
 f:List Nat
 lv:Value
 rv:Value
 pv:Value
 hv:Value
 sv:Value
 fv:Value
 mp:Nat
def Mf.R(mb n:Nat)(es:List Ge)(q:Mf):fS:=kC (gQ es n q.f) (gq [blk mb 123 (Zi q.bt),blk q.bt 120 [(Zb q.tb),(Za n),q.lv,q.rv,q.pv,q.hv,q.sv,q.fv,(.map (some q.mp))],(Lt.R q.tb (fU es n q.f).p q.t),fM gh q.lv 3 1 ((fU es n q.f).l),fM gh q.rv 3 1 ((fU es n q.f).r),fM gh q.pv 3 1 ((fU es n q.f).p),fM gh q.hv 2 1 ((fU es n q.f).h),fM fW q.sv 3 1 ((fU es n q.f).s)])
theorem abd(v:Value)(n:Nat)(es:List Ge)(w:World)(hv:ir 3 Ge.cells (fun _=>True) w v es)(hg:p7 n es)(hn:n<=4096)(hm:es.length<=16384) :
 CR ya 87 #[(Za n),v] w (fun r w' => ∃ (mb:Nat) (q:Mf),r = .tuple (Z2 mb)/\fZ (gq []) w w' (Mf.R mb n es q)):=by
 refine en Tryz.func87 Tryz.ntmps87 ?_
 have a7:=yt w
 refine fR a7 10 ?_
 refine cl I2 (Kv v n es w hv hg hn hm) ?_
 rintro _ aw ⟨d,t,y,o,T,z,rfl,ac,ht⟩
 have P:=y0 (kf a7 ht)
 have a1:gQ es n d:=⟨hg,ac⟩
 have be:=a1.f.room a1.g
 obtain⟨bh,bi,bj,bk,bl⟩:=kX (es:=es) (n:=n) (f:=d)
 have a9:=a1.mj
 have a8:=a1.Kn
 refine fK P 3 ?_
 refine iO P (fun G ax ay az H=>?_)
 refine j8 0 H (fun ad N=>?_) (h1:=(iw rfl (iw (yu H (i:=1) rfl) (iw (yu H (i:=2) rfl) (iw (yu H (i:=3) rfl) (iw (yu H (i:=4) rfl) (iw (yu H (i:=5) rfl) lS)))))))
 refine fK N 17 ?_
 refine cl Oq (PJ v n es ad (yw N s_ d_ hv) hg hn hm) ?_
 rintro _ ae ⟨A,b,rfl,af,ht⟩
 have O:=(kf N ht)
 have a5:=af
 have bd:=a5.len
 refine fK O 21 ?_
 refine cl Ou (Qf o (fU es n d).p ae (iW O 4 rfl).any a9 a8 o_) ?_
 rintro _ aA ⟨B,D,rfl,ht⟩
 have Q:=(kf O ht)
 refine fK Q 22 ?_
 refine mkV (Prod.fst:Value×List jL->Value) .i64 rfl rfl Q (fun j aB aC aD S=>jh (pvs:=[(0,(Zb B)),(1,(uy n t y o T z)),(2,A),(3,(.map (some j)))]) (v:=.agg #[(Zb B),(Za n),t,y,o,T,z,A,(.map (some j))]) rfl rfl (jx [(0,(Zi B)),(1,(Zx n t y o T z)),(2,[A]),(3,[(.map (some j))])] Ti acE rfl ⟨rfl,rfl,rfl,rfl,rfl,(cells_one (yu S (i:=2) rfl)),rfl,rfl,trivial⟩ rfl) (iz S (fun C ag aE aF I=>?_)))
 refine fK I 7 ?_
 refine jA (m:=b.length) 3 rfl rfl yd I rfl ?_
 have ah:St _ [oF jL.cells 2 244 ([]),blk C 120 [(Zb B),(Za n),t,y,o,T,z,A,(.map (some j))],gZ j .i64 (Prod.fst:Value×List jL->Value) ([]),(Lt.R B (fU es n d).p D),fM fW A 3 1 b,blk G 67 (Zx n t y o T z),fM gh t 3 1 ((fU es n d).l),fM gh y 3 1 ((fU es n d).r),fM gh o 3 1 ((fU es n d).p),fM gh T 2 1 ((fU es n d).h),fM fW z 3 1 ((fU es n d).s)] ag:=St.Yv I
 have ai:=yg [1,4,2,0,3,5,6,7,8,9,10] ah
 refine gJ I 4 ?_
 refine lp (α:=Nat×AM) (fun(k,F)=>[(1,v),(10,(Zb C)),(48,A),(49,(Za b.length)),(50,(Za k))]) (fun(k,F) w1=>St [(w,[])] [blk C 120 [(Zb B),(Za n),t,y,o,T,z,A,(.map (some j))],fM fW A 3 1 b,gZ j .i64 (Prod.fst:Value×List jL->Value) F,oF jL.cells 2 244 F,(Lt.R B (fU es n d).p D),blk G 67 (Zx n t y o T z),fM gh t 3 1 ((fU es n d).l),fM gh y 3 1 ((fU es n d).r),fM gh o 3 1 ((fU es n d).p),fM gh T 2 1 ((fU es n d).h),fM fW z 3 1 ((fU es n d).s)] w1/\k<=b.length/\∀ c,(fT F c).2.length<=2*k) (fun(k,F)=>b.length-k) (0,[]) ⟨rfl,rfl,rfl,rfl,gw rO,trivial⟩ (⟨ai,o_,Yy⟩) ?_
 rintro⟨k,F⟩ aG aH ⟨a2,hk,a3⟩
 refine fR a2 2 ?_
 by_cases aI:((k:Int):Int)<((b.length:Int):Int)
 . have ba:k<b.length:=by omega
   have bc:fJ b k<es.length:=a5.lt (ze (gE ba))
   have a6:=hg.at bc
   have bf:=a6.1
   have bg:=a6.2.1
   refine wS a2 33 fun aJ aj=>?_
   have ak:=yg [3,0,1,2,4,5,6,7,8,9,10] aj
   have al:=St.Pu ((fJ es (fJ b k)).u:Int) ak
   refine kW mixed [([0,1,2,3,4,5,6,7,8,9,10,11,12,13,14],[3,8,10]),([15],[3])] [16] al (fun aK J=>j3 ?_)
   refine fK J 10 ?_
   refine qP (a:=((fJ es (fJ b k)).u:Int)) (mm:=F) (enc:=(Prod.fst:Value×List jL->Value)) (k:=.i64) 4 rfl rfl rfl zA yf Dx rfl J rfl (fK J 2 ?_)
   refine jh (pvs:=[(0,(Za (((fJ b k):Nat):Int))),(1,(Za ((fJ es (fJ b k)).v:Int)))]) (v:=.agg (Zz (((fJ b k):Nat):Int) ((fJ es (fJ b k)).v:Int))) rfl rfl (jx [(0,(Ze (((fJ b k):Nat):Int))),(1,(Ze ((fJ es (fJ b k)).v:Int)))] yV RW rfl ⟨rfl,rfl,rfl,rfl,trivial⟩ rfl) (kg (vs:=(HQ (((fJ b k):Nat):Int) ((fJ es (fJ b k)).v:Int))) (cs:=(Zp (((fJ b k):Nat):Int) ((fJ es (fJ b k)).v:Int))) rfl rfl G0 yV rfl (by simp[Value.cells]) rfl rfl rfl J (fun an aL aM aN K=>fQ K 1 ?_))
   refine u9 (lH rfl pU (lH rfl pU (lH rfl (qU (x9 (a:=((fJ es (fJ b k)).u:Int)) (mm:=F) (enc:=(Prod.fst:Value×List jL->Value)) (k:=.i64) 5 rfl rfl zA yf Dx rfl K rfl) rfl rfl) (trivial)))) (j3 ?_)
   refine mS (cf:=jL.cells) (ys:=(fT F ((fJ es (fJ b k)).u:Int)).2) (zs:=[(tB b k es)]) (LL:=fun e=>(MC (row (.slice (some ⟨an,0,none⟩) 1 1) 244 2 1 ([(.int .i64 (((fJ b k):Nat):Int)),(.int .i64 ((fJ es (fJ b k)).v:Int))])) e (((fT F ((fJ es (fJ b k)).u:Int)).2)++[(⟨(fJ b k),((fJ es (fJ b k)).v)⟩:jL)]) (oF jL.cells 2 244 (iJ F ((fJ es (fJ b k)).u:Int))) C B n t y o T z A (some j) b j F (fU es n d) D G)) 1 rfl rfl rfl G0 yV rfl d_ K rfl (lX K (i:=0) rfl) (fun x hx=>zq.1 (show List.all _ _=true from rfl) x hx) (by simp only[zh,zm,maxLen];have h7:=a3 ((fJ es (fJ b k)).u:Int);omega) (by simp only[zh,zm,maxLen];have h7:=a3 ((fJ es (fJ b k)).u:Int);omega) f_ ?_
   intro e aO ao aP
   have U:=yg [1,2,3,4,5,6,7,8,9,10,11,12] ao
   refine fQ U 1 ?_
   refine kR (lE ?_)
   refine qT (a:=((fJ es (fJ b k)).u:Int)) (c:=(e,((fT F ((fJ es (fJ b k)).u:Int)).2)++[(tB b k es)])) (mm:=F) (enc:=(Prod.fst:Value×List jL->Value)) (k:=.i64) (L' := (MZ e (((fT F ((fJ es (fJ b k)).u:Int)).2)++[(⟨(fJ b k),((fJ es (fJ b k)).v)⟩:jL)]) (oF jL.cells 2 244 (iJ F ((fJ es (fJ b k)).u:Int))) C B n t y o T z A (some j) b j (gx F ((fJ es (fJ b k)).u:Int) (e,((fT F ((fJ es (fJ b k)).u:Int)).2)++[(⟨(fJ b k),((fJ es (fJ b k)).v)⟩:jL)])) (fU es n d) D G)) 4 rfl rfl rfl rfl zA yf U rfl rfl (fun aQ V=>fQ V 1 ?_)
   have W:=St.Pt V
   have a4:=Pv a3 ((fJ es (fJ b k)).u:Int) e (tB b k es)
   refine Km tt none W 1 ?_
   have ap:=St.Pu ((fJ es (fJ b k)).v:Int) W
   refine kW mixed [([0,1,2,3,4,5,6,7,8,9,10,11,12,13,14],[3,8,10]),([15],[3])] [16] ap (fun aR L=>j3 ?_)
   refine fK L 10 ?_
   refine qP (a:=((fJ es (fJ b k)).v:Int)) (mm:=(gx F ((fJ es (fJ b k)).u:Int) (e,((fT F ((fJ es (fJ b k)).u:Int)).2)++[(tB b k es)]))) (enc:=(Prod.fst:Value×List jL->Value)) (k:=.i64) 4 rfl rfl rfl zA yf Dx rfl L rfl (fK L 2 ?_)
   refine jh (pvs:=[(0,(Za (((fJ b k):Nat):Int))),(1,(Za ((fJ es (fJ b k)).u:Int)))]) (v:=.agg (Zz (((fJ b k):Nat):Int) ((fJ es (fJ b k)).u:Int))) rfl rfl (jx [(0,(Ze (((fJ b k):Nat):Int))),(1,(Ze ((fJ es (fJ b k)).u:Int)))] yV RW rfl ⟨rfl,rfl,rfl,rfl,trivial⟩ rfl) (kg (vs:=(HQ (((fJ b k):Nat):Int) ((fJ es (fJ b k)).u:Int))) (cs:=(Zp (((fJ b k):Nat):Int) ((fJ es (fJ b k)).u:Int))) rfl rfl G0 yV rfl (by simp[Value.cells]) rfl rfl rfl L (fun aq aS aT aU M=>fQ M 1 ?_))
   refine u9 (lH rfl pU (lH rfl pU (lH rfl (qU (x9 (a:=((fJ es (fJ b k)).v:Int)) (mm:=(gx F ((fJ es (fJ b k)).u:Int) (e,((fT F ((fJ es (fJ b k)).u:Int)).2)++[(tB b k es)]))) (enc:=(Prod.fst:Value×List jL->Value)) (k:=.i64) 5 rfl rfl zA yf Dx rfl M rfl) rfl rfl) (trivial)))) (j3 ?_)
   refine mS (cf:=jL.cells) (ys:=(fT (gx F ((fJ es (fJ b k)).u:Int) (e,((fT F ((fJ es (fJ b k)).u:Int)).2)++[(tB b k es)])) ((fJ es (fJ b k)).v:Int)).2) (zs:=[(Eb b k es)]) (LL:=fun E=>(MC (row (.slice (some ⟨aq,0,none⟩) 1 1) 244 2 1 ([(.int .i64 (((fJ b k):Nat):Int)),(.int .i64 ((fJ es (fJ b k)).u:Int))])) E (((fT (gx F ((fJ es (fJ b k)).u:Int) (e,((fT F ((fJ es (fJ b k)).u:Int)).2)++[(⟨(fJ b k),((fJ es (fJ b k)).v)⟩:jL)])) ((fJ es (fJ b k)).v:Int)).2)++[(⟨(fJ b k),((fJ es (fJ b k)).u)⟩:jL)]) (oF jL.cells 2 244 (iJ (gx F ((fJ es (fJ b k)).u:Int) (e,((fT F ((fJ es (fJ b k)).u:Int)).2)++[(⟨(fJ b k),((fJ es (fJ b k)).v)⟩:jL)])) ((fJ es (fJ b k)).v:Int))) C B n t y o T z A (some j) b j (gx F ((fJ es (fJ b k)).u:Int) (e,((fT F ((fJ es (fJ b k)).u:Int)).2)++[(⟨(fJ b k),((fJ es (fJ b k)).v)⟩:jL)])) (fU es n d) D G)) 1 rfl rfl rfl G0 yV rfl d_ M rfl (lX M (i:=0) rfl) (fun x hx=>zq.1 (show List.all _ _=true from rfl) x hx) (by simp only[zh,zm,maxLen];have h7:=a4 ((fJ es (fJ b k)).v:Int);omega) (by simp only[zh,zm,maxLen];have h7:=a4 ((fJ es (fJ b k)).v:Int);omega) f_ ?_
   intro E aV ar aW
   have X:=yg [1,2,3,4,5,6,7,8,9,10,11,12] ar
   refine fQ X 1 ?_
   refine kR (lE ?_)
   refine qT (a:=((fJ es (fJ b k)).v:Int)) (c:=(E,((fT (gx F ((fJ es (fJ b k)).u:Int) (e,((fT F ((fJ es (fJ b k)).u:Int)).2)++[(tB b k es)])) ((fJ es (fJ b k)).v:Int)).2)++[(Eb b k es)])) (mm:=(gx F ((fJ es (fJ b k)).u:Int) (e,((fT F ((fJ es (fJ b k)).u:Int)).2)++[(tB b k es)]))) (enc:=(Prod.fst:Value×List jL->Value)) (k:=.i64) (L' := (MZ E (((fT (gx F ((fJ es (fJ b k)).u:Int) (e,((fT F ((fJ es (fJ b k)).u:Int)).2)++[(⟨(fJ b k),((fJ es (fJ b k)).v)⟩:jL)])) ((fJ es (fJ b k)).v:Int)).2)++[(⟨(fJ b k),((fJ es (fJ b k)).u)⟩:jL)]) (oF jL.cells 2 244 (iJ (gx F ((fJ es (fJ b k)).u:Int) (e,((fT F ((fJ es (fJ b k)).u:Int)).2)++[(⟨(fJ b k),((fJ es (fJ b k)).v)⟩:jL)])) ((fJ es (fJ b k)).v:Int))) C B n t y o T z A (some j) b j (gx (gx F ((fJ es (fJ b k)).u:Int) (e,((fT F ((fJ es (fJ b k)).u:Int)).2)++[(⟨(fJ b k),((fJ es (fJ b k)).v)⟩:jL)])) ((fJ es (fJ b k)).v:Int) (E,((fT (gx F ((fJ es (fJ b k)).u:Int) (e,((fT F ((fJ es (fJ b k)).u:Int)).2)++[(⟨(fJ b k),((fJ es (fJ b k)).v)⟩:jL)])) ((fJ es (fJ b k)).v:Int)).2)++[(⟨(fJ b k),((fJ es (fJ b k)).u)⟩:jL)])) (fU es n d) D G)) 4 rfl rfl rfl rfl zA yf X rfl rfl (fun aX Y=>fQ Y 1 ?_)
   have Z:=St.Pt Y
   have bb:=Pv a4 ((fJ es (fJ b k)).v:Int) E (Eb b k es)
   refine uV tt none Z 6 ?_
   refine tN (?_)
   have au:=yg [1,2,3,0,4,5,6,7,8,9,10] Z
   exact again ((k+1),(gx (gx F ((fJ es (fJ b k)).u:Int) (e,((fT F ((fJ es (fJ b k)).u:Int)).2)++[(tB b k es)])) ((fJ es (fJ b k)).v:Int) (E,((fT (gx F ((fJ es (fJ b k)).u:Int) (e,((fT F ((fJ es (fJ b k)).u:Int)).2)++[(tB b k es)])) ((fJ es (fJ b k)).v:Int)).2)++[(Eb b k es)]))) ⟨rfl,rfl,rfl,rfl,gw rO,trivial⟩ (⟨au,o_,bb⟩) (by show (b.length-(k+1):Nat)<b.length-k;omega)
 . refine fK a2 13 ?_
   refine jh (pvs:=[(0,(Zb C))]) (v:=.agg (Zh C)) rfl rfl (jx [(0,(Zi C))] Tk acF rfl ⟨rfl,rfl,trivial⟩ rfl) (iz a2 (fun aa aY aZ a0 ab=>?_))
   refine fQ ab 5 ?_
   refine iF (v:=(Zb aa)) (v' := Zc) Tryz.results87 rfl rfl ?_
   have av:=yg [0,1,5,7,8,9,10,11] ab
   exact⟨aa,(⟨C,B,D,d,t,y,o,T,z,A,j⟩:Mf),rfl,vj (yp (p:=gQ es n d) (yc [_,_,_,_,_,_,_,_] _ av) a1) s_⟩
structure uw (w:World) (mb n:Nat) (es:List Ge) (q:Mf):Prop where
 fg:gQ es n q.f
 b1:(blk mb 123 (Zi q.bt)).holds w
 b2:(blk q.bt 120 [(Zb q.tb),(Za n),q.lv,q.rv,q.pv,q.hv,q.sv,q.fv,(.map (some q.mp))]).holds w
 t:nu w q.tb (fU es n q.f).p q.t
 r:mR w es n q.f q.lv q.rv q.pv q.hv q.sv
theorem uw.of{w:World}{mb n:Nat}{es:List Ge}{q:Mf}(a:Own (Mf.R mb n es q) w):uw w mb n es q:=by
 have h:=Own.of a.un
 exact⟨a.fact,St.at h (i:=0) rfl,St.at h (i:=1) rfl,nu.of (ye h 2 rfl),⟨(iW h 3 rfl).any,(iW h 4 rfl).any,(iW h 5 rfl).any,(iW h 6 rfl).any,(iW h 7 rfl).any⟩⟩
theorem uw.to{bs:List (World×List Nat)}{L:List fS}{w w0:World}{mb n:Nat}{es:List Ge}{q:Mf}(h:uw w0 mb n es q)(hs:St bs L w)(hb:(w0,[])∈bs):uw w mb n es q :=
 ⟨h.fg,St.xW hs hb h.b1,St.xW hs hb h.b2,h.t.to hs hb,h.r.to hs hb⟩
theorem JW(mb n:Nat)(es:List Ge)(q:Mf)(w:World)(d:uw w mb n es q)(m:n<=4096)(x:Nat)(o:x<n) :
 CR ya 47 (Zm mb x) w (fun r w' => r = .bool true/\gz [] w w'):=by
 obtain⟨h,i,j,k,l⟩:=kX (es:=es) (n:=n) (f:=q.f)
 have e:=d.fg.f.room d.fg.g
 refine en Tryz.func47 Tryz.ntmps47 ?_
 have b:=yt w
 refine fR b 8 ?_
 refine mY (a:=some ⟨mb,0,none⟩) (c:=true) rfl rfl rfl Tryz.underlying69 rfl (fK b 4 ?_)
 refine ld rfl rfl DF rfl (kB b s_ d.b1 rfl) (mY (a:=some ⟨q.bt,0,none⟩) (c:=true) rfl rfl rfl DF rfl (fK b 3 ?_))
 refine cmp rfl rfl rfl (nX o_) (fK b 6 ?_)
 refine ld rfl rfl DF rfl (kB b s_ d.b1 rfl) (fK b 3 ?_)
 refine ld rfl rfl yf rfl (kB b s_ d.b2 rfl) (cmp rfl rfl rfl (qm o_) (fQ b 5 ?_))
 refine gp (v:=Zf) Tryz.results47 rfl ?_
 exact⟨rfl,b.gC s_⟩
theorem abe(mb n:Nat)(es:List Ge)(q:Mf)(w:World)(y:uw w mb n es q)(C:n<=4096){o:Obj}(E:(js o).holds w)(u v:Nat)(L:u<n)(hv:v<n) :
 CR ya 48 (Zr mb u v) w (fun r w' => ∃ (z:Nat) (B:Bool),r = .tuple (Z7 z B)/\((u=v->z=0/\B=false)/\(u≠v->mP (fU es n q.f).p u v z B))/\gz [] w w'):=by
 obtain⟨G,H,I,J,K⟩:=kX (es:=es) (n:=n) (f:=q.f)
 have F:=y.fg.f.room y.fg.g
 refine en Tryz.func48 Tryz.ntmps48 ?_
 have D:=yt w
 refine fR D 11 ?_
 refine cl IS (JW mb n es q w y C u o_) ?_
 rintro _ h ⟨rfl,i⟩
 have b:=yq D i
 refine fK b 4 ?_
 refine cl IS (JW mb n es q h (y.to b s_) C v o_) ?_
 rintro _ j ⟨rfl,k⟩
 have a:=yq b k
 refine fK a 5 ?_
 by_cases s:((u:Int):Int)=((v:Int):Int)
 . refine fQ a 13 ?_
   refine iF (v:=Zc) (v' := Zn) Tryz.results48 rfl rfl ?_
   exact⟨0,false,rfl,⟨fun _=>⟨rfl,rfl⟩,fun A=>absurd o_ A⟩,a.gC s_⟩
 . refine fK a 12 ?_
   refine ld rfl rfl DF rfl (kB a s_ y.b1 rfl) (fK a 2 ?_)
   refine ld rfl rfl yZ rfl (kB a s_ y.b2 rfl) (fK a 2 ?_)
   refine cl Yb (ZZ q.tb (fU es n q.f).p q.t j (y.to a s_).t y.fg.mj o_ (St.AG a (X:=[]) s_ E s_) y.fg.Kn u v o_ o_) ?_
   rintro _ x ⟨c,d,rfl,l,m⟩
   have e:=yq a m
   refine fQ e 7 ?_
   refine iF (v:=(Za c)) (v' := (.bool d)) Tryz.results48 rfl rfl ?_
   exact⟨c,d,rfl,⟨fun A=>absurd A o_,fun _=>l⟩,e.gC s_⟩
theorem mP.lt{ps:List Int}{a b z:Nat}{B:Bool}(hp:jR ps)(h:mP ps a b z B)(e:a<ps.length)(hb:0<ps.length):z<ps.length:=by
 rcases h with ⟨_,s,t,c,_,d,_⟩|⟨_,h,_⟩
 . rw[<-d]
   exact(lK hp e c).1
 . omega
theorem abg(mb n:Nat)(es:List Ge)(q:Mf)(w:World)(A:uw w mb n es q)(C:n<=4096){o:Obj}(E:(js o).holds w)(u v:Nat)(F:u<n)(hv:v<n) :
 CR ya 21 (Zr mb u v) w (fun r w' => ∃ (θ:Int) (B:Bool),r = .tuple (Z7 θ B)/\((u=v->θ = -9223372036854775808/\B=true)/\(u≠v->∃ z,mP (fU es n q.f).p u v z B/\(B=true->θ=fJ (fU es n q.f).h z)/\(B=false->θ=0)))/\gz [] w w'):=by
 obtain⟨I,J,K,L,M⟩:=kX (es:=es) (n:=n) (f:=q.f)
 have H:=A.fg.f.room A.fg.g
 refine en Tryz.func21 Tryz.ntmps21 ?_
 have D:=yt w
 refine fR D 11 ?_
 refine cl IS (JW mb n es q w A C u o_) ?_
 rintro _ j ⟨rfl,l⟩
 have b:=yq D l
 refine fK b 3 ?_
 by_cases t:((u:Int):Int)=((v:Int):Int)
 . refine fQ b 13 ?_
   refine iF (v:=(Za (-9223372036854775808))) (v' := Zf) Tryz.results21 rfl rfl ?_
   exact⟨_,true,rfl,⟨fun _=>⟨rfl,rfl⟩,fun y=>absurd o_ y⟩,b.gC s_⟩
 . refine fK b 12 ?_
   refine cl XO (abe mb n es q j (A.to b s_) C (St.AG b (X:=[]) s_ E s_) u v F hv) ?_
   rintro _ x ⟨c,m,rfl,d,s⟩
   have a:=yq b s
   refine gJ a 14 ?_
   cases e:(m:Bool)
   . skip
     subst e
     refine iP a 9 ?_
     refine iF (v:=Zc) (v' := Zn) Tryz.results21 rfl rfl ?_
     exact⟨0,false,rfl,⟨fun y=>absurd y o_,fun y=>⟨_,d.2 y,fun h=>absurd h d_,fun _=>rfl⟩⟩,a.gC s_⟩
   . skip
     subst e
     have N:c<n+q.f.length:=by have G:=mP.lt A.fg.mj (d.2 o_) o_ o_;omega
     refine fR a 8 ?_
     refine ld rfl rfl DF rfl (kB a s_ A.b1 rfl) (fK a 3 ?_)
     refine ld rfl rfl y9 rfl (kB a s_ A.b2 rfl) (fK a 1 ?_)
     refine iX (k:=c) (i:=(c:Int)) rfl rfl rfl y9 ti2 A.r.h o_ o_ (gE o_) (jq rfl rfl vg rfl (yw a s_ d_ A.r.h) (gE o_) rfl (fQ a 5 ?_))
     refine iF (v:=(Za (fJ (fU es n q.f).h c))) (v' := Zf) Tryz.results21 rfl rfl ?_
     exact⟨_,true,rfl,⟨fun y=>absurd y o_,fun y=>⟨_,d.2 y,fun _=>rfl,fun h=>absurd h d_⟩⟩,a.gC s_⟩
end
section
open Go Go.Sx
theorem Uz(fb nb m:Nat)(ed:Int)(xs:List Nd)(w:World)(x:Own (Zk fb nb m ed xs) w)(hm:xs.length=m)(hb:m<=1000001)(t:gf xs)(F:FT)(s:Fo xs F)(v:Nat)(hv:v+1<m) :
 CR ya 127 (Zm fb v) w (fun r w' => ∃ (d:Int) (zs:List Nd) (F2:FT),r = .int .i64 d/\Fo zs F2/\gf zs/\zs.length=m/\(∀ u v,Ad (gr zs F2) u v↔Ad (gr xs F) u v)/\(∀ k,(fJ zs k).key=(fJ xs k).key)/\fZ (Zk fb nb m ed xs) w w' (Zk fb nb m ed zs)):=by
 refine en Tryz.func127 Tryz.ntmps127 ?_
 have q:=(yr x).unpack
 refine fR q 10 ?_
 refine cl E4 (AB fb nb m ed w (q.at (i:=0) rfl) hb v o_) ?_
 rintro _ g ⟨rfl,h⟩
 have e:=yq q h
 have f:=yc [_,_] _ e
 refine fK e 11 ?_
 refine cl xP (xQ fb nb m ed xs g (ye f 0 rfl) (by first|exact hm|omega) hb t F s (v+1) o_ o_) ?_
 rintro _ l ⟨z,rfl,a,n,o,b,j,y⟩
 have c:=(yi f y)
 have p:a.length=m:=by have:=b.len;omega
 refine fK c 10 ?_
 refine jm (o' := (v+1)*9+0) (i:=(v:Int)+1) rfl rfl rfl yh jj (o9 (show (v+1)<(a).length from om)) o_ (fQ c 6 ?_)
 refine gp (v:=(Za ((fJ a (v+1)).total))) Tryz.results127 rfl ?_
 exact⟨(fJ a (v+1)).total,a,_,rfl,b.fo,j,by have:=b.len;omega,fun u v=>b.ad u v,fun k=>b.key k,yn (yc [_,_] _ c)⟩
end
section
open Go Go.Sx
theorem aaV(fb nb m:Nat)(A:Nat->Nat->Prop)(key:Nat->Int)(w:World)(o:Own (jG fb nb m A key) w)(hb:m<=1000001)(a:Nat)(q:a+1<m) :
 CR ya 127 (Zm fb a) w (fun r w' => ∃ d:Int,r = .int .i64 d/\fZ (jG fb nb m A key) w w' (jG fb nb m A key)):=by
 obtain⟨ed,xs,F,b,p⟩:=AU o
 exact CR.mono (Uz fb nb m ed xs w p b.len hb b.AE F b.fo a q) fun r w' ⟨d,zs,F2,e,c,f,g,l,n,s⟩=>⟨d,e,Bk s ⟨g,f,c,fun i j=>(l _ _).trans (b.jT i j),fun k h=>(n _).trans (b.key k h)⟩⟩
theorem Y2(fN fL ob:Nat)(s:GW)(A:Nat->Nat->Prop)(key:Nat->Int)(w:World)(n:Own (GI.R fN fL ob s A key) w)(v:Nat)(hv:v<fN) :
 CR ya 83 (Zm ob v) w (fun r w' => ∃ d:Int,r = .int .i64 d/\fZ (GI.R fN fL ob s A key) w w' (GI.R fN fL ob s A key)):=by
 have y:=n.fact.vn
 have x:=n.fact.v2
 have u:=n.fact.en
 refine en Tryz.func83 Tryz.ntmps83 ?_
 have t:=Own.of n.un
 have q:s.ok fN fL:=n.fact
 have f:=yp (p:=GW.ok fN fL s) (yc [_,_,_,_] _ t) q
 refine fR t 10 ?_
 refine cl Cy (CG fN fL ob s A key w (ye f 0 rfl) v o_) ?_
 rintro _ l ⟨rfl,o⟩
 have i:=yk 0 f o
 have j:=(jP i).unpack
 refine gO j 18 fun k g=>?_
 refine ar (e:=((fL+v:Nat):Int)) rfl rfl rfl rfl iZ (cl WR (aaV s.fb s.nb (fL+fN+1) A key k (ye g 1 rfl) o_ (fL+v) o_) ?_)
 rintro _ m ⟨c,rfl,o⟩
 have h:=yk 1 g o
 refine ar (e:=(Ec c)) rfl rfl rfl rfl rfl (quo (a:=(Ec c)) (b:=2) (e:=(IntKind.i64.wrap ((Ec c).tdiv 2))) rfl rfl rfl d_ rfl (fQ h 4 ?_))
 refine gp (v:=(Za (IntKind.i64.wrap ((IntKind.i64.wrap (c+1)).tdiv 2)))) Tryz.results83 rfl ?_
 exact⟨_,rfl,yo (yp (p:=GW.ok fN fL s) (yc [_,_,_,_] _ h) q) zd⟩
theorem Y6(fN fL ob:Nat)(s:GW)(w:World)(b:Own (GW.R fN fL ob s) w)(v:Nat)(hv:v<fN) :
 CR ya 83 (Zm ob v) w (fun r w' => ∃ d:Int,r = .int .i64 d/\fZ (GW.R fN fL ob s) w w' (GW.R fN fL ob s)):=by
 obtain⟨A,key,⟨a,g,f⟩,c⟩:=FV b
 exact CR.mono (Y2 fN fL ob s A key w c v hv) fun r w' ⟨d,e,h⟩=>⟨d,e,GG h ⟨a,g,f⟩⟩
end
section
open Go Go.Sx
theorem Ja{t:TW}{a b:Int}{c d:Nat}{p q:Bool}(h1:t.kN a c p)(e:t.kN b d q):(p&&q)=true/\t.kN a c true/\t.kN b d true\/(p&&q)=false/\¬ (t.cnt a=0/\t.cnt b=0):=by
 have e1:=h1.cnt
 have f:=e.cnt
 cases p<;>cases q<;>simp_all
theorem Ua(c:WC)(F:Nat)(s:WW)(w:World)(H:Own (WW.R c F s) w)(a b:Int) :
 CR ya 23 (tw F a b) w (fun r w' => ∃ (J K:Nat) (e:Int),r = .tuple (Mk J K e)/\(e=0/\s.u.t.kN a J true/\s.u.t.kN b K true\/e=13/\¬ (s.u.t.cnt a=0/\s.u.t.cnt b=0))/\fZ (WW.R c F s) w w' (WW.R c F s)):=by
 refine en Tryz.func23 Tryz.ntmps23 ?_
 have I:=Own.of H.un
 have D:s.ok c:=H.fact
 have L:=D.w1
 have M:=D.wi
 have N:=D.n0
 have O:=D.n1
 have j:=yp (p:=s.ok c) (yc [_,_,_,_,_] _ I) D
 refine fR I 11 ?_
 refine cl vZ (wX c F s w (ye j 0 rfl)) ?_
 rintro _ o ⟨rfl,E⟩
 have q:=yk 0 j E
 have f:=(jP q).unpack
 refine fK f 13 ?_
 refine cl EZ (GH c.fN c.fL s.ub s.u o (ye f 2 rfl) a) ?_
 rintro _ x ⟨k,y,rfl,g,E⟩
 have h:=yk 2 f E
 refine fK h 14 ?_
 refine cl EZ (GH c.fN c.fL s.ub s.u x (ye h 2 rfl) b) ?_
 rintro _ A ⟨l,z,rfl,i,E⟩
 have d:=yk 2 h E
 refine fK d 13 ?_
 cases m:(y:Bool)
 . skip
   subst m
   refine fQ d 15 ?_
   refine qV (v:=Zc) (v' := Zc) (v'' := B5) Tryz.results23 rfl rfl rfl ?_
   rcases Ja g i with ⟨B,C,G⟩|⟨B,C⟩
   . exact absurd B (by simp_all)
   . exact⟨0,0,13,rfl,.inr ⟨rfl,C⟩,yo (yp (p:=s.ok c) (yc [_,_,_,_,_] _ d) D) zd⟩
 . skip
   subst m
   refine gJ d 5 ?_
   cases n:(z:Bool)
   . skip
     subst n
     refine iP d 10 ?_
     refine qV (v:=Zc) (v' := Zc) (v'' := B5) Tryz.results23 rfl rfl rfl ?_
     rcases Ja g i with ⟨B,C,G⟩|⟨B,C⟩
     . exact absurd B (by simp_all)
     . exact⟨0,0,13,rfl,.inr ⟨rfl,C⟩,yo (yp (p:=s.ok c) (yc [_,_,_,_,_] _ d) D) zd⟩
   . skip
     subst n
     refine iP d 13 ?_
     refine qV (v:=(Za ((k:Nat):Int))) (v' := (Za ((l:Nat):Int))) (v'' := Zc) Tryz.results23 rfl rfl rfl ?_
     rcases Ja g i with ⟨B,C,G⟩|⟨B,C⟩
     . exact⟨k,l,0,rfl,.inl ⟨rfl,C,G⟩,yo (yp (p:=s.ok c) (yc [_,_,_,_,_] _ d) D) zd⟩
     . exact absurd B (by simp_all)
theorem agp(c:WC)(A:Nat)(s:WW)(w:World)(E:Own (WW.R c A s) w)(id:Int) :
 CR ya 44 (Z4 A id) w (fun r w' => ∃ (d e:Int),r = .tuple (Zz d e)/\(e=0↔s.u.t.cnt id=0)/\fZ (WW.R c A s) w w' (WW.R c A s)):=by
 refine en Tryz.func44 Tryz.ntmps44 ?_
 have F:=Own.of E.un
 have z:s.ok c:=E.fact
 have K:=z.w1
 have L:=z.wi
 have M:=z.n0
 have N:=z.n1
 have h:=yp (p:=s.ok c) (yc [_,_,_,_,_] _ F) z
 refine fR F 11 ?_
 refine cl OX (Ua c A s w (ye h 0 rfl) id id) ?_
 rintro _ l ⟨f,m,b,rfl,j,C⟩
 have n:=yk 0 h C
 have a:=(jP n).unpack
 refine fK a 13 ?_
 by_cases q:(b:Int)=(0:Int)
 . have D:fV.ok c.fN c.fL s.u:=(yy a (i:=2) rfl)
   have J:=z.v2
   have G:b=0/\s.u.t.kN id f true/\s.u.t.kN id m true:=j.elim (fun y=>y) (fun y=>by exfalso;omega)
   have O:f<c.fN:=by have y:=TW.kN.lt G.2.1 D.tok (by rw[D.tn];omega);rw[D.tn]at y;exact y
   refine fK a 13 ?_
   refine cl X7 (Y6 c.fN c.fL s.ob s.g l (ye a 4 rfl) f o_) ?_
   rintro _ x ⟨o,rfl,C⟩
   have k:=yk 4 a C
   refine fQ k 5 ?_
   refine iF (v:=(Za o)) (v' := Zc) Tryz.results44 rfl rfl ?_
   have I:=G.2.1.cnt
   exact⟨_,0,rfl,⟨fun _=>by rw[I];rfl,fun _=>rfl⟩,yo (yp (p:=s.ok c) (yc [_,_,_,_,_] _ k) z) zd⟩
 . refine fQ a 13 ?_
   refine iF (v:=Zc) (v' := (Za b)) Tryz.results44 rfl rfl ?_
   have H:b=13/\¬ (s.u.t.cnt id=0/\s.u.t.cnt id=0):=j.elim (fun y=>by exfalso;omega) (fun y=>y)
   exact⟨_,_,rfl,⟨fun B=>(by exfalso;omega),fun B=>absurd ⟨B,B⟩ H.2⟩,yo (yp (p:=s.ok c) (yc [_,_,_,_,_] _ a) z) zd⟩
end
section
open Go Go.Sx
theorem Uo(c:WC)(j:Nat)(s:WW)(w:World)(k:Own (WW.R c j s) w) :
 CR ya 45 (Zh j) w (fun r w' => r = .int .u64 (IntKind.u64.wrap (s.added+s.jk))/\fZ (WW.R c j s) w w' (WW.R c j s)):=by
 refine en Tryz.func45 Tryz.ntmps45 ?_
 have l:=Own.of k.un
 have i:s.ok c:=k.fact
 have n:=i.w1
 have o:=i.wi
 have q:=i.n0
 have t:=i.n1
 have a:=yp (p:=s.ok c) (yc [_,_,_,_,_] _ l) i
 refine fR l 9 ?_
 refine cl vZ (wX c j s w (ye a 0 rfl)) ?_
 rintro _ g ⟨rfl,m⟩
 have d:=yk 0 a m
 have f:=(jP d).unpack
 refine gO f 16 fun h b=>?_
 refine ar (e:=IntKind.u64.wrap (s.added+s.jk)) rfl rfl rfl rfl rfl (fQ b 4 ?_)
 refine gp (v:=(Zo (IntKind.u64.wrap (s.added+s.jk)))) Tryz.results45 rfl ?_
 exact⟨rfl,yo (yp (p:=s.ok c) (yc [_,_,_,_,_] _ b) i) zd⟩
structure Vk where
 iv:Value
 K:List Int
 es:List Ge
 f:List Nat
 lv:Value
 rv:Value
 pv:Value
 hv:Value
 sv:Value
 cb:Nat
 c:Cv
 mb:Nat
 q:Mf
structure Vk.ok (k:Vk):Prop where
 fg:gQ k.es k.K.length k.f
 j4:k.K.Pairwise fun a b=>a<b
 n:k.K.length<=12
def Vk.R(k:Vk):fS:=kC k.ok (gq [fM ij k.iv 27 1 k.K,fM gh k.lv 3 1 ((fU k.es k.K.length k.f).l),fM gh k.rv 3 1 ((fU k.es k.K.length k.f).r),fM gh k.pv 3 1 ((fU k.es k.K.length k.f).p),fM gh k.hv 2 1 ((fU k.es k.K.length k.f).h),fM fW k.sv 3 1 ((fU k.es k.K.length k.f).s),(Cv.R k.cb k.K.length k.es k.c),(Mf.R k.mb k.K.length k.es k.q)])
abbrev Vk.v(k:Vk):Value:=.agg #[k.iv,(Za k.K.length),k.lv,k.rv,k.pv,k.hv,k.sv,(Zb k.cb),(Zb k.mb)]
structure Vk.of (s:WW) (k:Vk):Prop where
 ids:s.u.p8 k.K
 Kq:∃ L,s.u.mQ L/\oP k.K L k.es L.length
abbrev Ac a b:=(gq [Vk.R a,b]:fS)
abbrev sJ(a:Vk) b:=(Cv.R a.cb b a.es a.c:fS)
abbrev qg(a:Vk) b:=(Mf.R a.mb b a.es a.q:fS)
abbrev Zl(a:Vk):=fU a.es a.K.length a.f
abbrev Hz a (b c:Nat):=(gq [Vk.R a,gq [blk b 39 qh,blk c 40 qh]]:fS)
abbrev M6 a (b:Nat) (c:Int) (d:Nat) (e:Int) (f:Nat):=(gq [Vk.R a,gq [blk b 27 (Zt c),blk d 2 (Ze e),blk f 35 vN]]:fS)
abbrev rI(a:Vk)(b:Int):=([a.iv,.int .i64 b,a.lv,a.rv,a.pv,a.hv,a.sv,.pointer (some ⟨a.cb,0,none⟩),.pointer (some ⟨a.mb,0,none⟩)]:List Value)
abbrev M7 a (b:Nat) (c:Int) (d:Nat) (e:Int) (f g:Nat) h:=(gq [Vk.R a,gq [blk b 27 (Zt c),blk d 27 (Zt e),blk f 2 [.int .i64 0],blk g 4 [.bool false],h]]:fS)
abbrev Es(a:Vk)(b:Int):=(.agg #[a.iv,.int .i64 b,a.lv,a.rv,a.pv,a.hv,a.sv,.pointer (some ⟨a.cb,0,none⟩),.pointer (some ⟨a.mb,0,none⟩)]:Value)
abbrev Md(a:Nat)(b:Int)(c:Vk)(d:Int):=([.pointer (some ⟨a,0,none⟩),.bool true,.int .u64 b,c.iv,.int .i64 d,c.lv,c.rv,c.pv,c.hv,c.sv,.pointer (some ⟨c.cb,0,none⟩),.pointer (some ⟨c.mb,0,none⟩),.int .i64 1]:List Value)
abbrev HB(a b:Nat)(c:Int)(d:Vk)(e f:Int):=(blk a 102 [.pointer (some ⟨b,0,none⟩),.bool true,.int .u64 c,d.iv,.int .i64 e,d.lv,d.rv,d.pv,d.hv,d.sv,.pointer (some ⟨d.cb,0,none⟩),.pointer (some ⟨d.mb,0,none⟩),.int .i64 f]:fS)
abbrev Na(a b:Nat)(c:Int)(d:Vk)(e:Int) f g:=(gq [blk a 102 (Md b c d e),Vk.R d,WW.R f b g]:fS)
abbrev tC(a b:Nat)(c:Int)(d:Vk)(e f:Int) g h:=(gq [blk a 102 [.pointer (some ⟨b,0,none⟩),.bool true,.int .u64 c,d.iv,.int .i64 e,d.lv,d.rv,d.pv,d.hv,d.sv,.pointer (some ⟨d.cb,0,none⟩),.pointer (some ⟨d.mb,0,none⟩),.int .i64 f],Vk.R d,WW.R g b h]:fS)
abbrev M9(a b:Nat)(c:Int)(d:Vk)(e:Int) f g h:=(gq [blk a 102 (Md b c d e),Vk.R d,WW.R f b g,h]:fS)
abbrev rH(a b:Nat)(c:Int)(d:Vk)(e f:Int) g h i:=(gq [blk a 102 [.pointer (some ⟨b,0,none⟩),.bool true,.int .u64 c,d.iv,.int .i64 e,d.lv,d.rv,d.pv,d.hv,d.sv,.pointer (some ⟨d.cb,0,none⟩),.pointer (some ⟨d.mb,0,none⟩),.int .i64 f],Vk.R d,WW.R g b h,i]:fS)
theorem oP.PN{s:fV}{fN fL:Nat}{K:List Int}{L:List Lv}{es:List Ge}(j:s.ok fN fL)(g:s.mQ L)(h:oP K L es L.length):p7 K.length es:=fun e f=>by
 obtain⟨i,hi,e1⟩:=ue f
 have b:i<L.length:=by rw[<-h.len];exact hi
 have a:=h.fst i b
 have d:fJ es i=e:=iD (by rw[zk hi,e1])
 rw[d]at a
 refine⟨a.ul,a.vl,fun c=>(j.AB ((g.mem _).1 (ze (gE b)))).2 ?_⟩
 rw[<-a.u,<-a.v,c]
theorem afM(c:WC)(wb:Nat)(s:WW)(w:World)(hO:Own (WW.R c wb s) w)(am:c.fN<=12) :
 CR ya 46 (Zh wb) w (fun r w' => ∃ (k:Vk),r=k.v/\Vk.of s k/\fZ (WW.R c wb s) w w' (gq [(WW.R c wb s),Vk.R k])):=by
 refine en Tryz.func46 Tryz.ntmps46 ?_
 have al:=yr hO
 have F:=sX hO
 have au:=F.1.en
 have ar:=F.1.w1
 refine fR al 2 ?_
 refine iO al (fun U K V W A=>?_)
 refine fK A 5 ?_
 refine cl X8 (acA c wb s K (ye A 1 rfl) am) ?_
 rintro _ X ⟨d,B,Y,a,Z,g,rfl,b,T⟩
 have L:=yg [1,0] A
 have z:=y0 (yk 0 L T)
 have F:=sX (ye z 0 rfl)
 have ak:=oP.PN F.2.1 b.2.1 b.2.2
 have ap:=b.1.len F.2.1 F.2.2
 have aq:=b.2.1.len F.2.1
 have ao:=b.2.2.len
 have an:=F.1.en
 refine fK z 12 ?_
 refine jh (pvs:=[(0,d)]) (v:=.agg #[d,Zc,Zg,Zg,Zg,Zg,Zg,Zs,Zs]) rfl rfl (jx [(0,[d])] DC acT rfl ⟨rfl,(cells_one (yu z (i:=1) rfl)),trivial⟩ rfl) (iO z (fun aa ab ac ad D=>?_))
 refine j8 0 D (fun M h=>?_) (h1:=(iw (yu D (i:=2) rfl) (iw rfl (iw rfl (iw rfl (iw rfl (iw rfl (iw rfl (iw rfl (iw rfl lS))))))))))
 refine fK h 5 ?_
 refine jA (m:=a.length) 2 rfl rfl ot h rfl (fK h 1 ?_)
 refine cl I2 (Kv B a.length g M (iW h 3 rfl).any ak o_ o_) ?_
 rintro _ ae ⟨E,j,l,n,aj,q,rfl,N,T⟩
 have f:=y0 (kf h T)
 refine fK f 4 ?_
 refine j8 5 f (fun O t=>?_) (h1:=(iw rfl (iw (yu f (i:=0) rfl) (iw (yu f (i:=1) rfl) (iw (yu f (i:=2) rfl) (iw (yu f (i:=3) rfl) (iw (yu f (i:=4) rfl) lS)))))))
 refine fK t 5 ?_
 refine jA (m:=a.length) 7 rfl rfl ot t rfl (fK t 1 ?_)
 refine cl X9 (VK B a.length g O (iW t 8 rfl).any ak o_ o_) ?_
 rintro _ af ⟨u,G,rfl,T⟩
 have H:=(kf t T)
 refine fK H 4 ?_
 refine j8 6 H (fun P x=>?_)
 refine fK x 5 ?_
 refine jA (m:=a.length) 8 rfl rfl ot x rfl (fK x 1 ?_)
 refine cl Ya (abd B a.length g P (iW x 9 rfl).any ak o_ o_) ?_
 rintro _ ag ⟨y,I,rfl,T⟩
 have J:=(kf x T)
 refine fK J 4 ?_
 refine j8 7 J (fun ah e=>?_)
 refine fK e 5 ?_
 refine j8 12 e (fun ai C=>?_) (h1:=(iw (yu e (i:=9) rfl) (iw rfl (iw (yu e (i:=2) rfl) (iw (yu e (i:=3) rfl) (iw (yu e (i:=4) rfl) (iw (yu e (i:=5) rfl) (iw (yu e (i:=6) rfl) (iw rfl (iw rfl lS))))))))))
 refine fQ C 3 ?_
 refine Ss (v:=(.agg #[d,(Za a.length),j,l,n,aj,q,(Zb u),(Zb y)])) Tryz.results46 (nM (cs:=(Cc d a.length j l n aj q u y)) rfl G3 rfl DC rfl (lN C (i:=12) (o:=0) (vs:=(Cc d a.length j l n aj q u y)) rfl rfl)) ?_
 have Q:=yg [8,9,2,3,4,5,6,1,0] C
 have S:=(yc [_,_,_,_,_,_,_,_] _ (Q.perm (rz (l₁:=[_]) (l₂:=[_,_,_,_,_,_,_,_])))).swap
 exact⟨(⟨d,a,g,E,j,l,n,aj,q,u,G,y,I⟩:Vk),rfl,⟨b.1,_,b.2.1,b.2.2⟩,yo (yc [_,_] [] (St.swap (yp (p:=Vk.ok (⟨d,a,g,E,j,l,n,aj,q,u,G,y,I⟩:Vk)) S.swap ⟨⟨ak,N⟩,b.1.j4,by show a.length<=12;omega⟩))) zd⟩
theorem u7(b e:Nat)(cs:List Value)(w:World)(f:Own (blk b 102 ((Zb e) :: cs)) w) :
 CR ya 17 (Zh b) w (fun r w' => r = .bool true/\fZ (blk b 102 ((Zb e) :: cs)) w w' (blk b 102 ((Zb e) :: cs))):=by
 refine en Tryz.func17 Tryz.ntmps17 ?_
 have d:=yr f
 refine fR d 8 ?_
 refine mY (a:=some ⟨b,0,none⟩) (c:=true) rfl rfl rfl Tryz.underlying24 rfl (fK d 5 ?_)
 refine mY (a:=some ⟨e,0,none⟩) (c:=true) rfl rfl rfl DH rfl (fQ d 5 ?_)
 refine gp (v:=Zf) Tryz.results17 rfl ?_
 exact⟨rfl,yn d⟩
theorem TY(c:WC)(j i:Nat)(s:WW)(cs:List Value)(w:World)(l:Own (Zy j ((.pointer (some ⟨i,0,none⟩)) :: cs) c i s) w)(id:Int) :
 CR ya 18 (Z4 j id) w (fun r w' => ∃ B:Bool,r = .bool B/\(B=true↔s.u.t.cnt id=0)/\fZ (Zy j ((.pointer (some ⟨i,0,none⟩)) :: cs) c i s) w w' (Zy j ((.pointer (some ⟨i,0,none⟩)) :: cs) c i s)):=by
 refine en Tryz.func18 Tryz.ntmps18 ?_
 have k:=(yr l).unpack
 refine fR k 12 ?_
 refine cl XM (agp c i s w (ye k 1 rfl) id) ?_
 rintro _ e ⟨f,d,rfl,b,m⟩
 have a:=yk 1 k m
 refine fK a 10 ?_
 by_cases g:(d:Int)=(0:Int)
 . refine fQ a 5 ?_
   refine gp (v:=Zf) Tryz.results18 rfl ?_
   exact⟨true,rfl,⟨fun h=>(by first|exact b.1 o_|cases h),fun h=>(by first|rfl|(exact absurd (b.2 h) o_))⟩,yn (yc [_,_] _ a)⟩
 . refine fQ a 5 ?_
   refine gp (v:=Zn) Tryz.results18 rfl ?_
   exact⟨false,rfl,⟨fun h=>(by first|exact b.1 o_|cases h),fun h=>(by first|rfl|(exact absurd (b.2 h) o_))⟩,yn (yc [_,_] _ a)⟩
theorem aeO:ya.stoodInHeld 100=false:=by kernel_rfl
theorem PL:ya.eqGuardType ya.depth 100=false:=by kernel_rfl
theorem Ph(a b:Bool)(c d:Int)(w:World):(Op.equal 100 (.agg #[.bool a,.int .u64 c]) (.agg #[.bool b,.int .u64 d])).run ya w = .ok ((a==b)&&(c==d)) w :=
 SF GX aeO d_ d_ (SH yz _ 0 _ rfl) (SH yz _ 0 _ rfl) (r0 yj _ 1 _ rfl) (r0 yj _ 1 _ rfl) (KJ 9998 yz a b) (Dl 9998 yj c d)
theorem Yl(a:Bool)(c:Int)(w:World):(Op.equal 100 (.agg #[.bool a,.int .u64 c]) (.agg #[.bool a,.int .u64 c])).run ya w = .ok true w:=by
 rw[Ph,beq_self_eq_true,beq_self_eq_true]
 rfl
theorem Uc(c:WC)(S F:Nat)(s:WW)(w:World){α:Type}(R:fS)(W : α->fS)(Φ : Vk->α->Prop)(V:Nat)(cap:List Value)(Y:gi ya V)(hq:∀ (k:Vk) (w1:World),Vk.of s k->Own (Ac k R) w1->CR ya V (k.v :: cap).toArray w1 (fun r w' => r = .tuple #[]/\∃ x,Φ k x/\fZ (Ac k R) w1 w' (Ac k (W x))))(X:Own (D6 S F c s R) w)(aa:c.fN<=12) :
 CR ya 19 (HH S (.func (.func V) #[] cap.toArray)) w (fun r w' => ∃ (k:Vk) (x:α),r = .tuple #[]/\(Vk.of s k /\ Φ k x)/\fZ (D6 S F c s R) w w' (M9 S F (IntKind.u64.wrap (s.added+s.jk)) k k.K.length c s (W x))):=by
 refine en Tryz.func19 Tryz.ntmps19 ?_
 have T:=(yr X).unpack
 refine fR T 6 ?_
 refine cl O4 (Uo c F s w (ye T 1 rfl)) ?_
 rintro _ H ⟨rfl,U⟩
 have n:=yk 1 T U
 refine jh (pvs:=[(0,Zf),(1,(Zo (IntKind.u64.wrap (s.added+s.jk))))]) (v:=.agg (BW (IntKind.u64.wrap (s.added+s.jk)))) rfl rfl (jx [(0,[Zf]),(1,(Zt (IntKind.u64.wrap (s.added+s.jk))))] Dv RP rfl ⟨rfl,rfl,rfl,rfl,trivial⟩ rfl) (iO n (fun I J L M q=>?_))
 refine gO q 11 fun t f=>?_
 refine FP (c:=false) (xs:=#[Zn,sK]) (ys:=(BW (IntKind.u64.wrap (s.added+s.jk)))) rfl rfl rfl PL (fun w=>Ph _ _ _ _ w) (fK f 10 ?_)
 refine cl XN (afM c F s t (ye f 2 rfl) aa) ?_
 rintro _ N ⟨b,rfl,h,U⟩
 have u:=yg [2,0,1,3] f
 have y:=y0 (yk 0 u U)
 have j:=yg [1,0,2,3,4] y
 have Z:=su j
 have a:=(jP j).unpack
 refine fK a 2 ?_
 refine j8 10 a (fun O d=>?_) (h1:=(iw (yu a (i:=0) rfl) (iw rfl (iw (yu a (i:=1) rfl) (iw (yu a (i:=2) rfl) (iw (yu a (i:=3) rfl) (iw (yu a (i:=4) rfl) (iw (yu a (i:=5) rfl) (iw rfl (iw rfl lS))))))))))
 refine fK d 5 ?_
 refine uN (cs:=[Zf,(Zo (IntKind.u64.wrap (s.added+s.jk)))]) rfl rfl GX rfl Dv rfl (lN d (i:=9) (o:=0) (vs:=[Zf,(Zo (IntKind.u64.wrap (s.added+s.jk)))]) rfl rfl) (fK d 2 ?_)
 refine j8 10 d (fun P e=>?_)
 refine fK e 6 ?_
 refine ld rfl rfl yf rfl (lM e 10 rfl rfl) (fK e 3 ?_)
 refine j8 10 e (fun z g=>?_)
 refine fK g 7 ?_
 refine uN (cs:=(rI b b.K.length)) rfl rfl G3 rfl DC rfl (lN g (i:=10) (o:=3) (vs:=(rI b b.K.length)) rfl rfl) ?_
 have A:=yp (p:=Vk.ok b) (yc [_,_,_,_,_,_,_,_] _ g) Z
 have B:=yg [0,4,1,2,3] A
 have l:=yc [_,_] _ B
 refine qo (fi:=[]) (ca:=cap) rfl rfl rfl Y (hq b z h (ye l 0 rfl)) ?_
 rintro _ Q ⟨rfl,C,D,E⟩
 have m:=(yi l E)
 refine fQ m 1 ?_
 refine i6 Tryz.results19 ?_
 have G:=yg [4,0,2,1] m
 exact⟨b,C,rfl,⟨h,D⟩,yn (yc [_,_,_,_] _ G)⟩
theorem LB(c:WC)(A B:Nat)(s:WW)(w:World){α:Type}(z:fS)(E : α->fS)(Φ : Vk->α->Prop)(D:Nat)(cap:List Value)(G:gi ya D)(I:∀ (k:Vk) (w1:World),Vk.of s k->Own (Ac k z) w1->CR ya D (k.v :: cap).toArray w1 (fun r w' => r = .tuple #[]/\∃ x,Φ k x/\fZ (Ac k z) w1 w' (Ac k (E x))))(k:Vk)(H:Vk.of s k)(b:Int)(F:Own (rH A B (IntKind.u64.wrap (s.added+s.jk)) k k.K.length b c s z) w) :
 CR ya 19 (HH A (.func (.func D) #[] cap.toArray)) w (fun r w' => ∃ (x:α),r = .tuple #[] /\ Φ k x/\fZ (rH A B (IntKind.u64.wrap (s.added+s.jk)) k k.K.length b c s z) w w' (rH A B (IntKind.u64.wrap (s.added+s.jk)) k k.K.length b c s (E x))):=by
 refine en Tryz.func19 Tryz.ntmps19 ?_
 have C:=(yr F).unpack
 refine fR C 6 ?_
 refine cl O4 (Uo c B s w (ye C 2 rfl)) ?_
 rintro _ o ⟨rfl,J⟩
 have f:=yk 2 C J
 refine jh (pvs:=[(0,Zf),(1,(Zo (IntKind.u64.wrap (s.added+s.jk))))]) (v:=.agg (BW (IntKind.u64.wrap (s.added+s.jk)))) rfl rfl (jx [(0,[Zf]),(1,(Zt (IntKind.u64.wrap (s.added+s.jk))))] Dv RP rfl ⟨rfl,rfl,rfl,rfl,trivial⟩ rfl) (iO f (fun p q t u g=>?_))
 refine gO g 11 fun h a=>?_
 refine FP (c:=true) (xs:=(BW (IntKind.u64.wrap (s.added+s.jk)))) (ys:=(BW (IntKind.u64.wrap (s.added+s.jk)))) rfl rfl rfl PL (fun w=>Yl _ _ w) ?_
 have i:=yg [2,4,0,1,3] a
 have d:=yc [_,_] _ i
 refine fK a 11 ?_
 refine qo (fi:=[]) (ca:=cap) rfl rfl rfl G (I k h H (ye d 0 rfl)) ?_
 rintro _ y ⟨rfl,j,l,m⟩
 have e:=(yi d m)
 refine fQ e 1 ?_
 refine i6 Tryz.results19 ?_
 have n:=yg [3,0,4,1] e
 exact⟨j,rfl,l,yn (yc [_,_,_,_] _ n)⟩
end
section
open Go Go.Sx
abbrev Vk.top(k:Vk)(T:Int)(x:Nat):Nat:=jb (fU k.es k.K.length k.c.f).p (fU k.es k.K.length k.c.f).h T x
abbrev Vk.gM(k:Vk)(T:Int)(x:Nat):Nat:=Go.Sx.gM k.es k.K.length k.c.f (k.top T x)
abbrev Vk.nN(k:Vk)(T:Int)(x:Nat):Nat:=fJ (fU k.es k.K.length k.c.f).s (k.top T x)
theorem gQ.CP{es:List Ge}{n:Nat}{f:List Nat}(h:gQ es n f){y:Nat}(a:y<n+f.length):gM es n f y<n:=by
 unfold gM
 split
 . assumption
 . have:=h.st (i:=y-n) o_
   omega
theorem Vk.CP{k:Vk}(h:gQ k.es k.K.length k.c.f){T:Int}{x:Nat}(i:x<k.K.length):k.gM T x<k.K.length:=by
 obtain⟨a,b,d,e,g⟩:=kX (es:=k.es) (n:=k.K.length) (f:=k.c.f)
 refine gQ.CP h ?_
 have:=NZ (hs:=(fU k.es k.K.length k.c.f).h) (T:=T) (x:=x) (ps:=(fU k.es k.K.length k.c.f).p) o_ h.mj
 show jb _ _ _ _<_
 omega
theorem Iy{t:TW}{id:Int}(h:t.cnt id=0):t.mem id:=by
 apply Classical.byContradiction
 intro a
 rw[TW.tF a]at h
 cases h
theorem Vk.of.mem{s:WW}{k:Vk}(h:Vk.of s k){u:Int}(a:s.u.t.cnt u=0):u∈k.K:=(h.ids.mem u).2 (Iy a)
theorem N2(N O P:Nat)(u T:Int)(k:Vk)(w:World)(X:Own (M6 k N u O T P) w)(Z:u∈k.K) :
 CR ya 26 #[(Es k k.K.length),(Zb N),(Zb O),(Zb P)] w (fun r w' => r = .tuple #[]/\∃ x:Int×Nat,x=(fJ k.K (k.gM T (gH k.K u)),k.nN T (gH k.K u))/\fZ (M6 k N u O T P) w w' (gq [Vk.R k,(gq [blk N 27 (Zt u),blk O 2 (Ze T),blk P 35 (xK x.1 x.2)])])):=by
 refine en Tryz.func26 Tryz.ntmps26 ?_
 have V:=Own.of X
 have S:=su V
 have aa:=S.n
 have W:=(jP V).unpack
 have j:=yg [8,0,1,2,3,4,5,6,7] W
 have d:=y0 j
 have Y:gQ k.es k.K.length k.c.f:=(yy W (i:=6) rfl)
 have U:=(o6 S.j4 Z).1
 have ab:=Vk.CP Y (T:=T) U
 refine fR d 2 ?_
 refine iz d (fun b C D E e=>?_)
 refine gJ e 3 ?_
 refine rgs (Γ:=Nat) mixed [[],[0],[],[2],[],[2,3,4],[],[0,1,2,3,4,5,6],[0,1,2,3,4,5,6,7],[0,1,2,3,4,5,6,7,8],[0,1,2,3,4,5,6,7,8],[],[0,1,2,3,4,5,6,7,8,9,11],[0,1,2,3,4,5,6,7,8,9,10,11,12]] [11,12] d_ [fun _=>(.pointer (some ⟨b,7,none⟩)),fun _=>(Zb k.cb),fun _=>(Zb b),fun _=>k.iv,fun _=>(Zo u),fun _=>(Za (gH k.K u:Int)),fun _=>(Za T),fun _=>(MP ((k.gM T (gH k.K u):Nat):Int) ((k.nN T (gH k.K u):Nat):Int)),fun _=>(MP ((k.gM T (gH k.K u):Nat):Int) ((k.nN T (gH k.K u):Nat):Int)),fun _=>(B4 ((k.gM T (gH k.K u):Nat):Int) ((k.nN T (gH k.K u):Nat):Int)),fun _=>Zc,fun a=>(Zb a),fun _=>undef,fun _=>Zc] [(fun a=>[blk b 71 (rI k k.K.length),blk N 27 (Zt u),blk O 2 (Ze T),blk P 35 vN,fM ij k.iv 27 1 k.K,fM gh k.lv 3 1 ((Zl k).l),fM gh k.rv 3 1 ((Zl k).r),fM gh k.pv 3 1 ((Zl k).p),fM gh k.hv 2 1 ((Zl k).h),fM fW k.sv 3 1 ((Zl k).s),(sJ k k.K.length),(qg k k.K.length)],fun _ _=>True),(fun a=>[blk a 87 vG,blk b 71 (rI k k.K.length),blk N 27 (Zt u),blk O 2 (Ze T),blk P 35 vN,fM ij k.iv 27 1 k.K,fM gh k.lv 3 1 ((Zl k).l),fM gh k.rv 3 1 ((Zl k).r),fM gh k.pv 3 1 ((Zl k).p),fM gh k.hv 2 1 ((Zl k).h),fM fW k.sv 3 1 ((Zl k).s),(sJ k k.K.length),(qg k k.K.length)],fun _ _=>True),(fun a=>[blk a 87 (Zp ((k.gM T (gH k.K u):Nat):Int) ((k.nN T (gH k.K u):Nat):Int)),blk b 71 (rI k k.K.length),blk N 27 (Zt u),blk O 2 (Ze T),blk P 35 vN,fM ij k.iv 27 1 k.K,fM gh k.lv 3 1 ((Zl k).l),fM gh k.rv 3 1 ((Zl k).r),fM gh k.pv 3 1 ((Zl k).p),fM gh k.hv 2 1 ((Zl k).h),fM fW k.sv 3 1 ((Zl k).s),(sJ k k.K.length),(qg k k.K.length)],fun _ _=>True)] 0 _ rfl e (fun _ _=>trivial) ?_ (fun a=>rfl) rfl ?_
 . skip
   refine' FU 5 ?_
   refine Kg rfl rfl rfl rfl rfl (fun a M F Q=>qc rfl rfl (sM rfl Av) (CR.mono (AX k.iv k.K u M (Sl.any (iW F 4 rfl)) S.j4 o_) fun _ _ h=>⟨h.1,⟨F.grow h.2,trivial⟩⟩)) (fun a M F Q=>qc rfl rfl (sM rfl Av) (CR.mono (AX k.iv k.K u M (Sl.any (iW F 5 rfl)) S.j4 o_) fun _ _ h=>⟨h.1,⟨F.grow h.2,trivial⟩⟩)) ?_
   refine' FU 1 ?_
   refine Kg rfl rfl rfl rfl rfl (fun a M F Q=>qc rfl rfl (sM rfl OZ) (CR.mono (N7 k.cb k.K.length k.es k.c M (tj.of (ye F 10 rfl)) o_ (gH k.K u) U T) fun _ _ h=>⟨h.1,⟨F.grow h.2,trivial⟩⟩)) (fun a M F Q=>qc rfl rfl (sM rfl OZ) (CR.mono (N7 k.cb k.K.length k.es k.c M (tj.of (ye F 11 rfl)) o_ (gH k.K u) U T) fun _ _ h=>⟨h.1,⟨F.grow h.2,trivial⟩⟩)) ?_
   refine' FU 3 ?_
   refine Kf rfl rfl rfl rfl (fun a M F Q=>FA (cs:=vG) rfl DD rfl F (fun m _ h=>⟨m,⟨h,trivial⟩,rfl,kP rfl sT⟩)) (Kf rfl rfl rfl rfl (fun a M F Q=>JQ 0 rfl rfl rfl rfl DD rfl rfl F rfl rfl rfl rfl (fun _ h=>⟨a,⟨h,trivial⟩,rfl,l8.refl _ _ _⟩)) ?_)
   refine' FU 1 ?_
   exact Ru
 rintro a G g -
 refine Km tt none g 1 ?_
 refine kW mixed [([0,1,2,3,4,5,6,7,8],[1,3,5,7]),([9,10],[7])] [11,12] g (fun H o=>j3 ?_)
 refine jY o 10 fun I q=>?_
 refine kR (j3 ?_)
 refine jY q 3 fun J t=>?_
 refine kR (lE ?_)
 refine jY t 3 fun L v=>?_
 refine i6 Tryz.results26 ?_
 have y:=yg [2,3,4,0,1,5,6,7,8,9,10,11,12] v
 have z:=yc [_,_,_] _ y
 have A:=yg [3,4,5,6,7,8,9,10,0,1,2] z
 have B:=yp (p:=Vk.ok k) (yc [_,_,_,_,_,_,_,_] _ A) S
 exact⟨rfl,(fJ k.K (k.gM T (gH k.K u)),k.nN T (gH k.K u)),rfl,yn (yc [_,_] _ B)⟩
theorem yY(c:WC)(b a:Nat)(s:WW)(cs:List Value)(w:World)(g:Own (Zy b ((.pointer (some ⟨a,0,none⟩)) :: cs) c a s) w)(id:Int)(h:s.u.t.cnt id=0):CR ya 18 (Z4 b id) w (fun r w' => r = .bool true/\fZ (Zy b ((.pointer (some ⟨a,0,none⟩)) :: cs) c a s) w w' (Zy b ((.pointer (some ⟨a,0,none⟩)) :: cs) c a s)) :=
 CR.mono (TY c b a s cs w g id) fun r w' ⟨B,d,e,f⟩=>⟨by rw[d,e.2 h],f⟩
theorem Ly(c:WC)(b a:Nat)(s:WW)(cs:List Value)(w:World)(g:Own (Zy b ((.pointer (some ⟨a,0,none⟩)) :: cs) c a s) w)(id:Int)(i:s.u.t.cnt id≠0):CR ya 18 (Z4 b id) w (fun r w' => r = .bool false/\fZ (Zy b ((.pointer (some ⟨a,0,none⟩)) :: cs) c a s) w w' (Zy b ((.pointer (some ⟨a,0,none⟩)) :: cs) c a s)) :=
 CR.mono (TY c b a s cs w g id) fun r w' ⟨B,d,e,f⟩=>⟨by rw[d,Bool.eq_false_iff.2 (fun h=>i (e.1 h))],f⟩
theorem afP(c:WC)(F wb:Nat)(s:WW)(w:World)(hO:Own (D5 F wb c s) w)(ag:c.fN<=12)(u T:Int)(hu:s.u.t.cnt u=0) :
 CR ya 9 (Ev F u T) w (fun r w' => ∃ (k:Vk) (x:Int×Nat),r = .tuple #[.agg (vM x.1 x.2),.int .i64 0]/\(Vk.of s k/\x=(fJ k.K (k.gM T (gH k.K u)),k.nN T (gH k.K u)))/\fZ (D5 F wb c s) w w' (Na F wb (IntKind.u64.wrap (s.added+s.jk)) k k.K.length c s)):=by
 refine en Tryz.func9 Tryz.ntmps9 ?_
 have ae:=(yr hO).unpack
 refine fR ae 2 ?_
 refine iz ae (fun b P Q R q=>?_)
 refine iz q (fun d S U V y=>?_)
 refine iO y (fun W z X Y f=>?_)
 refine fK f 7 ?_
 refine cl uG (u7 F wb _ z (ye f 3 rfl)) ?_
 rintro _ A ⟨rfl,ht⟩
 have h:=yk 3 f ht
 have B:=yg [3,4,0,1,2] h
 have j:=yc [_,_] _ B
 refine fK h 11 ?_
 refine cl tH (yY c F wb s _ A (ye j 0 rfl) u hu) ?_
 rintro _ Z ⟨rfl,C⟩
 have l:=(yi j C)
 refine fK l 8 ?_
 refine iO l (fun e D aa ab m=>?_)
 refine fK m 5 ?_
 refine nF (vf:=[]) (vc:=(vO b d e)) rfl rfl rfl ?_
 have E:=yg [5,4,0,1,2,3] m
 have G:=yc [_,_,_] _ E
 have H:=yg [1,2,0,3] G
 have n:=yc [_,_,_] _ H
 refine cl Cu (Uc c F wb s D (gq [blk b 27 (Zt u),blk d 2 (Ze T),blk e 35 vN]) (fun x:Int×Nat=>gq [blk b 27 (Zt u),blk d 2 (Ze T),blk e 35 (xK x.1 x.2)]) (fun k x=>x=(fJ k.K (k.gM T (gH k.K u)),k.nN T (gH k.K u))) 26 (vO b d e) OY (fun k w1 af hO=>N2 b d e u T k w1 hO (af.mem hu)) (ye n 0 rfl) ag) ?_
 rintro _ ac ⟨I,a,rfl,J,L⟩
 have M:=(yi n L)
 have N:=yg [3,0,1,2,4] M
 have p:=y0 N
 refine fK p 5 ?_
 refine j8 6 p (fun ad g=>?_)
 refine fQ g 4 ?_
 refine oc (v:=(vL a.1 a.2)) (v' := Zc) Tryz.results9 (nM (cs:=(xK a.1 a.2)) rfl Bp rfl DA rfl (lN g (i:=6) (o:=0) (vs:=(xK a.1 a.2)) rfl rfl)) (oK rfl) ?_
 have O:=yg [3,4,5] g
 exact⟨I,a,rfl,J,yn (yc [_,_,_] _ O)⟩
theorem afO(c:WC)(I F:Nat)(s:WW)(cs:List Value)(w:World)(K:Own (Zy I ((.pointer (some ⟨F,0,none⟩)) :: cs) c F s) w)(u T:Int)(M:s.u.t.cnt u≠0) :
 CR ya 9 (Ev I u T) w (fun r w' => r = .tuple #[.agg HF,.int .i64 13]/\fZ (Zy I ((.pointer (some ⟨F,0,none⟩)) :: cs) c F s) w w' (Zy I ((.pointer (some ⟨F,0,none⟩)) :: cs) c F s)):=by
 refine en Tryz.func9 Tryz.ntmps9 ?_
 have J:=(yr K).unpack
 refine fR J 2 ?_
 refine iz J (fun n p q x g=>?_)
 refine iz g (fun y z A B h=>?_)
 refine iO h (fun C j D E a=>?_)
 refine fK a 7 ?_
 refine cl uG (u7 I F _ j (ye a 3 rfl)) ?_
 rintro _ k ⟨rfl,L⟩
 have b:=yk 3 a L
 have l:=yg [3,4,0,1,2] b
 have d:=yc [_,_] _ l
 refine fK b 11 ?_
 refine cl tH (Ly c I F s _ k (ye d 0 rfl) u M) ?_
 rintro _ G ⟨rfl,m⟩
 have e:=(yi d m)
 refine fK e 6 ?_
 refine jh (pvs:=[]) (v:=.agg HF) rfl rfl (jx [] DA acR rfl trivial rfl) (jY e 6 fun H f=>?_)
 refine oc (v:=(.agg HF)) (v' := B5) Tryz.results9 (nM (cs:=vN) rfl Bp rfl DA rfl (lN f (i:=2) (o:=0) (vs:=vN) rfl rfl)) (oK rfl) ?_
 exact⟨rfl,yn (yc [_,_] _ f)⟩
end
section
open Go Go.Sx
theorem Own.still{R:fS}{w w' : World}(h:Own R w)(a:gz [] w w'):fZ R w w' R:=yo (yq (yr h) a) zd
def Vk.mm(k:Vk)(u v:Nat)(x:Int×Bool):Prop:=(u=v->x.1 = -9223372036854775808/\x.2=true) /\
 (u≠v->∃ z,mP (fU k.es k.K.length k.q.f).p u v z x.2/\(x.2=true->x.1=fJ (fU k.es k.K.length k.q.f).h z)/\(x.2=false->x.1=0))
theorem abf(k:Vk)(w:World)(a:Own (qg k k.K.length) w)(f:k.K.length<=4096){o:Obj}(e:(js o).holds w)(u v:Nat)(g:u<k.K.length)(hv:v<k.K.length) :
 CR ya 21 (Zr k.mb u v) w (fun r w' => ∃ (z:Int) (y:Bool),r = .tuple (Z7 z y)/\k.mm u v (z,y)/\fZ (qg k k.K.length) w w' (qg k k.K.length)) :=
 CR.mono (abg k.mb k.K.length k.es k.q w (uw.of a) f e u v g hv) fun r w' ⟨z,y,b,c,d⟩=>⟨z,y,b,c,Own.still a d⟩
theorem Q8(M N O L:Nat){o:Obj}(a a2:Int)(k:Vk)(w:World)(Q:Own (M7 k M a N a2 O L (js o)) w)(S:a∈k.K)(T:a2∈k.K) :
 CR ya 20 #[(Es k k.K.length),(Zb M),(Zb N),(Zb O),(Zb L)] w (fun r w' => r = .tuple #[]/\∃ x:Int×Bool,k.mm (gH k.K a) (gH k.K a2) x/\fZ (M7 k M a N a2 O L (js o)) w w' (gq [Vk.R k,(gq (HM M a N a2 O x.1 L x.2 (js o)))])):=by
 refine en Tryz.func20 Tryz.ntmps20 ?_
 have P:=Own.of Q
 have F:=su P
 have Y:=F.n
 have W:=(jP P).unpack
 have g:=yg [8,0,1,2,3,4,5,6,7] W
 have e:=y0 g
 have U:=(o6 F.j4 S).1
 have V:=(o6 F.j4 T).1
 refine fR e 2 ?_
 refine iz e (fun D E G H f=>?_)
 refine gJ f 2 ?_
 refine kW mixed [([0,1,2,3,4,6,7,8,5],[1,7,8]),([9],[1])] [10,11,12,13,14,15] f (fun h c=>j3 ?_)
 refine fK c 8 ?_
 refine cl Av (AX k.iv k.K a h (Sl.any (iW c 6 rfl)) F.j4 o_) ?_
 rintro _ j ⟨rfl,l⟩
 have d:=yq c l
 refine fQ d 1 ?_
 refine kR (j3 ?_)
 refine cl Av (AX k.iv k.K a2 j (Sl.any (iW d 6 rfl)) F.j4 o_) ?_
 rintro _ m ⟨rfl,q⟩
 have b:=yq d q
 refine fQ b 1 ?_
 refine kR (lE ?_)
 refine cl Xw (abf k m (ye b 13 rfl) o_ (St.at b (i:=5) rfl) (gH k.K a) (gH k.K a2) U V) ?_
 rintro _ I ⟨s,t,rfl,u,X⟩
 have v:=yk 13 b X
 refine jY v 6 fun J y=>?_
 refine i6 Tryz.results20 ?_
 have z:=yg [1,2,3,4,5,0,6,7,8,9,10,11,12,13] y
 have A:=yc [_,_,_,_,_] _ z
 have B:=yg [2,3,4,5,6,7,8,9,0,1] A
 have C:=yp (p:=Vk.ok k) (yc [_,_,_,_,_,_,_,_] _ B) F
 exact⟨rfl,(s,t),u,yn (yc [_,_] _ C)⟩
theorem TZ{o:Obj}(c:WC)(F T:Nat)(s:WW)(k:Vk)(ai:Vk.of s k)(b:Int)(w:World)(hO:Own (rH F T (IntKind.u64.wrap (s.added+s.jk)) k k.K.length b c s (js o)) w)(a a2:Int)(hu:s.u.t.cnt a=0)(ak:s.u.t.cnt a2=0) :
 CR ya 6 (tw F a a2) w (fun r w' => ∃ (x:Int×Bool),r = .tuple (Ei x.1 x.2)/\k.mm (gH k.K a) (gH k.K a2) x/\fZ (rH F T (IntKind.u64.wrap (s.added+s.jk)) k k.K.length b c s (js o)) w w' (rH F T (IntKind.u64.wrap (s.added+s.jk)) k k.K.length b c s (js o))):=by
 refine en Tryz.func6 Tryz.ntmps6 ?_
 have aj:=(yr hO).unpack
 refine fR aj 2 ?_
 refine iz aj (fun d V W X A=>?_)
 refine iz A (fun e B Y Z h=>?_)
 refine fK h 9 ?_
 refine cl uG (u7 F T _ B (ye h 2 rfl)) ?_
 rintro _ C ⟨rfl,ht⟩
 have j:=yk 2 h ht
 have D:=yg [2,4,0,1,3,5] j
 have l:=yc [_,_] _ D
 refine fK j 11 ?_
 refine cl tH (yY c F T s _ C (ye l 0 rfl) a hu) ?_
 rintro _ E ⟨rfl,G⟩
 have m:=(yi l G)
 have n:=yc [_,_] _ m
 refine fK m 4 ?_
 refine cl tH (yY c F T s _ E (ye n 0 rfl) a2 ak) ?_
 rintro _ aa ⟨rfl,H⟩
 have p:=(yi n H)
 refine fK p 9 ?_
 refine iO p (fun f ab ac ad q=>?_)
 refine fK q 4 ?_
 refine iO q (fun g I ae af y=>?_)
 refine fK y 5 ?_
 refine nF (vf:=[]) (vc:=(Em d e f g)) rfl rfl rfl ?_
 have J:=yg [5,4,1,0,7,2,3,6] y
 have L:=yc [_,_,_,_,_] _ J
 have M:=yg [1,3,2,0] L
 have z:=yc [_,_,_,_] _ M
 refine cl Cu (LB c F T s I (Ng d a e a2 f g (js o)) (fun x:Int×Bool=>gq (HM d a e a2 f x.1 g x.2 (js o))) (fun k x=>k.mm (gH k.K a) (gH k.K a2) x) 20 (Em d e f g) OT (fun k w1 ai hO=>Q8 d e f g a a2 k w1 hO (ai.mem hu) (ai.mem ak)) k ai b (ye z 0 rfl)) ?_
 rintro _ ag ⟨i,rfl,N,O⟩
 have P:=(yi z O)
 have Q:=yg [3,0,1,2] P
 have R:=y0 Q
 refine jY R 12 fun ah S=>?_
 refine qV (v:=(Za i.1)) (v' := (.bool i.2)) (v'' := Zc) Tryz.results6 rfl rfl rfl ?_
 have U:=yg [5,6,7,4] S
 exact⟨i,rfl,N,yn (yc [_,_,_,_] _ U)⟩
end
section
open Go Go.Sx
theorem afT{o:Obj}(c:WC)(F T:Nat)(s:WW)(w:World)(hO:Own (D6 F T c s (js o)) w)(an:c.fN<=12)(a a2:Int)(hu:s.u.t.cnt a=0)(am:s.u.t.cnt a2=0) :
 CR ya 6 (tw F a a2) w (fun r w' => ∃ (k:Vk) (z:Int) (y:Bool),r = .tuple (Ei z y)/\(Vk.of s k/\k.mm (gH k.K a) (gH k.K a2) (z,y))/\fZ (D6 F T c s (js o)) w w' (M9 F T (IntKind.u64.wrap (s.added+s.jk)) k k.K.length c s (js o))):=by
 refine en Tryz.func6 Tryz.ntmps6 ?_
 have al:=(yr hO).unpack
 refine fR al 2 ?_
 refine iz al (fun b X Y Z B=>?_)
 refine iz B (fun d C aa ab h=>?_)
 refine fK h 9 ?_
 refine cl uG (u7 F T _ C (ye h 2 rfl)) ?_
 rintro _ D ⟨rfl,ht⟩
 have i:=yk 2 h ht
 have E:=yg [2,3,0,1,4] i
 have j:=yc [_,_] _ E
 refine fK i 11 ?_
 refine cl tH (yY c F T s _ D (ye j 0 rfl) a hu) ?_
 rintro _ G ⟨rfl,H⟩
 have l:=(yi j H)
 have m:=yc [_,_] _ l
 refine fK l 4 ?_
 refine cl tH (yY c F T s _ G (ye m 0 rfl) a2 am) ?_
 rintro _ ac ⟨rfl,I⟩
 have n:=(yi m I)
 refine fK n 9 ?_
 refine iO n (fun e ad ae af p=>?_)
 refine fK p 4 ?_
 refine iO p (fun f J ag ah q=>?_)
 refine fK q 5 ?_
 refine nF (vf:=[]) (vc:=(Em b d e f)) rfl rfl rfl ?_
 have L:=yg [5,4,1,0,6,2,3] q
 have M:=yc [_,_,_,_,_] _ L
 have N:=yg [1,2,0] M
 have A:=yc [_,_,_] _ N
 refine cl Cu (Uc c F T s J (Ng b a d a2 e f (js o)) (fun x:Int×Bool=>gq (HM b a d a2 e x.1 f x.2 (js o))) (fun k x=>k.mm (gH k.K a) (gH k.K a2) x) 20 (Em b d e f) OT (fun k w1 ak hO=>Q8 b d e f a a2 k w1 hO (ak.mem hu) (ak.mem am)) (ye A 0 rfl) an) ?_
 rintro _ ai ⟨O,g,rfl,P,Q⟩
 have R:=(yi A Q)
 have S:=yg [3,0,1,2] R
 have U:=y0 S
 refine jY U 12 fun aj V=>?_
 refine qV (v:=(Za g.1)) (v' := (.bool g.2)) (v'' := Zc) Tryz.results6 rfl rfl rfl ?_
 have W:=yg [5,6,7,4] V
 exact⟨O,g.1,g.2,rfl,P,yn (yc [_,_,_,_] _ W)⟩
theorem afR(c:WC)(A z:Nat)(s:WW)(cs:List Value)(w:World)(C:Own (Zy A ((.pointer (some ⟨z,0,none⟩)) :: cs) c z s) w)(a a2:Int)(E:s.u.t.cnt a≠0) :
 CR ya 6 (tw A a a2) w (fun r w' => r = .tuple HC/\fZ (Zy A ((.pointer (some ⟨z,0,none⟩)) :: cs) c z s) w w' (Zy A ((.pointer (some ⟨z,0,none⟩)) :: cs) c z s)):=by
 refine en Tryz.func6 Tryz.ntmps6 ?_
 have B:=(yr C).unpack
 refine fR B 2 ?_
 refine iz B (fun l m n o g=>?_)
 refine iz g (fun p h q x b=>?_)
 refine fK b 9 ?_
 refine cl uG (u7 A z _ h (ye b 2 rfl)) ?_
 rintro _ i ⟨rfl,D⟩
 have d:=yk 2 b D
 have j:=yg [2,3,0,1] d
 have e:=yc [_,_] _ j
 refine fK d 11 ?_
 refine cl tH (Ly c A z s _ i (ye e 0 rfl) a E) ?_
 rintro _ y ⟨rfl,k⟩
 have f:=(yi e k)
 refine fQ f 19 ?_
 refine qV (v:=Zc) (v' := Zn) (v'' := B5) Tryz.results6 rfl rfl rfl ?_
 exact⟨rfl,yn (yc [_,_] _ f)⟩
theorem afS(c:WC)(E D:Nat)(s:WW)(cs:List Value)(w:World)(G:Own (Zy E ((.pointer (some ⟨D,0,none⟩)) :: cs) c D s) w)(a a2:Int)(I:s.u.t.cnt a=0)(J:s.u.t.cnt a2≠0) :
 CR ya 6 (tw E a a2) w (fun r w' => r = .tuple HC/\fZ (Zy E ((.pointer (some ⟨D,0,none⟩)) :: cs) c D s) w w' (Zy E ((.pointer (some ⟨D,0,none⟩)) :: cs) c D s)):=by
 refine en Tryz.func6 Tryz.ntmps6 ?_
 have F:=(yr G).unpack
 refine fR F 2 ?_
 refine iz F (fun p q x y i=>?_)
 refine iz i (fun z j A B b=>?_)
 refine fK b 9 ?_
 refine cl uG (u7 E D _ j (ye b 2 rfl)) ?_
 rintro _ k ⟨rfl,H⟩
 have d:=yk 2 b H
 have l:=yg [2,3,0,1] d
 have e:=yc [_,_] _ l
 refine fK d 11 ?_
 refine cl tH (yY c E D s _ k (ye e 0 rfl) a I) ?_
 rintro _ m ⟨rfl,n⟩
 have f:=(yi e n)
 have g:=yc [_,_] _ f
 refine fK f 4 ?_
 refine cl tH (Ly c E D s _ m (ye g 0 rfl) a2 J) ?_
 rintro _ C ⟨rfl,o⟩
 have h:=(yi g o)
 refine fQ h 14 ?_
 refine qV (v:=Zc) (v' := Zn) (v'' := B5) Tryz.results6 rfl rfl rfl ?_
 exact⟨rfl,yn (yc [_,_] _ h)⟩
theorem T1(c:WC)(d b:Nat)(s:WW)(cs:List Value)(w:World)(e:Own (Zy d ((.pointer (some ⟨b,0,none⟩)) :: cs) c b s) w)(a a2:Int)(g:¬ (s.u.t.cnt a=0/\s.u.t.cnt a2=0)):CR ya 6 (tw d a a2) w (fun r w' => r = .tuple HC/\fZ (Zy d ((.pointer (some ⟨b,0,none⟩)) :: cs) c b s) w w' (Zy d ((.pointer (some ⟨b,0,none⟩)) :: cs) c b s)):=by
 by_cases h:s.u.t.cnt a=0
 . exact afS c d b s cs w e a a2 h fun f=>g ⟨h,f⟩
 . exact afR c d b s cs w e a a2 h
theorem afN(c:WC)(F wb:Nat)(s:WW)(k:Vk)(ae:Vk.of s k)(b:Int)(w:World)(hO:Own (tC F wb (IntKind.u64.wrap (s.added+s.jk)) k k.K.length b c s) w)(u T:Int)(hu:s.u.t.cnt u=0) :
 CR ya 9 (Ev F u T) w (fun r w' => ∃ (x:Int×Nat),r = .tuple #[.agg (vM x.1 x.2),.int .i64 0]/\x=(fJ k.K (k.gM T (gH k.K u)),k.nN T (gH k.K u))/\fZ (tC F wb (IntKind.u64.wrap (s.added+s.jk)) k k.K.length b c s) w w' (tC F wb (IntKind.u64.wrap (s.added+s.jk)) k k.K.length b c s)):=by
 refine en Tryz.func9 Tryz.ntmps9 ?_
 have af:=(yr hO).unpack
 refine fR af 2 ?_
 refine iz af (fun d P Q R y=>?_)
 refine iz y (fun e S U V z=>?_)
 refine iO z (fun W A X Y g=>?_)
 refine fK g 7 ?_
 refine cl uG (u7 F wb _ A (ye g 3 rfl)) ?_
 rintro _ B ⟨rfl,ht⟩
 have j:=yk 3 g ht
 have C:=yg [3,5,0,1,2,4] j
 have l:=yc [_,_] _ C
 refine fK j 11 ?_
 refine cl tH (yY c F wb s _ B (ye l 0 rfl) u hu) ?_
 rintro _ Z ⟨rfl,D⟩
 have m:=(yi l D)
 refine fK m 8 ?_
 refine iO m (fun f E aa ab n=>?_)
 refine fK n 5 ?_
 refine nF (vf:=[]) (vc:=(vO d e f)) rfl rfl rfl ?_
 have G:=yg [5,4,0,1,2,3,6] n
 have H:=yc [_,_,_] _ G
 have I:=yg [1,4,2,0,3] H
 have p:=yc [_,_,_,_] _ I
 refine cl Cu (LB c F wb s E (gq [blk d 27 (Zt u),blk e 2 (Ze T),blk f 35 vN]) (fun x:Int×Nat=>gq [blk d 27 (Zt u),blk e 2 (Ze T),blk f 35 (xK x.1 x.2)]) (fun k x=>x=(fJ k.K (k.gM T (gH k.K u)),k.nN T (gH k.K u))) 26 (vO d e f) OY (fun k w1 ae hO=>N2 d e f u T k w1 hO (ae.mem hu)) k ae b (ye p 0 rfl)) ?_
 rintro _ ac ⟨a,rfl,J,L⟩
 have M:=(yi p L)
 have N:=yg [3,0,1,2,4] M
 have q:=y0 N
 refine fK q 5 ?_
 refine j8 6 q (fun ad h=>?_)
 refine fQ h 4 ?_
 refine oc (v:=(vL a.1 a.2)) (v' := Zc) Tryz.results9 (nM (cs:=(xK a.1 a.2)) rfl Bp rfl DA rfl (lN h (i:=6) (o:=0) (vs:=(xK a.1 a.2)) rfl rfl)) (oK rfl) ?_
 have O:=yg [3,4,5] h
 exact⟨a,rfl,J,yn (yc [_,_,_] _ O)⟩
end
section
open Go Go.Sx
theorem YY(fN fL ob:Nat)(s:GW)(A:Nat->Nat->Prop)(key:Nat->Int)(w:World)(u:Own (GI.R fN fL ob s A key) w)(a b:Nat)(C:a<fN)(hb:b<fN) :
 CR ya 24 (Zr ob a b) w (fun r w' => ∃ B:Bool,r = .bool B/\(B=true↔Cn A (fL+a) (fL+b))/\fZ (GI.R fN fL ob s A key) w w' (GI.R fN fL ob s A key)):=by
 have F:=u.fact.vn
 have E:=u.fact.v2
 have D:=u.fact.en
 refine en Tryz.func24 Tryz.ntmps24 ?_
 have z:=Own.of u.un
 have y:s.ok fN fL:=u.fact
 refine qu z 9 fun i j=>?_
 have d:=yp (p:=GW.ok fN fL s) (yc [_,_,_,_] _ j) y
 refine cl Cy (CG fN fL ob s A key i (ye d 0 rfl) a o_) ?_
 rintro _ k ⟨rfl,x⟩
 have l:=yk 0 d x
 have f:=(jP l).unpack
 have g:=yp (p:=GW.ok fN fL s) (yc [_,_,_,_] _ f) y
 refine fK f 3 ?_
 refine cl Cy (CG fN fL ob s A key k (ye g 0 rfl) b o_) ?_
 rintro _ m ⟨rfl,x⟩
 have n:=yk 0 g x
 have c:=(jP n).unpack
 refine fK c 12 ?_
 refine ar (e:=((fL+a:Nat):Int)) rfl rfl rfl rfl iZ (fK c 5 ?_)
 refine ar (e:=((fL+b:Nat):Int)) rfl rfl rfl rfl iZ (cl E0 (UH s.fb s.nb (fL+fN+1) A key m (ye c 1 rfl) o_ (fL+a) (fL+b) o_ o_) ?_)
 rintro _ t ⟨o,rfl,q,x⟩
 have h:=yk 1 c x
 refine fQ h 5 ?_
 refine gp (v:=(.bool o)) Tryz.results24 rfl ?_
 exact⟨_,rfl,q,yo (yp (p:=GW.ok fN fL s) (yc [_,_,_,_] _ h) y) zd⟩
theorem YT(fN fL ob:Nat)(s:GW)(w:World)(f:Own (GW.R fN fL ob s) w)(a b:Nat)(h:a<fN)(hb:b<fN) :
 CR ya 24 (Zr ob a b) w (fun r w' => ∃ B:Bool,r = .bool B/\(B=true↔Cn (vC (gF s.m)) a b)/\fZ (GW.R fN fL ob s) w w' (GW.R fN fL ob s)):=by
 obtain⟨A,key,⟨c,j,i⟩,g⟩:=FV f
 exact CR.mono (YY fN fL ob s A key w g a b h hb) fun r w' ⟨B,e,d,k⟩=>⟨B,e,d.trans c.conn,GG k ⟨c,j,i⟩⟩
theorem T8(c:WC)(F:Nat)(s:WW)(w:World)(J:Own (WW.R c F s) w)(a b:Int) :
 CR ya 7 (tw F a b) w (fun r w' => ∃ (B:Bool) (e:Int),r = .tuple #[.bool B,.int .i64 e]/\(e=0/\(∃ L M,s.u.t.kN a L true/\s.u.t.kN b M true/\(B=true↔Cn (vC (gF s.g.m)) L M))\/e=13/\B=false/\¬ (s.u.t.cnt a=0/\s.u.t.cnt b=0))/\fZ (WW.R c F s) w w' (WW.R c F s)):=by
 refine en Tryz.func7 Tryz.ntmps7 ?_
 have K:=Own.of J.un
 have D:s.ok c:=J.fact
 have O:=D.w1
 have P:=D.wi
 have Q:=D.n0
 have S:=D.n1
 have k:=yp (p:=s.ok c) (yc [_,_,_,_,_] _ K) D
 refine fR K 11 ?_
 refine cl OX (Ua c F s w (ye k 0 rfl) a b) ?_
 rintro _ o ⟨f,h,j,rfl,l,H⟩
 have q:=yk 0 k H
 have d:=(jP q).unpack
 refine fK d 13 ?_
 by_cases z:(j:Int)=(0:Int)
 . have E:fV.ok c.fN c.fL s.u:=(yy d (i:=2) rfl)
   have N:=D.v2
   have G:j=0/\s.u.t.kN a f true/\s.u.t.kN b h true:=l.elim (fun C=>C) (fun C=>by exfalso;omega)
   have T:f<c.fN:=by have C:=TW.kN.lt G.2.1 E.tok (by rw[E.tn];omega);rw[E.tn]at C;exact C
   have U:h<c.fN:=by have C:=TW.kN.lt G.2.2 E.tok (by rw[E.tn];omega);rw[E.tn]at C;exact C
   refine fK d 14 ?_
   refine cl XB (YT c.fN c.fL s.ob s.g o (ye d 4 rfl) f h o_ o_) ?_
   rintro _ A ⟨x,rfl,y,H⟩
   have n:=yk 4 d H
   refine fQ n 5 ?_
   refine iF (v:=(.bool x)) (v' := Zc) Tryz.results7 rfl rfl ?_
   exact⟨_,0,rfl,.inl ⟨rfl,f,h,G.2.1,G.2.2,y⟩,yo (yp (p:=s.ok c) (yc [_,_,_,_,_] _ n) D) zd⟩
 . refine fQ d 13 ?_
   refine iF (v:=Zn) (v' := (Za j)) Tryz.results7 rfl rfl ?_
   have I:j=13/\¬ (s.u.t.cnt a=0/\s.u.t.cnt b=0):=l.elim (fun C=>by exfalso;omega) (fun C=>C)
   exact⟨_,_,rfl,.inr ⟨I.1,rfl,I.2⟩,yo (yp (p:=s.ok c) (yc [_,_,_,_,_] _ d) D) zd⟩
end
section
open Go Go.Sx
structure ku where
 a:Int
 b:Int
instance:Inhabited ku:=⟨⟨0,0⟩⟩
def ku.cells(x:ku):List Value:=[.int .u64 x.a,.int .u64 x.b]
abbrev Vk.mg(k:Vk):List Mg:=nY k.es k.K.length k.f k.f.length
def Vk.mI(k:Vk)(j:Nat):List ku:=(k.mg.take j).map fun m=>⟨fJ k.K m.a,fJ k.K m.b⟩
def Vk.mH(k:Vk)(j:Nat):List Int:=(k.mg.take j).map Mg.h
abbrev M8 a (b:Nat) c (d:Nat) e f g:=(gq [Vk.R a,gq [blk b 39 [c],blk d 40 [e],fM ku.cells c 46 2 f,fM gh e 2 1 g]]:fS)
abbrev Nb(a b:Nat)(c:Int)(d:Vk)(e f:Int) g h i j k l:=(gq [blk a 102 [.pointer (some ⟨b,0,none⟩),.bool true,.int .u64 c,d.iv,.int .i64 e,d.lv,d.rv,d.pv,d.hv,d.sv,.pointer (some ⟨d.cb,0,none⟩),.pointer (some ⟨d.mb,0,none⟩),.int .i64 f],Vk.R d,WW.R g b h,fM ku.cells i 46 2 j,fM gh k 2 1 l]:fS)
abbrev BZ(a:Nat) b (c:Nat) d e f g h (i:Nat) j (k:Nat) l m n o p (q r:Nat) s (t:nU) u v x:=([blk a 39 [b],blk c 40 [d],fM ku.cells b 46 2 e,fM gh d 2 1 f,fM Mg.cells g 96 5 h,blk i 71 (Cc j k l m n o p q r),fM ij j 27 1 s,fM gh l 3 1 t.l,fM gh m 3 1 t.r,fM gh n 3 1 t.p,fM gh o 2 1 t.h,fM fW p 3 1 t.s,Cv.R q k u v,Mf.R r k u x]:List fS)
abbrev MB a (b:Nat) (c d e f:Int) (g:Nat) h (i:Nat) j k l m n o (p:Nat) q (r:Nat) s t u v x (y z:Nat) aa (ab:nU) ac ad ae:=([a,blk b 96 (Ca c d e f),blk g 39 [h],blk i 40 [j],fM ku.cells k 46 2 l,fM gh j 2 1 m,fM Mg.cells n 96 5 o,blk p 71 (Cc q r s t u v x y z),fM ij q 27 1 aa,fM gh s 3 1 ab.l,fM gh t 3 1 ab.r,fM gh u 3 1 ab.p,fM gh v 2 1 ab.h,fM fW x 3 1 ab.s,Cv.R y r ac ad,Mf.R z r ac ae]:List fS)
abbrev MU(a:Nat) b (c:Nat) (d e f g:Int) (h:Nat) i (j:Nat) k l m n o p (q:Nat) r (s:Nat) t u v x y (z A:Nat) ab (w:nU) ad ae af:=([ig .i64 (Z6 a) 2 b,blk c 96 (Ca d e f g),blk h 39 [i],blk j 40 [k],fM ku.cells i 46 2 l,fM gh m 2 1 n,fM Mg.cells o 96 5 p,blk q 71 (Cc r s t u v x y z A),fM ij r 27 1 ab,fM gh t 3 1 w.l,fM gh u 3 1 w.r,fM gh v 3 1 w.p,fM gh x 2 1 w.h,fM fW y 3 1 w.s,Cv.R z s ad ae,Mf.R A s ad af]:List fS)
theorem Vk.abi{k:Vk}(h:gQ k.es k.K.length k.f){i:Nat}(hi:i<k.f.length):(fJ k.mg i).a<k.K.length/\(fJ k.mg i).b<k.K.length:=by
 rw[iD (show k.mg[i]? = some (JX k.es k.K.length k.f i) by show ((List.range k.f.length).map _)[i]? = _;simp[hi])]
 have:=h.st hi
 show nA _ _ _ _<_/\nB _ _ _ _<_
 omega
theorem Vk.aa0{k:Vk}{j:Nat}(h:j<k.mg.length):k.mI (j+1)=k.mI j++[⟨fJ k.K (fJ k.mg j).a,fJ k.K (fJ k.mg j).b⟩]:=Gq _ h
theorem Vk.aaY{k:Vk}{j:Nat}(h:j<k.mg.length):k.mH (j+1)=k.mH j++[(fJ k.mg j).h]:=Gq _ h
theorem Vk.aaZ{k:Vk}{j:Nat}:(k.mI j).length<=j:=by simp[Vk.mI];omega
theorem Vk.aaX{k:Vk}{j:Nat}:(k.mH j).length<=j:=by simp[Vk.mH];omega
theorem aba(b2 b3:Nat)(k:Vk)(w:World)(hO:Own (Hz k b2 b3) w) :
 CR ya 28 #[(Es k k.K.length),(Zb b2),(Zb b3)] w (fun r w' => r = .tuple #[]/\∃ x:Value×Value×List ku×List Int,(x.2.2.1=k.mI k.mg.length/\x.2.2.2=k.mH k.mg.length)/\fZ (Hz k b2 b3) w w' (M8 k b2 x.1 b3 x.2.1 x.2.2.1 x.2.2.2)):=by
 refine enter (vs:=[(Es k k.K.length),(Zb b2),(Zb b3)]) Tryz.func28 rfl Tryz.ntmps28 rfl ?_
 have aI:St _ [Vk.R k,(Hw b2 b3)] w:=Own.of hO
 have T:=su aI
 have aR:=T.n
 have aL:St _ [fM ij k.iv 27 1 k.K,fM gh k.lv 3 1 ((fU k.es k.K.length k.f).l),fM gh k.rv 3 1 ((fU k.es k.K.length k.f).r),fM gh k.pv 3 1 ((fU k.es k.K.length k.f).p),fM gh k.hv 2 1 ((fU k.es k.K.length k.f).h),fM fW k.sv 3 1 ((fU k.es k.K.length k.f).s),(sJ k k.K.length),(qg k k.K.length),(Hw b2 b3)] w:=(jP aI).unpack
 have S:=yg [8,0,1,2,3,4,5,6,7] aL
 have M:St _ [blk b2 39 qh,blk b3 40 qh,fM ij k.iv 27 1 k.K,fM gh k.lv 3 1 ((fU k.es k.K.length k.f).l),fM gh k.rv 3 1 ((fU k.es k.K.length k.f).r),fM gh k.pv 3 1 ((fU k.es k.K.length k.f).p),fM gh k.hv 2 1 ((fU k.es k.K.length k.f).h),fM fW k.sv 3 1 ((fU k.es k.K.length k.f).s),(sJ k k.K.length),(qg k k.K.length)] w:=y0 S
 have aK:k.mg.length=k.f.length:=QL
 have aO:=T.fg.f.room T.fg.g
 refine fR M 2 ?_
 refine iz M (fun e U am an t=>?_)
 refine fK t 6 ?_
 refine jN (vl:=(El k.K.length k.lv k.rv k.pv k.hv k.sv)) rfl rfl XE (Wn k.es k.K.length k.f T.fg o_ k.lv k.rv k.pv k.hv k.sv U ⟨(vk t (i:=4) rfl f_).any,(vk t (i:=5) rfl f_).any,(vk t (i:=6) rfl f_).any,(vk t (i:=7) rfl f_).any,(vk t (i:=8) rfl f_).any⟩) ?_
 rintro _ D ⟨d,rfl,ht⟩
 have A:St _ [fM Mg.cells d 96 5 k.mg,blk e 71 (rI k k.K.length),blk b2 39 qh,blk b3 40 qh,fM ij k.iv 27 1 k.K,fM gh k.lv 3 1 ((fU k.es k.K.length k.f).l),fM gh k.rv 3 1 ((fU k.es k.K.length k.f).r),fM gh k.pv 3 1 ((fU k.es k.K.length k.f).p),fM gh k.hv 2 1 ((fU k.es k.K.length k.f).h),fM fW k.sv 3 1 ((fU k.es k.K.length k.f).s),(sJ k k.K.length),(qg k k.K.length)] D:=(kf (R:=fM Mg.cells d 96 5 k.mg) t ht)
 refine fK A 10 ?_
 refine jA (m:=k.mg.length) 0 rfl rfl G5 A rfl ?_
 have V:St _ [fM ku.cells Zg 46 2 (k.mI 0),fM Mg.cells d 96 5 k.mg,blk e 71 (rI k k.K.length),blk b2 39 qh,blk b3 40 qh,fM ij k.iv 27 1 k.K,fM gh k.lv 3 1 ((fU k.es k.K.length k.f).l),fM gh k.rv 3 1 ((fU k.es k.K.length k.f).r),fM gh k.pv 3 1 ((fU k.es k.K.length k.f).p),fM gh k.hv 2 1 ((fU k.es k.K.length k.f).h),fM fW k.sv 3 1 ((fU k.es k.K.length k.f).s),(sJ k k.K.length),(qg k k.K.length)] D:=rq A 46 2
 have W:St _ [fM gh Zg 2 1 (k.mH 0),fM ku.cells Zg 46 2 (k.mI 0),fM Mg.cells d 96 5 k.mg,blk e 71 (rI k k.K.length),blk b2 39 qh,blk b3 40 qh,fM ij k.iv 27 1 k.K,fM gh k.lv 3 1 ((fU k.es k.K.length k.f).l),fM gh k.rv 3 1 ((fU k.es k.K.length k.f).r),fM gh k.pv 3 1 ((fU k.es k.K.length k.f).p),fM gh k.hv 2 1 ((fU k.es k.K.length k.f).h),fM fW k.sv 3 1 ((fU k.es k.K.length k.f).s),(sJ k k.K.length),(qg k k.K.length)] D:=rq V 2 1
 have X:=yg [4,5,1,0,2,3,6,7,8,9,10,11,12,13] W
 refine gJ A 4 ?_
 refine lp (α:=Nat×Value×Value) (fun(i,F,hv)=>[(1,(Zb b2)),(2,(Zb b3)),(3,(Zb e)),(14,d),(15,(Za k.mg.length)),(16,(Za i))]) (fun(i,F,hv) w1=>St [(w,(Hz k b2 b3).gK)] (BZ b2 F b3 hv (k.mI i) (k.mH i) d k.mg e k.iv k.K.length k.lv k.rv k.pv k.hv k.sv k.cb k.mb k.K (fU k.es k.K.length k.f) k.es k.c k.q) w1/\i<=k.mg.length) (fun(i,F,hv)=>k.mg.length-i) (0,Zg,Zg) ⟨rfl,rfl,rfl,rfl,rfl,gw (by first|rfl|omega),trivial⟩ (⟨X,o_⟩) ?_
 rintro⟨i,F,hv⟩ ao B ⟨aF,hi⟩
 have aQ:=Vk.aaZ (k:=k) (j:=i)
 have aP:=Vk.aaX (k:=k) (j:=i)
 refine fR aF 2 ?_
 by_cases ap:((i:Int):Int)<((k.mg.length:Int):Int)
 . have aJ:i<k.f.length:=by have h7:=aK;omega
   have aG:=Vk.abi T.fg aJ
   have aM:=aG.1
   have aN:=aG.2
   refine fK aF 13 ?_
   refine iO aF (fun y aq ar au Y=>?_)
   refine wS Y 4 fun aw Z=>?_
   refine kW mixed [([0,1,2,3,4,5,6,7,8,9,10,11,12,13,14],[0])] [15,16] Z (fun ax N=>j3 ?_)
   refine fK N 13 ?_
   refine jh (pvs:=[(0,(Zo (fJ k.K ((fJ k.mg i).a)))),(1,(Zo (fJ k.K ((fJ k.mg i).b))))]) (v:=.agg (vF (fJ k.K ((fJ k.mg i).a)) (fJ k.K ((fJ k.mg i).b)))) rfl rfl (uC [(0,(Zt (fJ k.K ((fJ k.mg i).a)))),(1,(Zt (fJ k.K ((fJ k.mg i).b))))] ua oq jI rfl ⟨rfl,rfl,rfl,rfl,trivial⟩ rfl s_) (kg (vs:=[(H6 (fJ k.K ((fJ k.mg i).a)) (fJ k.K ((fJ k.mg i).b)))]) (cs:=[(Zo (fJ k.K ((fJ k.mg i).a))),(Zo (fJ k.K ((fJ k.mg i).b)))]) rfl rfl Bq ua rfl (by simp[Value.cells]) rfl rfl rfl N ?_)
   intro E aa ay az z
   have z:St _ [row (Z6 E) 46 2 1 ([(Zo (fJ k.K ((fJ k.mg i).a))),(Zo (fJ k.K ((fJ k.mg i).b)))]),blk y 96 (Ca ((fJ k.mg i).a:Int) ((fJ k.mg i).b:Int) ((fJ k.mg i).h) ((fJ k.mg i).s:Int)),blk b2 39 [F],blk b3 40 [hv],fM ku.cells F 46 2 (k.mI i),fM gh hv 2 1 (k.mH i),fM Mg.cells d 96 5 k.mg,blk e 71 (rI k k.K.length),fM ij k.iv 27 1 k.K,fM gh k.lv 3 1 ((fU k.es k.K.length k.f).l),fM gh k.rv 3 1 ((fU k.es k.K.length k.f).r),fM gh k.pv 3 1 ((fU k.es k.K.length k.f).p),fM gh k.hv 2 1 ((fU k.es k.K.length k.f).h),fM fW k.sv 3 1 ((fU k.es k.K.length k.f).s),(sJ k k.K.length),(qg k k.K.length)] aa:=z
   refine fQ z 1 ?_
   refine kR (lE ?_)
   refine mS (cf:=ku.cells) (ys:=(k.mI i)) (zs:=[(⟨(fJ k.K ((fJ k.mg i).a)),(fJ k.K ((fJ k.mg i).b))⟩:ku)]) (LL:=fun o=>(MB (row (.slice (some ⟨E,0,none⟩) 1 1) 46 2 1 ([(.int .u64 (fJ k.K ((fJ k.mg i).a))),(.int .u64 (fJ k.K ((fJ k.mg i).b)))])) y ((fJ k.mg i).a:Int) ((fJ k.mg i).b:Int) ((fJ k.mg i).h) ((fJ k.mg i).s:Int) b2 F b3 hv o ((k.mI i)++[(⟨(fJ k.K ((fJ k.mg i).a)),(fJ k.K ((fJ k.mg i).b))⟩:ku)]) (k.mH i) d k.mg e k.iv k.K.length k.lv k.rv k.pv k.hv k.sv k.cb k.mb k.K (fU k.es k.K.length k.f) k.es k.c k.q)) 4 rfl rfl rfl Bq ua rfl d_ z rfl (lX z (i:=0) rfl) (fun x hx=>zq.1 (show List.all _ _=true from rfl) x hx) (by simp only[zh,zm,maxLen];omega) (by simp only[zh,zm,maxLen];omega) f_ ?_
   intro o ab G aA
   have G:St _ (MB (row (.slice (some ⟨E,0,none⟩) 1 1) 46 2 1 ([(.int .u64 (fJ k.K ((fJ k.mg i).a))),(.int .u64 (fJ k.K ((fJ k.mg i).b)))])) y ((fJ k.mg i).a:Int) ((fJ k.mg i).b:Int) ((fJ k.mg i).h) ((fJ k.mg i).s:Int) b2 F b3 hv o ((k.mI i)++[(⟨(fJ k.K ((fJ k.mg i).a)),(fJ k.K ((fJ k.mg i).b))⟩:ku)]) (k.mH i) d k.mg e k.iv k.K.length k.lv k.rv k.pv k.hv k.sv k.cb k.mb k.K (fU k.es k.K.length k.f) k.es k.c k.q) ab:=G
   have H:=yg [1,2,3,4,5,6,7,8,9,10,11,12,13,14,15] G
   refine j8 1 H (fun aB O=>?_) (hvs:=(cells_one (yu H (i:=3) rfl))) (h1:=(iw (yu H (i:=3) rfl) lS))
   refine fK O 7 ?_
   refine kg (vs:=(Ze ((fJ k.mg i).h))) (cs:=(Ze ((fJ k.mg i).h))) rfl rfl y9 ti2 rfl (by simp[Value.cells]) rfl rfl rfl O ?_
   intro I ac aC aD C
   have C:St _ [ig .i64 (Z6 I) 2 ([(fJ k.mg i).h]),blk y 96 (Ca ((fJ k.mg i).a:Int) ((fJ k.mg i).b:Int) ((fJ k.mg i).h) ((fJ k.mg i).s:Int)),blk b2 39 [o],blk b3 40 [hv],fM ku.cells o 46 2 ((k.mI i)++[(⟨(fJ k.K ((fJ k.mg i).a)),(fJ k.K ((fJ k.mg i).b))⟩:ku)]),fM gh hv 2 1 (k.mH i),fM Mg.cells d 96 5 k.mg,blk e 71 (rI k k.K.length),fM ij k.iv 27 1 k.K,fM gh k.lv 3 1 ((fU k.es k.K.length k.f).l),fM gh k.rv 3 1 ((fU k.es k.K.length k.f).r),fM gh k.pv 3 1 ((fU k.es k.K.length k.f).p),fM gh k.hv 2 1 ((fU k.es k.K.length k.f).h),fM fW k.sv 3 1 ((fU k.es k.K.length k.f).s),(sJ k k.K.length),(qg k k.K.length)] ac:=C
   refine mS (cf:=gh) (ys:=(k.mH i)) (zs:=[(fJ k.mg i).h]) (LL:=fun u=>(MU I ([(fJ k.mg i).h]) y ((fJ k.mg i).a:Int) ((fJ k.mg i).b:Int) ((fJ k.mg i).h) ((fJ k.mg i).s:Int) b2 o b3 hv ((k.mI i)++[(⟨(fJ k.K ((fJ k.mg i).a)),(fJ k.K ((fJ k.mg i).b))⟩:ku)]) u ((k.mH i)++[(fJ k.mg i).h]) d k.mg e k.iv k.K.length k.lv k.rv k.pv k.hv k.sv k.cb k.mb k.K (fU k.es k.K.length k.f) k.es k.c k.q)) 5 rfl rfl rfl y9 ti2 rfl d_ C rfl (lX C (i:=0) rfl) (fun x hx=>zq.1 (show List.all _ _=true from rfl) x hx) (by simp only[zh,zm,maxLen];omega) (by simp only[zh,zm,maxLen];omega) f_ ?_
   intro u ad J aE
   have J:St _ (MU I ([(fJ k.mg i).h]) y ((fJ k.mg i).a:Int) ((fJ k.mg i).b:Int) ((fJ k.mg i).h) ((fJ k.mg i).s:Int) b2 o b3 hv ((k.mI i)++[(⟨(fJ k.K ((fJ k.mg i).a)),(fJ k.K ((fJ k.mg i).b))⟩:ku)]) u ((k.mH i)++[(fJ k.mg i).h]) d k.mg e k.iv k.K.length k.lv k.rv k.pv k.hv k.sv k.cb k.mb k.K (fU k.es k.K.length k.f) k.es k.c k.q) ad:=J
   have L:=yg [1,2,3,4,5,6,7,8,9,10,11,12,13,14,15] J
   refine j8 2 L (fun P Q=>?_) (hvs:=(cells_one (yu L (i:=4) rfl))) (h1:=(iw (yu L (i:=4) rfl) lS))
   refine fQ Q 7 ?_
   refine tN (?_)
   have ae:=yg [1,2,3,4,5,6,7,8,9,10,11,12,13,14] Q
   have af:St _ (BZ b2 o b3 u (k.mI (i+1)) ((k.mH i)++[(fJ k.mg i).h]) d k.mg e k.iv k.K.length k.lv k.rv k.pv k.hv k.sv k.cb k.mb k.K (fU k.es k.K.length k.f) k.es k.c k.q) P:=yx 2 ae rfl (congrArg (fM ku.cells o 46 2) ((Vk.aa0 o_).symm))
   have ag:St _ (BZ b2 o b3 u (k.mI (i+1)) (k.mH (i+1)) d k.mg e k.iv k.K.length k.lv k.rv k.pv k.hv k.sv k.cb k.mb k.K (fU k.es k.K.length k.f) k.es k.c k.q) P:=yx 3 af rfl (congrArg (fM gh u 2 1) ((Vk.aaY o_).symm))
   exact again ((i+1),o,u) ⟨rfl,rfl,rfl,rfl,rfl,gw (by first|rfl|omega),trivial⟩ (⟨ag,o_⟩) (by show (k.mg.length-(i+1):Nat)<k.mg.length-i;omega)
 . refine fQ aF 9 ?_
   refine i6 Tryz.results28 ?_
   have aH:i=k.mg.length:=by omega
   have ah:St _ (BZ b2 F b3 hv (k.mI k.mg.length) (k.mH i) d k.mg e k.iv k.K.length k.lv k.rv k.pv k.hv k.sv k.cb k.mb k.K (fU k.es k.K.length k.f) k.es k.c k.q) B:=yx 2 aF rfl (congrArg (fM ku.cells F 46 2) (congrArg k.mI aH))
   have ai:St _ (BZ b2 F b3 hv (k.mI k.mg.length) (k.mH k.mg.length) d k.mg e k.iv k.K.length k.lv k.rv k.pv k.hv k.sv k.cb k.mb k.K (fU k.es k.K.length k.f) k.es k.c k.q) B:=yx 3 ah rfl (congrArg (fM gh hv 2 1) (congrArg k.mH aH))
   have aj:St _ [(gq [blk b2 39 [F],blk b3 40 [hv],fM ku.cells F 46 2 (k.mI k.mg.length),fM gh hv 2 1 (k.mH k.mg.length)]),fM Mg.cells d 96 5 k.mg,blk e 71 (rI k k.K.length),fM ij k.iv 27 1 k.K,fM gh k.lv 3 1 ((fU k.es k.K.length k.f).l),fM gh k.rv 3 1 ((fU k.es k.K.length k.f).r),fM gh k.pv 3 1 ((fU k.es k.K.length k.f).p),fM gh k.hv 2 1 ((fU k.es k.K.length k.f).h),fM fW k.sv 3 1 ((fU k.es k.K.length k.f).s),(sJ k k.K.length),(qg k k.K.length)] B:=yc [_,_,_,_] _ ai
   have ak:=yg [3,4,5,6,7,8,9,10,0,1,2] aj
   have al:St _ [(Vk.R k),(gq [blk b2 39 [F],blk b3 40 [hv],fM ku.cells F 46 2 (k.mI k.mg.length),fM gh hv 2 1 (k.mH k.mg.length)]),fM Mg.cells d 96 5 k.mg,blk e 71 (rI k k.K.length)] B:=yp (p:=Vk.ok k) (yc [_,_,_,_,_,_,_,_] _ ak) T
   exact⟨rfl,(F,hv,k.mI k.mg.length,k.mH k.mg.length),⟨rfl,rfl⟩,yo (R' := (M8 k b2 F b3 hv (k.mI k.mg.length) (k.mH k.mg.length))) (yc [_,_] _ al) zd⟩
theorem afQ(c:WC)(F Q:Nat)(s:WW)(k:Vk)(T:Vk.of s k)(b:Int)(w:World)(R:Own (tC F Q (IntKind.u64.wrap (s.added+s.jk)) k k.K.length b c s) w) :
 CR ya 10 (Zh F) w (fun r w' => ∃ (S hv:Value),r = .tuple #[S,hv]/\fZ (tC F Q (IntKind.u64.wrap (s.added+s.jk)) k k.K.length b c s) w w' (Nb F Q (IntKind.u64.wrap (s.added+s.jk)) k k.K.length b c s S (k.mI k.mg.length) hv (k.mH k.mg.length))):=by
 refine en Tryz.func10 Tryz.ntmps10 ?_
 have U:=(yr R).unpack
 refine fR U 2 ?_
 refine iO U (fun a G H I p=>?_)
 refine iO p (fun d q J L j=>?_)
 refine fK j 6 ?_
 refine cl uG (u7 F Q _ q (ye j 2 rfl)) ?_
 rintro _ t ⟨rfl,V⟩
 have l:=yk 2 j V
 refine fK l 9 ?_
 refine nF (vf:=[]) (vc:=(sI a d)) rfl rfl rfl ?_
 have u:=yg [1,0,2,3,4] l
 have y:=yc [_,_] _ u
 have z:=yg [1,2,3,0] y
 have m:=yc [_,_,_,_] _ z
 refine cl Cu (LB c F Q s t (Hw a d) (fun x:Value×Value×List ku×List Int=>gq [blk a 39 [x.1],blk d 40 [x.2.1],fM ku.cells x.1 46 2 x.2.2.1,fM gh x.2.1 2 1 x.2.2.2]) (fun k x=>x.2.2.1=k.mI k.mg.length/\x.2.2.2=k.mH k.mg.length) 28 (sI a d) XD (fun k w1 T R=>aba a d k w1 R) k T b (ye m 0 rfl)) ?_
 rintro _ M ⟨e,rfl,A,B⟩
 have C:=(yi m B)
 have D:=yg [3,0,1,2] C
 have n:=y0 D
 refine gJ n 3 ?_
 refine kW mixed [([0,1,2],[1])] [3] n (fun N f=>j3 ?_)
 refine fK f 2 ?_
 refine j8 0 f (fun O g=>?_) (hvs:=(cells_one (yu f (i:=2) rfl))) (h1:=(iw (yu f (i:=2) rfl) lS))
 refine fQ g 1 ?_
 refine kR (lE ?_)
 refine j8 1 g (fun P h=>?_) (hvs:=(cells_one (yu g (i:=3) rfl))) (h1:=(iw (yu g (i:=3) rfl) lS))
 refine fQ h 3 ?_
 refine oc (v:=e.1) (v' := e.2.1) Tryz.results10 (Bc rfl Bq rfl (lM h 0 rfl rfl)) (Bc rfl y9 rfl (lM h 1 rfl rfl)) ?_
 have E:=yg [4,5,6,2,3] h
 obtain⟨W,X⟩:=A
 have o:=E
 rw[W,X]at o
 exact⟨e.1,e.2.1,rfl,yn (yc [_,_,_,_,_] _ o)⟩
end
end Go.Proofs.YthpnckhjmbbalaaGreatDoor
