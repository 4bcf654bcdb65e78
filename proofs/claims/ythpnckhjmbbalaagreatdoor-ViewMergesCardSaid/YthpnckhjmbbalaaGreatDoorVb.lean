/- What the functions that the statements reach do: walks through the code of the program and of the references, one theorem a function; under what is said of its arguments. -/
import Derived.Test.YthpnckhjmbbalaaGreatDoorFb
import Derived.Test.YthpnckhjmbbalaaGreatDoorVa
import Derived.Test.YthpnckhjmbbalaaGreatDoorFd
import Derived.Test.YthpnckhjmbbalaaGreatDoorFc
import Derived.Test.YthpnckhjmbbalaaGreatDoorFa
set_option linter.unusedVariables false
set_option linter.unusedSimpArgs false
set_option maxRecDepth 100000
set_option maxHeartbeats 4000000
namespace Go.Proofs.YthpnckhjmbbalaaGreatDoor
section
open Go Go.Sx
theorem vY(ab:Nat)(bv:Value)(cn cb d cl:Int)(ps:List (Option Nat))(sl:List gT)(w:World)(e:Own (Am ab bv cn cb d cl ps sl) w) :
 CR ya 98 (Zh ab) w (fun r w' => r = .bool true/\fZ (Am ab bv cn cb d cl ps sl) w w' (Am ab bv cn cb d cl ps sl)):=by
 refine en Tryz.func98 Tryz.ntmps98 ?_
 have b:=(yr e).unpack
 refine fR b 8 ?_
 refine nh (a:=some ⟨ab,0,none⟩) (c:=true) rfl rfl rfl Tryz.underlying138 rfl (fK b 6 ?_)
 refine Cu (a:=⟨ab,0,none⟩) rfl rfl rfl Tryz.underlying138 Gm (fQ b 5 ?_)
 refine gp (v:=Zf) Tryz.results98 rfl ?_
 exact⟨rfl,yo (yc [_,_,_] _ b)⟩
theorem Au(ab:Nat)(bv:Value)(cn cb d cl:Int)(ps:List (Option Nat))(sl:List gT)(w:World)(f:Own (Am ab bv cn cb d cl ps sl) w)(i:Nat)(hi:i<=1000000)(b:Nat)(hb:ps[i / 64]? = some (some b)) :
 CR ya 109 (Zm ab i) w (fun r w' => r = .pointer (some ⟨b,i%64*3+0,none⟩)/\fZ (Am ab bv cn cb d cl ps sl) w w' (Am ab bv cn cb d cl ps sl)):=by
 have g:i / 64<ps.length:=(zk.1 hb).1
 refine en Tryz.func109 Tryz.ntmps109 ?_
 have c:=(yr f).unpack
 refine fR c 12 ?_
 refine quo (a:=(i:Int)) (b:=64) (e:=((i / 64:Nat):Int)) rfl rfl rfl d_ (wQ 64 o_) (fK c 3 ?_)
 refine rem (a:=(i:Int)) (b:=64) (e:=((i%64:Nat):Int)) rfl rfl rfl d_ (Da 64) (uV rfl (A8 (ij hb)) (jL (o:=0) (o' := i%64*3+0) (i:=((i%64:Nat):Int)) rfl rfl rfl Tryz.underlying265 Tw o_ (by simp only[nt];omega) (fQ c 4 ?_)))
 refine gp (v:=(.pointer (some ⟨b,i%64*3+0,none⟩))) Tryz.results109 rfl ?_
 exact⟨rfl,yo (yc [_,_,_] _ c)⟩
theorem Nv(ab:Nat)(bv:Value)(A:As)(w:World)(j:Own (Zq ab bv A) w)(g:A.ok)(i:Nat)(hi:i<=1000000) :
 CR ya 108 (Zm ab i) w (fun r w' => r = .int .i64 (if i<A.begun then(fJ A.sl i).st else 0)/\fZ (Zq ab bv A) w w' (Zq ab bv A)):=by
 refine en Tryz.func108 Tryz.ntmps108 ?_
 have f:=(yr j).unpack
 refine fR f 13 ?_
 by_cases d:((i:Int):Int)≥((A.begun:Int):Int)
 . refine fQ f 11 ?_
   refine gp (v:=Zc) Tryz.results108 rfl ?_
   exact⟨gr (by rw[if_neg o_]),yo (yc [_,_,_] _ f)⟩
 . have h:i<A.begun:=by omega
   have k:=(g.room h).1
   obtain⟨b,hb⟩:=g.at h
   have c:=yc [_,_,_] _ f
   refine fK f 10 ?_
   refine cl AE (Au ab bv (A.n:Int) (A.begun:Int) (A.used:Int) A.last A.ps A.sl w (ye c 0 rfl) i o_ b hb) ?_
   rintro _ e ⟨rfl,l⟩
   have a:=(ym c l)
   refine fK a 1 ?_
   refine fa (o' := i%64*3+0) rfl rfl pn rfl gy (by simp only[lg];rfl) (ld rfl rfl yf rfl (Br a (i:=2) rfl f_ d_ k hb rfl) (fQ a 4 ?_))
   refine gp (v:=(Za ((fJ A.sl i).st))) Tryz.results108 rfl ?_
   exact⟨gr (by rw[if_pos o_]),yo (yc [_,_,_] _ a)⟩
theorem UT(ab:Nat)(bv:Value)(A:As)(w:World)(e:Own (Zq ab bv A) w)(g:A.ok) :
 CR ya 58 (Zh ab) w (fun r w' => r = .int .i64 (A.used:Int)/\fZ (Zq ab bv A) w w' (Zq ab bv A)):=by
 refine en Tryz.func58 Tryz.ntmps58 ?_
 have d:=(yr e).unpack
 have a:=yc [_,_,_] _ d
 refine fR d 9 ?_
 refine cl wj (vY ab bv (A.n:Int) (A.begun:Int) (A.used:Int) A.last A.ps A.sl w (ye a 0 rfl)) ?_
 rintro _ c ⟨rfl,f⟩
 have b:=(ym a f)
 refine fQ b 16 ?_
 refine gp (v:=(Za A.used)) Tryz.results58 rfl ?_
 exact⟨rfl,yo (yc [_,_,_] _ b)⟩
theorem U2(ab:Nat)(bv:Value)(A:As)(w:World)(e:Own (Zq ab bv A) w)(h:A.ok)(i:Nat)(f:A.last=(i:Int)) :
 CR ya 160 (Zh ab) w (fun r w' => r = .tuple (D6 i)/\fZ (Zq ab bv A) w w' (Zq ab bv A)):=by
 refine en Tryz.func160 Tryz.ntmps160 ?_
 have d:=(yr e).unpack
 have b:=yc [_,_,_] _ d
 refine fR d 11 ?_
 refine cl wj (vY ab bv (A.n:Int) (A.begun:Int) (A.used:Int) A.last A.ps A.sl w (ye b 0 rfl)) ?_
 rintro _ c ⟨rfl,g⟩
 have a:=(ym b g)
 refine fK a 11 ?_
 refine cmp rfl rfl rfl (NM o_) (fQ a 17 ?_)
 refine iH (v:=(Za A.last)) (v' := Zf) Tryz.results160 rfl rfl ?_
 exact⟨by rw[f],yo (yc [_,_,_] _ a)⟩
theorem U3(ab:Nat)(bv:Value)(A:As)(w:World)(g:Own (Zq ab bv A) w)(i:A.ok)(j:A.last = -1)(hb:A.begun<A.n) :
 CR ya 160 (Zh ab) w (fun r w' => r = .tuple (D6 A.begun)/\fZ (Zq ab bv A) w w' (Zq ab bv A)):=by
 refine en Tryz.func160 Tryz.ntmps160 ?_
 have f:=(yr g).unpack
 have a:=yc [_,_,_] _ f
 refine fR f 11 ?_
 refine cl wj (vY ab bv (A.n:Int) (A.begun:Int) (A.used:Int) A.last A.ps A.sl w (ye a 0 rfl)) ?_
 rintro _ d ⟨rfl,h⟩
 have b:=(ym a h)
 refine fK b 11 ?_
 refine cmp rfl rfl rfl (oW o_) (gO b 14 fun e c=>?_)
 refine cmp rfl rfl rfl (qo o_) (fQ c 17 ?_)
 refine iH (v:=(Za A.begun)) (v' := Zf) Tryz.results160 rfl rfl ?_
 exact⟨rfl,yo (yc [_,_,_] _ c)⟩
end
section
open Go Go.Sx
theorem UF(ab:Nat)(bv:Value)(A:As)(w:World)(Q:Own (Zq ab bv A) w)(I:A.ok)(i:Nat)(r:List Nat)(R:A.fl=i :: r) :
 CR ya 119 (Zh ab) w (fun r w' => r = .tuple (xH i)/\∃ A2 O,As.ok A2/\(A2.n=A.n/\A2.begun=A.begun/\A2.used=A.used+1)/\(∀ j,A2.gW j↔A.gW j\/j=i)/\fZ (Zq ab bv A) w w' (Zq ab O A2)):=by
 have V:=I.n
 have U:=I.le
 have W:=I.used
 obtain⟨T,S,X,K,L⟩:=I.pop R
 have F:=(I.room K).1
 obtain⟨b,hb⟩:=I.at K
 refine en Tryz.func119 Tryz.ntmps119 ?_
 have N:=(yr Q).unpack
 have g:=yc [_,_,_] _ N
 refine fR N 10 ?_
 refine cl wj (vY ab bv (A.n:Int) (A.begun:Int) (A.used:Int) A.last A.ps A.sl w (ye g 0 rfl)) ?_
 rintro _ s ⟨rfl,J⟩
 have h:=(ym g J)
 have k:=yc [_,_,_] _ h
 refine fK h 9 ?_
 refine cl OD (U2 ab bv A s (ye k 0 rfl) I i L) ?_
 rintro _ t ⟨rfl,J⟩
 have c:=(ym k J)
 refine fK c 25 ?_
 refine cmp rfl rfl rfl (rR L.symm) ?_
 have l:=yc [_,_,_] _ c
 refine fK c 7 ?_
 refine cl AE (Au ab bv (A.n:Int) (A.begun:Int) (A.used:Int) A.last A.ps A.sl t (ye l 0 rfl) i o_ b hb) ?_
 rintro _ B ⟨rfl,J⟩
 have d:=(ym l J)
 refine fK d 1 ?_
 refine fa (o' := i%64*3+1) rfl rfl pn rfl gy (by simp only[lg];rfl) (ld rfl rfl yf rfl (Br d (i:=2) rfl f_ d_ (by first|exact F|(simp only[gC];exact F)) hb rfl) (gO d 9 fun u y=>?_))
 have m:=yc [_,_,_] _ y
 refine cl AE (Au ab bv (A.n:Int) (A.begun:Int) (A.used:Int) ((fJ A.sl i).after) A.ps A.sl u (ye m 0 rfl) i o_ b hb) ?_
 rintro _ C ⟨rfl,J⟩
 have o:=(ym m J)
 refine fK o 7 ?_
 refine fa (o' := i%64*3+0) rfl rfl pn rfl gy (by simp only[lg];rfl) (rm (f:=(fun x=>{ x with st:=1 })) (L' := [blk ab 203 (Ht ab bv A ((fJ A.sl i).after)),fM iA bv 259 1 A.ps,gN gT.cells 265 64 A.ps (fO A.sl i (fun x=>{ x with st:=1 }))]) 2 rfl rfl rfl rfl gy rfl rfl o rfl f_ d_ (by first|exact F|(simp only[gC];exact F)) hb rfl rfl rfl (fun D p=>fK p 6 ?_))
 refine fa (o' := i%64*3+1) rfl rfl pn rfl gy (by simp only[lg];rfl) (rm (f:=(fun x=>{ x with after := -1 })) (L' := [blk ab 203 (Ht ab bv A ((fJ A.sl i).after)),fM iA bv 259 1 A.ps,gN gT.cells 265 64 A.ps (fO (fO A.sl i (fun x=>{ x with st:=1 })) i (fun x=>{ x with after := -1 }))]) 2 rfl rfl rfl rfl gy rfl rfl p rfl f_ d_ (by first|exact F|(simp only[gC];exact F)) hb rfl rfl rfl (fun E a=>fK a 6 ?_))
 refine fa (o' := i%64*3+2) rfl rfl pn rfl jx (by simp only[lg];rfl) (ld rfl rfl yi rfl (Br a (i:=2) rfl f_ d_ (by first|exact F|(simp only[gC];exact F)) hb rfl) (ar (e:=(IntKind.u64.wrap (((fJ (fO (fO A.sl i (fun x=>{ x with st:=1 })) i (fun x=>{ x with after := -1 })) i).times)+1))) rfl rfl rfl rfl rfl (fK a 1 ?_)))
 refine fa (o' := i%64*3+2) rfl rfl pn rfl jx (by simp only[lg];rfl) (rm (f:=(fun x=>{ x with times:=(IntKind.u64.wrap (((fJ (fO (fO A.sl i (fun x=>{ x with st:=1 })) i (fun x=>{ x with after := -1 })) i).times)+1)) })) (L' := [blk ab 203 (Ht ab bv A ((fJ A.sl i).after)),fM iA bv 259 1 A.ps,gN gT.cells 265 64 A.ps (fO (fO (fO A.sl i (fun x=>{ x with st:=1 })) i (fun x=>{ x with after := -1 })) i (fun x=>{ x with times:=(IntKind.u64.wrap (((fJ (fO (fO A.sl i (fun x=>{ x with st:=1 })) i (fun x=>{ x with after := -1 })) i).times)+1)) }))]) 2 rfl rfl rfl rfl jx rfl rfl a rfl f_ d_ (by first|exact F|(simp only[gC];exact F)) hb rfl rfl rfl (fun G q=>fK q 8 ?_))
 refine ar (e:=((A.used+1:Nat):Int)) rfl rfl rfl rfl i7 (j7 q 13 fun H z=>?_)
 refine iH (v:=(Za i)) (v' := Zc) Tryz.results119 rfl rfl ?_
 have P:fO (fO (fO A.sl i (fun x=>{ x with st:=1 })) i (fun x=>{ x with after := -1 })) i (fun x=>{ x with times:=(IntKind.u64.wrap (((fJ (fO (fO A.sl i (fun x=>{ x with st:=1 })) i (fun x=>{ x with after := -1 })) i).times)+1)) })=fO A.sl i tk:=Lw F (by rw[jU (by rw[gC];exact F),jU F])
 have M:=z
 rw[P]at M
 exact⟨rfl,⟨A.n,A.begun,A.used+1,(fJ A.sl i).after,fO A.sl i tk,r,A.ps⟩,bv,T,⟨rfl,rfl,rfl⟩,S,yo (yc [_,_,_] _ M)⟩
theorem UG(ab:Nat)(bv:Value)(A:As)(w:World)(hO:Own (Zq ab bv A) w)(hA:A.ok)(hf:A.fl=[])(az:A.begun<A.n) :
 CR ya 119 (Zh ab) w (fun r w' => r = .tuple (xH A.begun)/\∃ A2 aC,As.ok A2/\(A2.n=A.n/\A2.begun=A.begun+1/\A2.used=A.used+1)/\(∀ j,A2.gW j↔A.gW j\/j=A.begun)/\fZ (Zq ab bv A) w w' (Zq ab aC A2)):=by
 have aG:=hA.n
 have aF:=hA.le
 have aH:=hA.used
 have hl:A.last = -1:=by have h7:=hA.chain;rw[hf]at h7;exact h7
 refine enter (vs:=(Zi ab)) Tryz.func119 rfl Tryz.ntmps119 rfl ?_
 have aB:St _ (Ar ab bv A) w:=(yr hO).unpack
 have y:=yc [_,_,_] _ aB
 refine fR aB 10 ?_
 refine jM (vl:=(Zi ab)) rfl rfl wj (vY ab bv (A.n:Int) (A.begun:Int) (A.used:Int) A.last A.ps A.sl w (kV y (i:=0) rfl)) ?_
 rintro _ z ⟨rfl,ht⟩
 have B:St _ (Ar ab bv A) z:=(l8 (R' := (Zq ab bv A)) 0 y rfl ht rfl).unpack
 have C:=yc [_,_,_] _ B
 refine fK B 9 ?_
 refine jM (vl:=(Zi ab)) rfl rfl OD (U3 ab bv A z (kV C (i:=0) rfl) hA hl az) ?_
 rintro _ N ⟨rfl,ht⟩
 have h:St _ (Ar ab bv A) N:=(l8 (R' := (Zq ab bv A)) 0 C rfl ht rfl).unpack
 refine fK h 25 ?_
 refine cmp (a:=(A.begun:Int)) (b:=A.last) rfl rfl rfl (uH o_) (fK h 7 ?_)
 refine rem (a:=(A.begun:Int)) (b:=64) (e:=((A.begun%64:Nat):Int)) rfl rfl rfl d_ (Da 64) ?_
 by_cases af:(((A.begun%64:Nat):Int):Int)=(0:Int)
 . refine fK h 10 ?_
   refine iR h (fun d ag ah ai O=>?_)
   refine kj (vs:=(Zi d)) (cs:=(Zi d)) rfl rfl Bn Dp rfl (by simp[Value.cells]) rfl rfl rfl O ?_
   intro s P aj ak l
   have l:St _ [row (Z6 s) 259 1 1 ((Zi d)),blk d 265 MU,blk ab 203 (Z5 ab bv A),fM iA bv 259 1 A.ps,gN gT.cells 265 64 A.ps A.sl] P:=l
   refine mW (cf:=iA) (ys:=A.ps) (zs:=[(some d)]) (LL:=fun g=>(MD (row (.slice (some ⟨s,0,none⟩) 1 1) 259 1 1 ([(.pointer (some ⟨d,0,none⟩))])) d ab bv A g (A.ps++[(some d)]))) 3 rfl rfl rfl Bn Dp rfl d_ l rfl (l7 l (i:=0) rfl) (fun x hx=>zt.1 (show List.all _ _=true from rfl) x hx) (by have h7:=hA.pe;simp only[zh,zn];omega) (by have h7:=hA.pe;simp only[zh,zn];omega) f_ ?_
   intro g Q t al
   have t:St _ (MD (row (.slice (some ⟨s,0,none⟩) 1 1) 259 1 1 ([(.pointer (some ⟨d,0,none⟩))])) d ab bv A g (A.ps++[(some d)])) Q:=t
   have m:=yg [1,2,3,4] t
   refine fK m 2 ?_
   refine j8 1 m (fun R D=>?_) (hvs:=(cells_one (yu m (i:=2) rfl))) (h1:=(ic (yu m (i:=2) rfl) lB))
   have S:=yg [0,3,1,2] D
   have U:St _ [gN gT.cells 265 64 (A.ps++[(some d)]) (A.sl++List.replicate 64 (⟨0,0,0⟩:gT)),blk ab 203 (Z5 ab g A),fM iA g 259 1 (A.ps++[(some d)])] R:=St.NS S hA.sl s_ rfl
   obtain⟨aA,ay,aE,aD,F,c,T⟩:=hA.fresh hf az (ps2:=A.ps++[(some d)]) (sl2:=A.sl++List.replicate 64 (⟨0,0,0⟩:gT)) (b:=d) (.inl ⟨o_,rfl,rfl⟩)
   refine fK D 7 ?_
   refine ar (a:=(A.begun:Int)) (b:=1) (c:=(A.begun:Int)+1) (e:=((A.begun+1:Nat):Int)) rfl rfl rfl rfl (by rw[ox o_];omega) (gO U 9 fun V W=>?_)
   have X:=yg [1,2,0] W
   have E:=yc [_,_,_] _ X
   refine jM (vl:=(tD ab A.begun)) rfl rfl AE (Au ab g (A.n:Int) ((A.begun+1:Nat):Int) (A.used:Int) A.last (A.ps++[(some d)]) (A.sl++List.replicate 64 (⟨0,0,0⟩:gT)) V (kV E (i:=0) rfl) A.begun o_ c T) ?_
   rintro _ Y ⟨rfl,ht⟩
   have G:St _ (Mr ab g A ((A.begun+1:Nat):Int) (A.ps++[(some d)]) (A.sl++List.replicate 64 (⟨0,0,0⟩:gT))) Y:=(l8 (R' := (gq (Mr ab g A ((A.begun+1:Nat):Int) (A.ps++[(some d)]) (A.sl++List.replicate 64 (⟨0,0,0⟩:gT))))) 0 E rfl ht rfl).unpack
   refine fK G 7 ?_
   refine fa (o:=A.begun%64*3+0) (o' := A.begun%64*3+0) rfl rfl pn rfl gy (by simp only[lg];rfl) (rm (cf:=gT.cells) (xs:=A.sl++List.replicate 64 (⟨0,0,0⟩:gT)) (k:=A.begun) (off:=0) (f:=(fun x=>{ x with st:=1 })) (u:=qH) (vs:=[qH]) (L' := [blk ab 203 (vS ab g A ((A.begun+1:Nat):Int)),fM iA g 259 1 (A.ps++[(some d)]),gN gT.cells 265 64 (A.ps++[(some d)]) (fO (A.sl++List.replicate 64 (⟨0,0,0⟩:gT)) A.begun (fun x=>{ x with st:=1 }))]) 2 rfl rfl rfl rfl gy rfl rfl G rfl f_ d_ (by first|exact F|(simp only[gC];exact F)) T rfl rfl rfl (fun am H=>fK H 6 ?_))
   refine fa (o:=A.begun%64*3+0) (o' := A.begun%64*3+1) rfl rfl pn rfl gy (by simp only[lg];rfl) (rm (cf:=gT.cells) (xs:=fO (A.sl++List.replicate 64 (⟨0,0,0⟩:gT)) A.begun (fun x=>{ x with st:=1 })) (k:=A.begun) (off:=1) (f:=(fun x=>{ x with after := -1 })) (u:=Zw) (vs:=[Zw]) (L' := [blk ab 203 (vS ab g A ((A.begun+1:Nat):Int)),fM iA g 259 1 (A.ps++[(some d)]),gN gT.cells 265 64 (A.ps++[(some d)]) (fO (fO (A.sl++List.replicate 64 (⟨0,0,0⟩:gT)) A.begun (fun x=>{ x with st:=1 })) A.begun (fun x=>{ x with after := -1 }))]) 2 rfl rfl rfl rfl gy rfl rfl H rfl f_ d_ (by first|exact F|(simp only[gC];exact F)) T rfl rfl rfl (fun an p=>fK p 6 ?_))
   refine fa (o:=A.begun%64*3+0) (o' := A.begun%64*3+2) rfl rfl pn rfl jx (by simp only[lg];rfl) (ld (a:=⟨c,A.begun%64*3+2,none⟩) (v:=(.int .u64 ((fJ (fO (fO (A.sl++List.replicate 64 (⟨0,0,0⟩:gT)) A.begun (fun x=>{ x with st:=1 })) A.begun (fun x=>{ x with after := -1 })) A.begun).times))) rfl rfl yi rfl (Br p (i:=2) rfl f_ d_ (by first|exact F|(simp only[gC];exact F)) T rfl) (ar (a:=(fJ (fO (fO (A.sl++List.replicate 64 (⟨0,0,0⟩:gT)) A.begun (fun x=>{ x with st:=1 })) A.begun (fun x=>{ x with after := -1 })) A.begun).times) (b:=1) (c:=((fJ (fO (fO (A.sl++List.replicate 64 (⟨0,0,0⟩:gT)) A.begun (fun x=>{ x with st:=1 })) A.begun (fun x=>{ x with after := -1 })) A.begun).times)+1) (e:=(IntKind.u64.wrap (((fJ (fO (fO (A.sl++List.replicate 64 (⟨0,0,0⟩:gT)) A.begun (fun x=>{ x with st:=1 })) A.begun (fun x=>{ x with after := -1 })) A.begun).times)+1))) rfl rfl rfl rfl rfl (fK p 1 ?_)))
   refine fa (o:=A.begun%64*3+0) (o' := A.begun%64*3+2) rfl rfl pn rfl jx (by simp only[lg];rfl) (rm (cf:=gT.cells) (xs:=fO (fO (A.sl++List.replicate 64 (⟨0,0,0⟩:gT)) A.begun (fun x=>{ x with st:=1 })) A.begun (fun x=>{ x with after := -1 })) (k:=A.begun) (off:=2) (f:=(fun x=>{ x with times:=(IntKind.u64.wrap (((fJ (fO (fO (A.sl++List.replicate 64 (⟨0,0,0⟩:gT)) A.begun (fun x=>{ x with st:=1 })) A.begun (fun x=>{ x with after := -1 })) A.begun).times)+1)) })) (u:=(.int .u64 (IntKind.u64.wrap (((fJ (fO (fO (A.sl++List.replicate 64 (⟨0,0,0⟩:gT)) A.begun (fun x=>{ x with st:=1 })) A.begun (fun x=>{ x with after := -1 })) A.begun).times)+1)))) (vs:=[(.int .u64 (IntKind.u64.wrap (((fJ (fO (fO (A.sl++List.replicate 64 (⟨0,0,0⟩:gT)) A.begun (fun x=>{ x with st:=1 })) A.begun (fun x=>{ x with after := -1 })) A.begun).times)+1)))]) (L' := [blk ab 203 (vS ab g A ((A.begun+1:Nat):Int)),fM iA g 259 1 (A.ps++[(some d)]),gN gT.cells 265 64 (A.ps++[(some d)]) (fO (fO (fO (A.sl++List.replicate 64 (⟨0,0,0⟩:gT)) A.begun (fun x=>{ x with st:=1 })) A.begun (fun x=>{ x with after := -1 })) A.begun (fun x=>{ x with times:=(IntKind.u64.wrap (((fJ (fO (fO (A.sl++List.replicate 64 (⟨0,0,0⟩:gT)) A.begun (fun x=>{ x with st:=1 })) A.begun (fun x=>{ x with after := -1 })) A.begun).times)+1)) }))]) 2 rfl rfl rfl rfl jx rfl rfl p rfl f_ d_ (by first|exact F|(simp only[gC];exact F)) T rfl rfl rfl (fun ao I=>fK I 8 ?_))
   refine ar (a:=(A.used:Int)) (b:=1) (c:=(A.used:Int)+1) (e:=((A.used+1:Nat):Int)) rfl rfl rfl rfl (by rw[ox o_];omega) (j7 I 13 fun ap Z=>?_)
   refine iH (v:=(Za A.begun)) (v' := Zc) Tryz.results119 rfl rfl ?_
   have e9:fO (fO (fO (A.sl++List.replicate 64 (⟨0,0,0⟩:gT)) A.begun (fun x=>{ x with st:=1 })) A.begun (fun x=>{ x with after := -1 })) A.begun (fun x=>{ x with times:=(IntKind.u64.wrap (((fJ (fO (fO (A.sl++List.replicate 64 (⟨0,0,0⟩:gT)) A.begun (fun x=>{ x with st:=1 })) A.begun (fun x=>{ x with after := -1 })) A.begun).times)+1)) })=fO (A.sl++List.replicate 64 (⟨0,0,0⟩:gT)) A.begun tk:=Lw F (by rw[jU (by rw[gC];exact F),jU F])
   have ax:=Z
   rw[e9]at ax
   exact⟨rfl,⟨A.n,A.begun+1,A.used+1,A.last,fO (A.sl++List.replicate 64 (⟨0,0,0⟩:gT)) A.begun tk,[],A.ps++[(some d)]⟩,g,aA,⟨rfl,rfl,rfl⟩,ay,yj (R' := (Ng ab g ((⟨A.n,A.begun+1,A.used+1,A.last,fO (A.sl++List.replicate 64 (⟨0,0,0⟩:gT)) A.begun tk,[],A.ps++[(some d)]⟩:As).n:Int) ((⟨A.n,A.begun+1,A.used+1,A.last,fO (A.sl++List.replicate 64 (⟨0,0,0⟩:gT)) A.begun tk,[],A.ps++[(some d)]⟩:As).begun:Int) ((⟨A.n,A.begun+1,A.used+1,A.last,fO (A.sl++List.replicate 64 (⟨0,0,0⟩:gT)) A.begun tk,[],A.ps++[(some d)]⟩:As).used:Int) (⟨A.n,A.begun+1,A.used+1,A.last,fO (A.sl++List.replicate 64 (⟨0,0,0⟩:gT)) A.begun tk,[],A.ps++[(some d)]⟩:As))) (yc [_,_,_] _ ax) ze⟩
 . obtain⟨aA,ay,aE,aD,F,c,T⟩:=hA.fresh hf az (ps2:=A.ps) (sl2:=A.sl) (b:=0) (.inr ⟨o_,rfl,rfl⟩)
   refine fK h 11 ?_
   refine ar (a:=(A.begun:Int)) (b:=1) (c:=(A.begun:Int)+1) (e:=((A.begun+1:Nat):Int)) rfl rfl rfl rfl (by rw[ox o_];omega) (gO h 9 fun aa ac=>?_)
   have J:=yc [_,_,_] _ ac
   refine jM (vl:=(tD ab A.begun)) rfl rfl AE (Au ab bv (A.n:Int) ((A.begun+1:Nat):Int) (A.used:Int) A.last A.ps A.sl aa (kV J (i:=0) rfl) A.begun o_ c T) ?_
   rintro _ ad ⟨rfl,ht⟩
   have K:St _ (Mq ab bv A ((A.begun+1:Nat):Int)) ad:=(l8 (R' := (gq (Mq ab bv A ((A.begun+1:Nat):Int)))) 0 J rfl ht rfl).unpack
   refine fK K 7 ?_
   refine fa (o:=A.begun%64*3+0) (o' := A.begun%64*3+0) rfl rfl pn rfl gy (by simp only[lg];rfl) (rm (cf:=gT.cells) (xs:=A.sl) (k:=A.begun) (off:=0) (f:=(fun x=>{ x with st:=1 })) (u:=qH) (vs:=[qH]) (L' := [blk ab 203 (vS ab bv A ((A.begun+1:Nat):Int)),fM iA bv 259 1 A.ps,gN gT.cells 265 64 A.ps (fO A.sl A.begun (fun x=>{ x with st:=1 }))]) 2 rfl rfl rfl rfl gy rfl rfl K rfl f_ d_ (by first|exact F|(simp only[gC];exact F)) T rfl rfl rfl (fun aq L=>fK L 6 ?_))
   refine fa (o:=A.begun%64*3+0) (o' := A.begun%64*3+1) rfl rfl pn rfl gy (by simp only[lg];rfl) (rm (cf:=gT.cells) (xs:=fO A.sl A.begun (fun x=>{ x with st:=1 })) (k:=A.begun) (off:=1) (f:=(fun x=>{ x with after := -1 })) (u:=Zw) (vs:=[Zw]) (L' := [blk ab 203 (vS ab bv A ((A.begun+1:Nat):Int)),fM iA bv 259 1 A.ps,gN gT.cells 265 64 A.ps (fO (fO A.sl A.begun (fun x=>{ x with st:=1 })) A.begun (fun x=>{ x with after := -1 }))]) 2 rfl rfl rfl rfl gy rfl rfl L rfl f_ d_ (by first|exact F|(simp only[gC];exact F)) T rfl rfl rfl (fun au q=>fK q 6 ?_))
   refine fa (o:=A.begun%64*3+0) (o' := A.begun%64*3+2) rfl rfl pn rfl jx (by simp only[lg];rfl) (ld (a:=⟨c,A.begun%64*3+2,none⟩) (v:=(.int .u64 ((fJ (fO (fO A.sl A.begun (fun x=>{ x with st:=1 })) A.begun (fun x=>{ x with after := -1 })) A.begun).times))) rfl rfl yi rfl (Br q (i:=2) rfl f_ d_ (by first|exact F|(simp only[gC];exact F)) T rfl) (ar (a:=(fJ (fO (fO A.sl A.begun (fun x=>{ x with st:=1 })) A.begun (fun x=>{ x with after := -1 })) A.begun).times) (b:=1) (c:=((fJ (fO (fO A.sl A.begun (fun x=>{ x with st:=1 })) A.begun (fun x=>{ x with after := -1 })) A.begun).times)+1) (e:=(IntKind.u64.wrap (((fJ (fO (fO A.sl A.begun (fun x=>{ x with st:=1 })) A.begun (fun x=>{ x with after := -1 })) A.begun).times)+1))) rfl rfl rfl rfl rfl (fK q 1 ?_)))
   refine fa (o:=A.begun%64*3+0) (o' := A.begun%64*3+2) rfl rfl pn rfl jx (by simp only[lg];rfl) (rm (cf:=gT.cells) (xs:=fO (fO A.sl A.begun (fun x=>{ x with st:=1 })) A.begun (fun x=>{ x with after := -1 })) (k:=A.begun) (off:=2) (f:=(fun x=>{ x with times:=(IntKind.u64.wrap (((fJ (fO (fO A.sl A.begun (fun x=>{ x with st:=1 })) A.begun (fun x=>{ x with after := -1 })) A.begun).times)+1)) })) (u:=(.int .u64 (IntKind.u64.wrap (((fJ (fO (fO A.sl A.begun (fun x=>{ x with st:=1 })) A.begun (fun x=>{ x with after := -1 })) A.begun).times)+1)))) (vs:=[(.int .u64 (IntKind.u64.wrap (((fJ (fO (fO A.sl A.begun (fun x=>{ x with st:=1 })) A.begun (fun x=>{ x with after := -1 })) A.begun).times)+1)))]) (L' := [blk ab 203 (vS ab bv A ((A.begun+1:Nat):Int)),fM iA bv 259 1 A.ps,gN gT.cells 265 64 A.ps (fO (fO (fO A.sl A.begun (fun x=>{ x with st:=1 })) A.begun (fun x=>{ x with after := -1 })) A.begun (fun x=>{ x with times:=(IntKind.u64.wrap (((fJ (fO (fO A.sl A.begun (fun x=>{ x with st:=1 })) A.begun (fun x=>{ x with after := -1 })) A.begun).times)+1)) }))]) 2 rfl rfl rfl rfl jx rfl rfl q rfl f_ d_ (by first|exact F|(simp only[gC];exact F)) T rfl rfl rfl (fun av M=>fK M 8 ?_))
   refine ar (a:=(A.used:Int)) (b:=1) (c:=(A.used:Int)+1) (e:=((A.used+1:Nat):Int)) rfl rfl rfl rfl (by rw[ox o_];omega) (j7 M 13 fun aw ae=>?_)
   refine iH (v:=(Za A.begun)) (v' := Zc) Tryz.results119 rfl rfl ?_
   have e9:fO (fO (fO A.sl A.begun (fun x=>{ x with st:=1 })) A.begun (fun x=>{ x with after := -1 })) A.begun (fun x=>{ x with times:=(IntKind.u64.wrap (((fJ (fO (fO A.sl A.begun (fun x=>{ x with st:=1 })) A.begun (fun x=>{ x with after := -1 })) A.begun).times)+1)) })=fO A.sl A.begun tk:=Lw F (by rw[jU (by rw[gC];exact F),jU F])
   have ax:=ae
   rw[e9]at ax
   exact⟨rfl,⟨A.n,A.begun+1,A.used+1,A.last,fO A.sl A.begun tk,[],A.ps⟩,bv,aA,⟨rfl,rfl,rfl⟩,ay,yj (R' := (Ng ab bv ((⟨A.n,A.begun+1,A.used+1,A.last,fO A.sl A.begun tk,[],A.ps⟩:As).n:Int) ((⟨A.n,A.begun+1,A.used+1,A.last,fO A.sl A.begun tk,[],A.ps⟩:As).begun:Int) ((⟨A.n,A.begun+1,A.used+1,A.last,fO A.sl A.begun tk,[],A.ps⟩:As).used:Int) (⟨A.n,A.begun+1,A.used+1,A.last,fO A.sl A.begun tk,[],A.ps⟩:As))) (yc [_,_,_] _ ax) ze⟩
theorem US(ab:Nat)(bv:Value)(A:As)(w:World)(H:Own (Zq ab bv A) w)(C:A.ok)(i:Nat)(hi:A.gW i) :
 CR ya 70 (Zm ab i) w (fun r w' => r = .int .i64 0/\∃ A2,As.ok A2/\(A2.n=A.n/\A2.begun=A.begun/\A2.used=A.used-1)/\(∀ j,A2.gW j↔A.gW j/\j≠i)/\fZ (Zq ab bv A) w w' (Zq ab bv A2)):=by
 have K:=C.n
 have J:=C.le
 have L:=C.used
 have E:=hi.1
 have I:=hi.2
 have F:=(C.room E).1
 obtain⟨b,hb⟩:=C.at E
 have M:=(C.free hi rfl).2.2
 refine en Tryz.func70 Tryz.ntmps70 ?_
 have G:=(yr H).unpack
 have c:=yc [_,_,_] _ G
 refine fR G 9 ?_
 refine cl wj (vY ab bv (A.n:Int) (A.begun:Int) (A.used:Int) A.last A.ps A.sl w (ye c 0 rfl)) ?_
 rintro _ m ⟨rfl,D⟩
 have a:=(ym c D)
 refine fK a 10 ?_
 refine cmp rfl rfl rfl (lC o_) (fK a 6 ?_)
 refine cmp rfl rfl rfl (oG o_) ?_
 have d:=yc [_,_,_] _ a
 refine fK a 11 ?_
 refine cl Oi (Nv ab bv A m (ye d 0 rfl) C i o_) ?_
 rintro _ o ⟨rfl,D⟩
 have g:=(ym d D)
 refine cmp rfl rfl rfl (oW (by rw[if_pos E,C.st i E,if_neg I])) ?_
 have h:=yc [_,_,_] _ g
 refine fK g 9 ?_
 refine cl AE (Au ab bv (A.n:Int) (A.begun:Int) (A.used:Int) A.last A.ps A.sl o (ye h 0 rfl) i o_ b hb) ?_
 rintro _ t ⟨rfl,D⟩
 have k:=(ym h D)
 refine fK k 7 ?_
 refine fa (o' := i%64*3+0) rfl rfl pn rfl gy (by simp only[lg];rfl) (rm (f:=(fun x=>{ x with st:=2 })) (L' := [blk ab 203 (Z5 ab bv A),fM iA bv 259 1 A.ps,gN gT.cells 265 64 A.ps (fO A.sl i (fun x=>{ x with st:=2 }))]) 2 rfl rfl rfl rfl gy rfl rfl k rfl f_ d_ (by first|exact F|(simp only[gC];exact F)) hb rfl rfl rfl (fun u l=>fK l 10 ?_))
 refine fa (o' := i%64*3+1) rfl rfl pn rfl gy (by simp only[lg];rfl) (rm (f:=(fun x=>{ x with after:=A.last })) (L' := [blk ab 203 (Z5 ab bv A),fM iA bv 259 1 A.ps,gN gT.cells 265 64 A.ps (fO (fO A.sl i (fun x=>{ x with st:=2 })) i (fun x=>{ x with after:=A.last }))]) 2 rfl rfl rfl rfl gy rfl rfl l rfl f_ d_ (by first|exact F|(simp only[gC];exact F)) hb rfl rfl rfl (fun y p=>gO p 17 fun z q=>?_))
 refine ar (e:=((A.used-1:Nat):Int)) rfl rfl rfl rfl i7 (j7 q 11 fun B s=>?_)
 refine gp (v:=Zc) Tryz.results70 rfl ?_
 exact⟨rfl,⟨A.n,A.begun,A.used-1,(i:Int),fO (fO A.sl i (fun x=>{ x with st:=2 })) i (fun x=>{ x with after:=A.last }),i :: A.fl,A.ps⟩,(C.free hi rfl).1,⟨rfl,rfl,rfl⟩,(C.free hi rfl).2.1,yo (yc [_,_,_] _ s)⟩
theorem UU(ab:Nat)(bv:Value)(A:As)(w:World)(Q:Own (Zq ab bv A) w)(L:A.ok) :
 CR ya 185 (Zh ab) w (fun r w' => ∃ lv,r=lv/\fZ (Zq ab bv A) w w' (gq (Mp ab bv A lv (gB (A.list A.begun))))):=by
 have S:=L.n
 have R:=L.le
 have T:=L.used
 refine en Tryz.func185 Tryz.ntmps185 ?_
 have O:=(yr Q).unpack
 have e:=yc [_,_,_] _ O
 refine fR O 9 ?_
 refine cl wj (vY ab bv (A.n:Int) (A.begun:Int) (A.used:Int) A.last A.ps A.sl w (ye e 0 rfl)) ?_
 rintro _ x ⟨rfl,M⟩
 have f:=(ym e M)
 refine fK f 12 ?_
 refine i6 (m:=0) (c:=A.used) rfl (gr o_) rfl yd gy rfl o_ o_ o_ f ?_
 intro o y z B p
 have g:=St.TN (i:=0) (m:=0) (c:=A.used) (sz:=1) p rfl s_ o_ (by simp only[maxLen];omega)
 have q:=yg [1,2,3,0] g
 refine gH g 14 ?_
 refine lp (α:=Nat×Value) (fun(k,lv)=>[(0,(Zb ab)),(3,lv),(16,(Za A.begun)),(17,(Za k))]) (fun(k,lv) w1=>St [(w,(Zq ab bv A).gJ)] (Mp ab bv A lv (gB (A.list k))) w1/\k<=A.begun) (fun(k,lv)=>A.begun-k) (0,(Ej o A.used)) ⟨rfl,rfl,rfl,gr rO,trivial⟩ (⟨q,o_⟩) ?_
 rintro⟨k,lv⟩ C s ⟨F,U⟩
 refine fR F 2 ?_
 by_cases D:((k:Int):Int)<((A.begun:Int):Int)
 . have N:k<A.begun:=by omega
   have h:=yc [_,_,_] _ F
   refine fK F 19 ?_
   refine cl Oi (Nv ab bv A s (ye h 0 rfl) L k o_) ?_
   rintro _ E ⟨rfl,M⟩
   have a:=(ym h M)
   by_cases b:((if k<A.begun then(fJ A.sl k).st else 0):Int)=(1:Int)
   . refine fK a 1 ?_
     rw[if_pos N]at b
     refine fK a 6 ?_
     refine kj (vs:=(Ze k)) (cs:=(Ze k)) rfl rfl yd gy rfl (by simp[Value.cells]) rfl rfl rfl a (fun t G H I j=>vU (k:=.i64) (ys:=gB (A.list k)) (zs:=[(k:Int)]) (LL:=fun d=>[ir .i64 (Z6 t) 3 ([(k:Int)]),blk ab 203 (Z5 ab bv A),fM iA bv 259 1 A.ps,gN gT.cells 265 64 A.ps A.sl,ir .i64 d 3 ((gB (A.list k))++([(k:Int)]))]) 4 rfl rfl rfl yd gy rfl j rfl (l7 j (i:=0) rfl) (by have P:=A.QC k;simp only[gB,zq,zh,zn];omega) (by have P:=A.QC k;simp only[gB,zq,zh,zn];omega) f_ ?_)
     intro d J u K
     have l:=yg [1,2,3,4] u
     refine fQ l 8 ?_
     refine tN (?_)
     exact again ((k+1),d) ⟨rfl,rfl,rfl,gr rO,trivial⟩ (⟨by rw[As.QD,if_pos b];rw[gB,tq];exact l,o_⟩) (by show (A.begun-(k+1):Nat)<A.begun-k;omega)
   . refine fK a 1 ?_
     rw[if_pos N]at b
     refine fQ a 10 ?_
     refine tN (?_)
     exact again ((k+1),lv) ⟨rfl,rfl,rfl,gr rO,trivial⟩ (⟨by rw[As.QD,if_neg b];exact a,o_⟩) (by show (A.begun-(k+1):Nat)<A.begun-k;omega)
 . refine fQ F 17 ?_
   refine gp (v:=lv) Tryz.results185 rfl ?_
   obtain rfl:k=A.begun:=by omega
   exact⟨lv,rfl,yo (yc [_,_,_,_] _ F)⟩
theorem U1(n:Nat)(w:World)(l:n<=65536) :
 CR ya 99 (Z8 n) w (fun r w' => ∃ ab,r = .tuple (Z2 ab)/\fZ (gq []) w w' (gq [blk ab 203 [(Zb ab),Zg,(Za ((As.new n).n:Int)),(Za ((As.new n).begun:Int)),(Za ((As.new n).used:Int)),(Za ((As.new n).last))],fM iA Zg 259 1 ((As.new n).ps),gN gT.cells 265 64 ((As.new n).ps) ((As.new n).sl)])):=by
 refine en Tryz.func99 Tryz.ntmps99 ?_
 have h:=yt w
 refine fR h 10 ?_
 refine cmp rfl rfl rfl (lC o_) (fK h 2 ?_)
 refine cmp rfl rfl rfl (pR o_) (fK h 9 ?_)
 refine ji (pvs:=[(2,(Za n)),(5,Zw)]) (v:=.agg #[Zs,Zg,(Za n),Zc,Zc,Zw]) rfl rfl (jA [(2,(Ze n)),(5,[Zw])] Gm RO rfl ⟨rfl,rfl,rfl,rfl,trivial⟩ rfl) (iF h (fun a e f g b=>?_))
 refine j7 b 20 fun c d=>?_
 refine iH (v:=(Zb a)) (v' := Zc) Tryz.results99 rfl rfl ?_
 have i:=rA d 259 1
 have j:St _ (Mu a n) c:=St.Ez i 0
 have k:=mS j (List.reverse_perm (Mu a n)).symm
 exact⟨a,rfl,St.eM (yc [_,_,_] [] k)⟩
end
section
open Go Go.Sx
theorem UJ(ab:Nat)(bv:Value)(A:As)(w:World)(hO:Own (Zq ab bv A) w)(T:A.ok) :
 CR ya 113 (Zh ab) w (fun r w' => ∃ ag al F,r = .pointer (some ⟨ag,0,none⟩)/\As.ok { A with ps:=F }/\fZ (Zq ab bv A) w w' (Nh ab bv A ag al F)):=by
 have ap:=T.n
 have ao:=T.le
 have aq:=T.used
 have au:=T.pe
 refine enter (vs:=(Zi ab)) Tryz.func113 rfl Tryz.ntmps113 rfl ?_
 have ak:=(yr hO).unpack
 have h:=yc [_,_,_] _ ak
 refine fR ak 9 ?_
 refine jM (vl:=(Zi ab)) rfl rfl wj (vY ab bv (A.n:Int) (A.begun:Int) (A.used:Int) A.last A.ps A.sl w (ye h 0 rfl)) ?_
 rintro _ K ⟨rfl,ht⟩
 have s:=(l8 (R' := (Zq ab bv A)) 0 h rfl ht rfl).unpack
 refine gO s 24 fun L t=>?_
 refine ji (pvs:=[(2,(Za A.n)),(3,(Za A.begun)),(4,(Za A.used)),(5,(Za A.last))]) (v:=.agg #[Zs,Zg,(Za A.n),(Za A.begun),(Za A.used),(Za A.last)]) rfl rfl (jA [(2,(Ze A.n)),(3,(Ze A.begun)),(4,(Ze A.used)),(5,(Ze A.last))] Gm RO rfl ⟨rfl,rfl,rfl,rfl,rfl,rfl,rfl,rfl,trivial⟩ rfl) (iF t (fun c M N O u=>?_))
 refine gO u 15 fun j y=>?_
 have z:St _ [fM iA Zg 259 1 ([]),blk c 203 (M7 c A),blk ab 203 (Z5 ab bv A),fM iA bv 259 1 A.ps,gN gT.cells 265 64 A.ps A.sl] j:=rA y 259 1
 have f:St _ [gN gT.cells 265 64 ([]) (A.sl.take (64*0)),fM iA Zg 259 1 ([]),blk c 203 (M7 c A),blk ab 203 (Z5 ab bv A),fM iA bv 259 1 A.ps,gN gT.cells 265 64 A.ps A.sl] j:=St.Ez z 0
 refine fK f 4 ?_
 refine jm (m:=A.ps.length) 4 rfl rfl Bn f rfl ?_
 have B:=yg [3,4,5,2,1,0] f
 refine gH f 4 ?_
 refine lp (α:=Nat×Value×List (Option Nat)) (fun(k,v2,F)=>[(3,(Zb c)),(35,bv),(36,(Za A.ps.length)),(37,(Za k))]) (fun(k,v2,F) w1=>St [(w,(Zq ab bv A).gJ)] [blk ab 203 (Z5 ab bv A),fM iA bv 259 1 A.ps,gN gT.cells 265 64 A.ps A.sl,blk c 203 (Z5 c v2 A),fM iA v2 259 1 F,gN gT.cells 265 64 F (A.sl.take (64*k))] w1/\k<=A.ps.length/\xD F k) (fun(k,v2,F)=>A.ps.length-k) (0,Zg,[]) ⟨rfl,rfl,rfl,gr rO,trivial⟩ (⟨B,o_,xD.start⟩) ?_
 rintro⟨k,v2,F⟩ P Q ⟨ae,ar,hC⟩
 have an:=hC.len
 refine fR ae 2 ?_
 by_cases R:((k:Int):Int)<((A.ps.length:Int):Int)
 . have hk:k<A.ps.length:=by omega
   obtain⟨bq,ah⟩:=T.ps k hk
   refine fK ae 19 ?_
   refine uV (a:=⟨bq,0,none⟩) rfl (A8 (ij ah)) ?_
   have af:(((A.sl.drop (64*k)).take 64).flatMap gT.cells).length=192:=NW (cf:=gT.cells) (sz:=3) f_ T.sl hk
   refine uR (b:=bq) (o:=0) (cs:=(((A.sl.drop (64*k)).take 64).flatMap gT.cells)) rfl rfl Tryz.underlying265 rfl Ln af (St.NQ ae (i:=2) rfl ((gz hk).trans (congrArg some (ij ah)))) (iR ae (fun d S U V C=>?_))
   refine Gf (v:=.agg (((A.sl.drop (64*k)).take 64).flatMap gT.cells).toArray) (vs:=(((A.sl.drop (64*k)).take 64).flatMap gT.cells)) (L' := [blk d 265 (((A.sl.drop (64*k)).take 64).flatMap gT.cells),blk ab 203 (Z5 ab bv A),fM iA bv 259 1 A.ps,gN gT.cells 265 64 A.ps A.sl,blk c 203 (Z5 c v2 A),fM iA v2 259 1 F,gN gT.cells 265 64 F (A.sl.take (64*k))]) 0 rfl rfl rfl rfl Ln af (zt.2 (xY f_ _)) C rfl (by rw[af];decide) (SI (by rw[af];rfl)) rfl (fun W l X=>fK l 8 ?_)
   refine kj (vs:=(Zi d)) (cs:=(Zi d)) rfl rfl Bn Dp rfl (by simp[Value.cells]) rfl rfl rfl l (fun D Y Z aa p=>mW (cf:=iA) (ys:=F) (zs:=[(some d)]) (LL:=fun e=>[row (Z6 D) 259 1 1 ((Zi d)),blk d 265 (((A.sl.drop (64*k)).take 64).flatMap gT.cells),blk ab 203 (Z5 ab bv A),fM iA bv 259 1 A.ps,gN gT.cells 265 64 A.ps A.sl,blk c 203 (Z5 c v2 A),fM iA e 259 1 (F++[(some d)]),gN gT.cells 265 64 F (A.sl.take (64*k))]) 6 rfl rfl rfl Bn Dp rfl d_ p rfl (l7 p (i:=0) rfl) (fun x hx=>zt.1 (show List.all _ _=true from rfl) x hx) (by have h7:=T.pe;simp only[zh,zn];omega) (by have h7:=T.pe;simp only[zh,zn];omega) f_ ?_)
   intro e ac E ad
   have g:=yg [1,2,3,4,5,6,7] E
   refine fK g 2 ?_
   refine j8 4 g (fun G q=>?_) (hvs:=(cells_one (yu g (i:=5) rfl))) (h1:=(ic (yu g (i:=5) rfl) lB))
   refine fQ q 7 ?_
   refine tN (?_)
   have H:=yg [0,6,1,2,3,4,5] q
   have ai:=VA T.sl hk
   have I:St [(w,(Zq ab bv A).gJ)] [gN gT.cells 265 64 (F++[(some d)]) (A.sl.take (64*(k+1))),blk ab 203 (Z5 ab bv A),fM iA bv 259 1 A.ps,gN gT.cells 265 64 A.ps A.sl,blk c 203 (Z5 c e A),fM iA e 259 1 (F++[(some d)])] G:=by rw[<-afd];exact St.NS H (by rw[ai.2,an]) ai.1 rfl
   have J:=yg [1,2,3,4,5,0] I
   exact again ((k+1),e,F++[(some d)]) ⟨rfl,rfl,rfl,gr rO,trivial⟩ (⟨J,o_,hC.next⟩) (by show (A.ps.length-(k+1):Nat)<A.ps.length-k;omega)
 . refine fQ ae 17 ?_
   refine gp (v:=(Zb c)) Tryz.results113 rfl ?_
   have am:k=A.ps.length:=by omega
   have aj:=ae
   rw[vt (show A.sl.length<=64*k by rw[am];exact Nat.le_of_eq T.sl)]at aj
   exact⟨c,v2,F,rfl,T.copy o_ hC.all,yj (R' := (Nh ab bv A c v2 F)) (yc [_,_,_,_,_,_] _ aj) ze⟩
end
section
open Go Go.Sx
def AW.R(ab:Nat)(v:AW):fS:=kE v.A.ok (Zq ab v.bv v.A)
abbrev xL(a:fU):=(AW.R a.jb a.aw:fS)
abbrev HI(a b:Nat)(c:TW):=([blk a 200 (oU a b c),fM iw c.iv 27 1 c.ids,fM fW c.cv 3 1 c.cs,AW.R b c.w]:List fS)
abbrev Mo(a b:Nat)(c:TW) d e f g:=([blk a 200 (oU a b c),fM iw c.iv 27 1 c.ids,fM fW c.cv 3 1 c.cs,AW.R b c.w,fM fW d 3 1 e,fM iw f 27 1 g]:List fS)
abbrev HL(a:Nat) b (c d:Nat) (e:TW) f g h i:=([ir .u64 (Z6 a) 27 b,blk c 200 (oU c d e),fM iw e.iv 27 1 e.ids,fM fW e.cv 3 1 e.cs,AW.R d e.w,fM fW f 3 1 g,fM iw h 27 1 i]:List fS)
theorem GC(ab:Nat)(v:AW)(w:World)(a:Own (AW.R ab v) w) :
 CR ya 58 (Zh ab) w (fun r w' => r = .int .i64 (v.A.used:Int)/\fZ (AW.R ab v) w w' (AW.R ab v)):=by
 exact CR.mono (UT ab v.bv v.A w a.un a.fact) fun r w' ⟨b,c⟩=>⟨b,c.rz a.fact⟩
theorem T5(ab:Nat)(v:AW)(w:World)(g:Own (AW.R ab v) w)(p:v.A.used<v.A.n) :
 CR ya 119 (Zh ab) w (fun r w' => ∃ i v2,r = .tuple (xH ((i:Nat):Int))/\AW.put v.A v2.A i/\fZ (AW.R ab v) w w' (AW.R ab v2)):=by
 have a:=g.fact
 rcases a.full p with ⟨i,l,b⟩|⟨b,o⟩
 . have hp:=a.pop b
   exact CR.mono (UF ab v.bv v.A w g.un a i l b) fun r w' ⟨f,A2,c,k,⟨e1,d,e⟩,j,m⟩=>⟨i,⟨c,A2⟩,f,⟨e1,e,j,hp.2.2.1,.inl ⟨hp.2.2.2.1,d⟩⟩,m.rz k⟩
 . exact CR.mono (UG ab v.bv v.A w g.un a b o) fun r w' ⟨f,A2,c,k,⟨e1,d,e⟩,j,m⟩=>⟨v.A.begun,⟨c,A2⟩,f,⟨e1,e,j,fun h=>Nat.lt_irrefl _ h.1,.inr ⟨rfl,d⟩⟩,m.rz k⟩
theorem T8(ab:Nat)(v:AW)(w:World)(a:Own (AW.R ab v) w)(i:Nat)(hi:v.A.gW i) :
 CR ya 70 (Zm ab i) w (fun r w' => ∃ v2,r = .int .i64 0/\AW.del v.A v2.A i/\fZ (AW.R ab v) w w' (AW.R ab v2)):=by
 exact CR.mono (US ab v.bv v.A w a.un a.fact i hi) fun r w' ⟨d,A2,f,⟨e1,b,c⟩,e,g⟩=>⟨⟨v.bv,A2⟩,d,⟨e1,b,c,(a.fact.free hi rfl).2.2,e⟩,g.rz f⟩
theorem Ug(n:Nat)(w:World)(a:n<=65536) :
 CR ya 99 (Z8 n) w (fun r w' => ∃ ab v,r = .tuple (Z2 ab)/\v.A=As.new n/\fZ (gq []) w w' (AW.R ab v)):=by
 exact CR.mono (U1 n w a) fun r w' ⟨ab,b,c⟩=>⟨ab,⟨.slice none 0 0,As.new n⟩,b,rfl,c.GB (As.tQ a)⟩
theorem T7(ab:Nat)(v:AW)(w:World)(d:Own (AW.R ab v) w) :
 CR ya 113 (Zh ab) w (fun r w' => ∃ a v2,r = .pointer (some ⟨a,0,none⟩)/\(∃ b,v2.A={ v.A with ps:=b })/\fZ (AW.R ab v) w w' (gq [AW.R ab v,AW.R a v2])):=by
 refine CR.mono (UJ ab v.bv v.A w d.un d.fact) fun r w' ⟨a,c,b,f,g,i⟩=>⟨a,⟨c,{ v.A with ps:=b }⟩,f,⟨b,rfl⟩,(fZ.E4 (A:=(Ar ab v.bv v.A)) (B:=[blk a 203 (Z5 a c v.A),fM iA c 259 1 b,gN gT.cells 265 64 b v.A.sl]) i).LB.CO rfl (fun h=>?_)⟩
 intro Q e
 simp only[zg,mz,or_false]at e
 rcases e with rfl|rfl
 . exact⟨d.fact,h _ s_⟩
 . exact⟨g,h _ s_⟩
end
section
open Go Go.Sx
def TW.R(tb ab:Nat)(t:TW):fS:=kE t.ok (gq [blk tb 200 (oU tb ab t),fM iw t.iv 27 1 t.ids,fM fW t.cv 3 1 t.cs,(AW.R ab t.w)])
abbrev Aj(a:fU) b:=(TW.R a.tb a.ab b:fS)
abbrev xM(a:fU):=(TW.R a.tb a.ab a.t:fS)
abbrev MK(a:Nat)(b c:Int)(d:fU) e:=([blk a 143 (pQ b c d e),fM Lv.cells d.lv 107 7 d.live,gY d.mb .u64 p_ d.im,jF 3 d.im,AW.R d.jb d.aw,TW.R d.tb d.ab d.t]:List fS)
abbrev MJ(a:Nat)(b c:Int)(d:fU) e f g h i:=([blk a 143 (pQ b c d e),fM Lv.cells d.lv 107 7 d.live,gY d.mb .u64 p_ d.im,jF 3 d.im,AW.R d.jb d.aw,TW.R d.tb d.ab d.t,fM fW f 3 1 g,fM Lv.cells h 107 7 i]:List fS)
abbrev HF a (b:Nat) (c d:Int) (e:fU) f g h i j:=([a,blk b 143 (pQ c d e f),fM Lv.cells e.lv 107 7 e.live,gY e.mb .u64 p_ e.im,jF 3 e.im,AW.R e.jb e.aw,TW.R e.tb e.ab e.t,fM fW g 3 1 h,fM Lv.cells i 107 7 j]:List fS)
abbrev MW a (b:Nat) (c:Lv) (d:Nat) (e f:Int) (g:fU) h i j (k:Nat):=([jF 3 a,blk b 107 (Z9 c),blk d 143 (pQ e f g h),fM Lv.cells g.lv 107 7 i,gY g.mb .u64 p_ a,AW.R g.jb j,TW.R g.tb g.ab g.t,blk k 107 nE]:List fS)
abbrev M1 a b c (d:Nat) (e:Lv) (f:Nat) (g h:Int) (i:fU) j k l m (n:Nat):=([ir .i64 a 3 b,jF 3 c,blk d 107 (Z9 e),blk f 143 (pQ g h i j),fM Lv.cells i.lv 107 7 k,gY i.mb .u64 p_ l,AW.R i.jb m,TW.R i.tb i.ab i.t,blk n 107 nE]:List fS)
abbrev M4 a b c d (e:Nat) (f g:Int) (h:fU) i j k (l m n:Nat) o p q r s t (u:Nat) v:=([fM fW a 3 1 b,fM fW c 3 1 b,jF 3 d,blk e 143 (pQ f g h i),fM Lv.cells h.lv 107 7 h.live,j,jF 3 k,AW.R h.jb h.aw,TW.R h.tb h.ab h.t,blk l 143 (El f g h.last m n o p),fM Lv.cells o 107 7 h.live,gY q .u64 p_ r,jF 3 s,AW.R m t,TW.R n u v]:List fS)
abbrev MV a (b:Nat) (c d:Int) (e:Lv) (f:Nat) (g h:Int) (i:fU) j k l m n (o p:Nat):=([jF 3 a,blk b 107 (qK c d e),blk f 143 (Em g h d i j k),fM Lv.cells j 107 7 l,gY i.mb .u64 p_ a,AW.R i.jb m,TW.R i.tb i.ab n,blk o 107 nE,blk p 61 (Z0 e)]:List fS)
abbrev Mx a (b:Nat) (c d:Int) (e:Lv) (f:Nat) (g h:Int) (i:fU) j k l m (n o:Nat):=([jF 3 a,blk b 107 (qK c d e),blk f 143 (B8 g h d i j),fM Lv.cells i.lv 107 7 k,gY i.mb .u64 p_ a,AW.R i.jb l,TW.R i.tb i.ab m,blk n 107 nE,blk o 61 (Z0 e)]:List fS)
abbrev M0 a b c (d:Nat) (e f:Int) (g:Lv) (h:Nat) (i j:Int) (k:fU) l m n o p q (r s:Nat):=([ir .i64 a 3 b,jF 3 c,blk d 107 (qK e f g),blk h 143 (Em i j f k l m),fM Lv.cells l 107 7 n,gY k.mb .u64 p_ o,AW.R k.jb p,TW.R k.tb k.ab q,blk r 107 nE,blk s 61 (Z0 g)]:List fS)
abbrev MZ a b c (d:Nat) (e f:Int) (g:Lv) (h:Nat) (i j:Int) (k:fU) l m n o p (q r:Nat):=([ir .i64 a 3 b,jF 3 c,blk d 107 (qK e f g),blk h 143 (B8 i j f k l),fM Lv.cells k.lv 107 7 m,gY k.mb .u64 p_ n,AW.R k.jb o,TW.R k.tb k.ab p,blk q 107 nE,blk r 61 (Z0 g)]:List fS)
theorem Tc(tb ab:Nat)(t:TW)(w:World)(f:Own (Z1 tb ab t) w)(d:TW.Sz t.n)(id:Int) :
 CR ya 156 (Z4 tb id) w (fun r w' => r = .int .i64 ((kG t.n id:Nat):Int)/\fZ (Z1 tb ab t) w w' (Z1 tb ab t)):=by
 have j:t.cs.length=t.n:=rfl
 have h:=d.two
 have k:=d.top
 have g:0<t.n:=by omega
 have i:=x8 (id:=id) g
 refine en Tryz.func156 Tryz.ntmps156 ?_
 have c:=Own.of f
 refine fR c 9 ?_
 refine shr (a:=id) (b:=33) (e:=(id.fdiv (2 ^ 33))) rfl rfl rfl d_ rfl (bi (a:=id) (b:=(id.fdiv (2 ^ 33))) (e:=(kQ id)) rfl rfl rfl (LK _) (fK c 6 ?_))
 refine ar (e:=(mh 18397679294719823053 (kQ id))) rfl rfl rfl rfl rfl (fK c 7 ?_)
 refine shr (a:=(mh 18397679294719823053 (kQ id))) (b:=33) (e:=((mh 18397679294719823053 (kQ id)).fdiv (2 ^ 33))) rfl rfl rfl d_ rfl (bi (a:=(mh 18397679294719823053 (kQ id))) (b:=((mh 18397679294719823053 (kQ id)).fdiv (2 ^ 33))) (e:=(kQ (mh 18397679294719823053 (kQ id)))) rfl rfl rfl (LK _) (fK c 6 ?_))
 refine ar (e:=(mh 14181476777654086739 (kQ (mh 18397679294719823053 (kQ id))))) rfl rfl rfl rfl rfl (fK c 7 ?_)
 refine shr (a:=(mh 14181476777654086739 (kQ (mh 18397679294719823053 (kQ id))))) (b:=33) (e:=((mh 14181476777654086739 (kQ (mh 18397679294719823053 (kQ id)))).fdiv (2 ^ 33))) rfl rfl rfl d_ rfl (bi (a:=(mh 14181476777654086739 (kQ (mh 18397679294719823053 (kQ id))))) (b:=((mh 14181476777654086739 (kQ (mh 18397679294719823053 (kQ id)))).fdiv (2 ^ 33))) (e:=(kQ (mh 14181476777654086739 (kQ (mh 18397679294719823053 (kQ id)))))) rfl rfl rfl (LK _) (fK c 10 ?_))
 refine jm (m:=t.cs.length) 2 rfl rfl yd c rfl (fK c 2 ?_)
 refine bi (a:=(kQ (mh 14181476777654086739 (kQ (mh 18397679294719823053 (kQ id)))))) (b:=(t.cs.length:Int)-1) (e:=((kG t.n id:Nat):Int)) rfl rfl rfl (d.p2.home id) (fQ c 5 ?_)
 refine gp (v:=(Za ((kG t.n id:Nat):Int))) Tryz.results156 rfl ?_
 exact⟨rfl,yo (yc [_,_,_] _ c)⟩
theorem afu(tb:Nat)(id:Int)(w:World) :
 CR ya 155 (Z4 tb id) w (fun r w' => ∃ m n,r = .func (.func 183) #[] (B4 m n)/\fZ (gq []) w w' (gq [blk m 139 (Zi tb),blk n 27 (Zt id)])):=by
 refine en Tryz.func155 Tryz.ntmps155 ?_
 have l:=yt w
 refine fR l 2 ?_
 refine iF l (fun a f g h d=>?_)
 refine iF d (fun b i j k c=>?_)
 refine fK c 5 ?_
 refine oc (vf:=[]) (vc:=(qI a b)) rfl rfl rfl (fQ c 4 ?_)
 refine gp (v:=(.func (.func 183) #[] (B4 a b))) Tryz.results155 rfl ?_
 have e:=yg [1,0] c
 exact⟨a,b,rfl,St.eM (yc [_,_] _ e)⟩
theorem aft{γ:Type}(A:γ->fS)(D:γ->Nat->Nat->Prop)(I:γ->Prop)(z0:γ)(l B C tb ab:Nat)(t:TW)(id:Int)(w:World)(R:∀ (z:γ) (k c:Nat) (bs:List (World×List Nat)) (L:List fS) (w:World),k<t.n->c<t.n->D z k c->St bs (A z :: (B5 tb ab t)++L) w->YR ya l (Zp c ((fJ t.cs c:Nat):Int)) w (fun v w' => ∃ H b,v = .bool b/\(b=true->D H (k+1) (ig t.n c))/\(b=false->I H)/\St bs (A H :: (B5 tb ab t)++L) w'))(F:t.ok)(S:D z0 0 (kG t.n id))(M:Own (Ec (A z0) tb ab t B C id) w) :
 CR ya 183 (MC (.func (.yield l) #[] #[]) B C) w (fun r w' => ∃ z,((∃ c,D z t.n c)\/I z)/\r = .tuple #[]/\fZ (Ec (A z0) tb ab t B C id) w w' (Ec (A z) tb ab t B C id)):=by
 have V:t.cs.length=t.n:=rfl
 have T:=F.two
 have W:=F.top
 have P:0<t.n:=by omega
 refine en Tryz.func183 Tryz.ntmps183 ?_
 have K:=Own.of M
 have j:=yg [1,2,3,0,4,5] K
 have g:=yc [_,_,_] _ j
 refine fR K 4 ?_
 refine cl OB (Tc tb ab t w (ye g 0 rfl) F.sz id) ?_
 rintro _ q ⟨rfl,Q⟩
 have f:=(ym g Q)
 refine fK f 9 ?_
 refine jm (m:=t.cs.length) 2 rfl rfl yd f rfl ?_
 have o:=yg [3,0,1,2,4,5] f
 refine gH f 4 ?_
 refine lp (α:=γ×Nat×Nat) (fun(z,k,c)=>[(0,(.func (.yield l) #[] #[])),(1,(Zb B)),(2,(Zb C)),(4,(Za c)),(12,(Za t.cs.length)),(13,(Za k))]) (fun(z,k,c) w1=>St [(w,(Ec (A z0) tb ab t B C id).gJ)] [(A z),blk tb 200 (oU tb ab t),fM iw t.iv 27 1 t.ids,fM fW t.cv 3 1 t.cs,blk B 139 (Zi tb),blk C 27 (Zt id)] w1/\k<=t.n/\c<t.n/\D z k c) (fun(z,k,c)=>t.n-k) (z0,0,(kG t.n id)) ⟨rfl,rfl,rfl,gr rO,rfl,gr rO,trivial⟩ (⟨o,o_,x8 P,S⟩) ?_
 rintro⟨z,k,c⟩ s u ⟨E,U,G,J⟩
 refine fR E 2 ?_
 by_cases x:((k:Int):Int)<((t.cs.length:Int):Int)
 . refine fK E 21 ?_
   refine yl (vl:=(Zp c (((fJ t.cs c):Nat):Int))) rfl rfl rfl (R z k c _ _ _ o_ G J E) ?_
   rintro _ y ⟨h,p,rfl,O,N,d⟩
   refine gH d 3 ?_
   cases i:(p:Bool)
   . skip
     subst i
     refine iS d 7 ?_
     refine Bb Tryz.results183 ?_
     exact⟨h,.inr (N rfl),rfl,yo (yc [_,_,_,_,_,_] _ d)⟩
   . skip
     subst i
     refine fR d 10 ?_
     refine jm (m:=t.cs.length) 3 rfl rfl yd d rfl (fK d 1 ?_)
     refine bi (a:=(c:Int)+1) (b:=(t.cs.length:Int)-1) (e:=((ig t.n c:Nat):Int)) rfl rfl rfl (F.p2.nx G) (fQ d 8 ?_)
     refine tN (?_)
     exact again (h,(k+1),(ig t.n c)) ⟨rfl,rfl,rfl,gr rO,rfl,gr rO,trivial⟩ (⟨d,o_,Kf G,O rfl⟩) (by show t.n-(k+1)<t.n-k;omega)
 . refine fQ E 9 ?_
   refine iZ Tryz.results183 ?_
   obtain rfl:k=t.n:=by omega
   exact⟨z,.inl ⟨c,J⟩,rfl,yo (yc [_,_,_,_,_,_] _ E)⟩
theorem afg(tb ab:Nat)(t:TW)(w:World)(hO:Own (Z1 tb ab t) w)(T:t.ok)(id:Int) :
 CR ya 110 (Z4 tb id) w (fun r w' => r = .tuple (Z7 ((t.find id).1:Int) ((t.find id).2))/\fZ (Z1 tb ab t) w w' (Z1 tb ab t)):=by
 have aQ:t.cs.length=t.n:=rfl
 have aM:=T.two
 have aS:=T.top
 have aR:0<t.n:=by omega
 refine EX (vs:=[(Zb tb),(Zo id)]) Tryz.func110 rfl Tryz.ntmps110 rfl ?_
 have aF:=Own.of hO
 refine fR aF 2 ?_
 refine iF aF (fun d S U V A=>?_)
 refine iF A (fun f W X Y B=>?_)
 refine iR B (fun g Z aa ac C=>?_)
 refine iR C (fun i D ad ae s=>?_)
 refine fK s 7 ?_
 refine cl Xc (afu tb id D) ?_
 rintro _ af ⟨m,o,rfl,ht⟩
 have u:=yz (ki s ht)
 have E:=yg [3,2,5,4,6,7,8,0,1] u
 refine gH u 3 ?_
 refine rfx (α:=Bool×Int×Bool) (ps:=[11,12]) (fi:=[]) (ca:=(qI m o)) (fun(sp,a,b)=>[blk g 3 (Ze a),blk i 4 [(.bool b)],blk d 139 (Zi tb),blk f 27 (Zt id),blk tb 200 (oU tb ab t),fM iw t.iv 27 1 t.ids,fM fW t.cv 3 1 t.cs,blk m 139 (Zi tb),blk o 27 (Zt id)]) (fun(sp,a,b)=>(sp=false/\t.find id=(0,false))\/(sp=true/\a=((t.find id).1:Int)/\b=(t.find id).2)) (fun(sp,a,b)=>sp) E rfl Xq ?_ ?_ ?_
 . intro fn dd l wl rc aA aK
   have G:=yg [0,2,3,4,5,6,7,8,9,10,1] aK
   have aG:=yc [jr l rc,blk g 3 [Zc],blk i 4 [Zn],blk d 139 (Zi tb),blk f 27 (Zt id)] [blk tb 200 (oU tb ab t),fM iw t.iv 27 1 t.ids,fM fW t.cv 3 1 t.cs,blk m 139 (Zi tb),blk o 27 (Zt id),ku dd (some [])] G
   have aE:rc.state = .ready:=by rw[aA]
   have aH:rc.pending=none:=by rw[aA]
   have aI:∀ (z:Bool×Int×Bool) (k c:Nat) (bs:List (World×List Nat)) (L:List fS) (w:World),k<t.n->c<t.n->(fun(z:Bool×Int×Bool) k c=>z.1=false/\t.rest id k c) z k c->St bs ((fun((sp,a,b):Bool×Int×Bool)=>gq (HG (jr l (yR sp rc)) g a i b d tb f id)) z :: (B5 tb ab t)++L) w->YR ya l (Zp c ((fJ t.cs c:Nat):Int)) w (fun v w' => ∃ z2 b,v = .bool b/\(b=true->(fun(z:Bool×Int×Bool) k c=>z.1=false/\t.rest id k c) z2 (k+1) (ig t.n c))/\(b=false->(fun(z:Bool×Int×Bool)=>z.1=true/\z.2.1=((t.find id).1:Int)/\z.2.2=(t.find id).2) z2)/\St bs ((fun((sp,a,b):Bool×Int×Bool)=>gq (HG (jr l (yR sp rc)) g a i b d tb f id)) z2 :: (B5 tb ab t)++L) w'):=by
    rintro⟨sp,a,b⟩ k c bs LT wr hk hc ⟨rfl,az⟩ aw
    have aw:=aw.unpack
    refine Db (vl:=(Zp c ((fJ t.cs c:Nat):Int))) 0 aA aw rfl rfl rfl (iS aw 8 ?_)
    refine tN (?_)
    refine Ew 0 aw rfl aE rfl (fun ag p=>fR p 5 ?_)
    by_cases ah:(((fJ t.cs c:Nat):Int):Int)=(0:Int)
    . have aN:fJ t.cs c=0:=by omega
      refine fK p 1 ?_
      skip
      skip
      skip
      refine j7 p 13 fun ai H=>?_
      refine Od 0 H rfl rfl ?_
      intro aj I
      have av:t.find id=(c,false):=TW.adK az hk o_
      exact⟨_,rfl,(true,(c:Int),false),false,rfl,fun h=>(by cases h),fun _=>⟨rfl,by rw[av],by rw[av]⟩,yc [_,_,_,_,_] _ I⟩
    . obtain⟨j,hj⟩:∃ j,fJ t.cs c=j+1:=⟨fJ t.cs c-1,o_⟩
      have aC:=T.val hc hj
      have aO:j<t.ids.length:=aC.2.2.1
      have aP:j<65536:=oC aC.2.2.2 T.an
      refine gO p 13 fun ak q=>?_
      refine ar (e:=((j:Nat):Int)) rfl rfl rfl rfl i7 (fK q 3 ?_)
      by_cases x:((fJ t.ids j):Int)=(id:Int)
      . have ay:fJ t.ids j=id:=by have h7:=x;omega
        refine j7 q 13 fun al J=>?_
        refine Od 0 J rfl rfl ?_
        intro am K
        have av:t.find id=(c,true):=TW.adH az hk hj ay
        exact⟨_,rfl,(true,(c:Int),true),false,rfl,fun h=>(by cases h),fun _=>⟨rfl,by rw[av],by rw[av]⟩,yc [_,_,_,_,_] _ K⟩
      . have ay:fJ t.ids j≠id:=by have h7:=x;omega
        refine fQ q 6 ?_
        refine EH 0 q rfl aE aH rfl ?_
        intro ao M
        exact⟨_,rfl,(false,a,b),true,rfl,fun _=>⟨rfl,TW.adI az hk hj ay⟩,fun h=>(by cases h),yc [_,_,_,_,_] _ M⟩
   have aD:=yc [_,_,_,_,_,_] _ aG
   refine CR.mono (aft (fun((sp,a,b):Bool×Int×Bool)=>gq (HG (jr l (yR sp rc)) g a i b d tb f id)) (fun(z:Bool×Int×Bool) k c=>z.1=false/\t.rest id k c) (fun(z:Bool×Int×Bool)=>z.1=true/\z.2.1=((t.find id).1:Int)/\z.2.2=(t.find id).2) (false,0,false) l m o tb ab t id wl aI T ⟨rfl,TW.adJ t id⟩ (ye aD 0 rfl)) ?_
   rintro _ w9 ⟨⟨sp,a,b⟩,hz,-,aL⟩
   have aJ:=(ym aD aL).unpack
   have N:=yg [0,10,1,2,3,4,5,6,7,8,9] aJ
   refine⟨(sp,a,b),?_,N⟩
   rcases hz with ⟨c,h1,h2⟩|h1
   . exact .inl ⟨h1,TW.adG h2⟩
   . exact .inr h1
 . rintro⟨sp,a,b⟩ dd ap hC aB O
   have hf:t.find id=(0,false):=hC.elim (fun h=>h.2) (fun h=>absurd (h.1.symm.trans aB) d_)
   refine sQQ tt none O 9 fun aq P=>?_
   refine CI 0 P rfl rfl ?_
   intro w8 F
   have Q:=yg [5,6,7,0,1,2,3,4,8,9] F
   have ax:fZ (Z1 tb ab t) w w8 (Z1 tb ab t):=yo (yc [_,_,_] _ Q)
   exact⟨_,KC Tryz.results110 (wW rfl yf rfl (k8 F 1 rfl rfl)) (wW rfl nr rfl (k8 F 2 rfl rfl)),_,rfl,by rw[hf];rfl,ax⟩
 . rintro⟨sp,a,b⟩ dd au hC aB y
   have hf:a=((t.find id).1:Int)/\b=(t.find id).2:=hC.elim (fun h=>absurd (h.1.symm.trans aB) d_) (fun h=>h.2)
   refine uZ tt none y 2 ?_
   refine CI 0 y rfl rfl ?_
   intro w8 F
   have R:=yg [5,6,7,0,1,2,3,4,8,9] F
   have ax:fZ (Z1 tb ab t) w w8 (Z1 tb ab t):=yo (yc [_,_,_] _ R)
   exact⟨_,KC Tryz.results110 (wW rfl yf rfl (k8 F 1 rfl rfl)) (wW rfl nr rfl (k8 F 2 rfl rfl)),_,rfl,by rw[hf.1,hf.2],ax⟩
end
section
open Go Go.Sx
theorem Dj(tb ab:Nat)(t:TW)(w:World)(a:Own (Z1 tb ab t) w)(c:t.ok)(id:Int)(p:Nat)(b:Bool)(d:t.find id=(p,b)) :
 CR ya 110 (Z4 tb id) w (fun r w' => r = .tuple (Z7 p b)/\fZ (Z1 tb ab t) w w' (Z1 tb ab t)):=by
 have h:=afg tb ab t w a c id
 rw[d]at h
 exact h
theorem w6(tb ab:Nat)(t:TW)(w:World)(d:Own (Z1 tb ab t) w)(e:t.ok) :
 CR ya 97 (Zh tb) w (fun r w' => r = .bool true/\fZ (Z1 tb ab t) w w' (Z1 tb ab t)):=by
 refine en Tryz.func97 Tryz.ntmps97 ?_
 have b:=Own.of d
 refine fR b 8 ?_
 refine nh (a:=some ⟨tb,0,none⟩) (c:=true) rfl rfl rfl Tryz.underlying139 rfl (fK b 6 ?_)
 refine Cu (a:=⟨tb,0,none⟩) rfl rfl rfl Tryz.underlying139 Gl (fQ b 5 ?_)
 refine gp (v:=Zf) Tryz.results97 rfl ?_
 exact⟨rfl,yo (yc [_,_,_] _ b)⟩
theorem afj(tb ab:Nat)(t:TW)(w:World)(h:Own (TW.R tb ab t) w)(id:Int)(i:Nat)(hi:t.A.gW i)(q:fJ t.ids i=id) :
 CR ya 91 (Z4 tb id) w (fun r w' => r = .tuple (D6 i)/\fZ (TW.R tb ab t) w w' (TW.R tb ab t)):=by
 have y:t.cs.length=t.n:=rfl
 have z:=h.fact.top
 obtain⟨p,hp,l,m⟩:=h.fact.I3 hi
 rw[q]at m
 have s:=(h.fact.val hp l).2.2.2
 have x:i<65536:=oC s h.fact.an
 have u:=(h.fact.val hp l).2.2.1
 refine en Tryz.func91 Tryz.ntmps91 ?_
 have o:=Own.of h.un
 have j:t.ok:=h.fact
 have b:=yc [_,_,_] _ o
 refine fR o 10 ?_
 refine cl wh (w6 tb ab t w (ye b 0 rfl) j) ?_
 rintro _ f ⟨rfl,k⟩
 have c:=(ym b k)
 have d:=yc [_,_,_] _ c
 refine fK c 10 ?_
 refine cl Ck (Dj tb ab t f (ye d 0 rfl) j id p true m) ?_
 rintro _ g ⟨rfl,k⟩
 have a:=(ym d k)
 refine fK a 26 ?_
 refine ar (e:=((i:Nat):Int)) rfl rfl rfl rfl i7 (fQ a 5 ?_)
 refine iH (v:=(Za ((i:Nat):Int))) (v' := Zf) Tryz.results91 rfl rfl ?_
 exact⟨rfl,yj (yp (p:=(t:TW).ok) (yc [_,_,_,_] _ a) j) ze⟩
theorem afi(tb ab:Nat)(t:TW)(w:World)(g:Own (TW.R tb ab t) w)(id:Int)(l:¬ t.mem id) :
 CR ya 91 (Z4 tb id) w (fun r w' => r = .tuple Hz/\fZ (TW.R tb ab t) w w' (TW.R tb ab t)):=by
 have o:t.cs.length=t.n:=rfl
 have q:=g.fact.top
 obtain⟨p,hp,k,m,s⟩:=g.fact.PC l
 refine en Tryz.func91 Tryz.ntmps91 ?_
 have j:=Own.of g.un
 have h:t.ok:=g.fact
 have a:=yc [_,_,_] _ j
 refine fR j 10 ?_
 refine cl wh (w6 tb ab t w (ye a 0 rfl) h) ?_
 rintro _ e ⟨rfl,i⟩
 have b:=(ym a i)
 have c:=yc [_,_,_] _ b
 refine fK b 10 ?_
 refine cl Ck (Dj tb ab t e (ye c 0 rfl) h id p false k) ?_
 rintro _ f ⟨rfl,i⟩
 have d:=(ym c i)
 refine fQ d 23 ?_
 refine iH (v:=Zc) (v' := Zn) Tryz.results91 rfl rfl ?_
 exact⟨rfl,yj (yp (p:=(t:TW).ok) (yc [_,_,_,_] _ d) h) ze⟩
theorem Gh(tb ab:Nat)(t:TW)(w:World)(d:Own (TW.R tb ab t) w)(id:Int) :
 CR ya 91 (Z4 tb id) w (fun r w' => ∃ (z:Nat) (b:Bool),r = .tuple (Z7 z b)/\TW.mA t id z b/\fZ (TW.R tb ab t) w w' (TW.R tb ab t)):=by
 by_cases hm:t.mem id
 . obtain⟨i,hi,e⟩:=hm
   exact CR.mono (afj tb ab t w d id i hi e) fun r w' ⟨a,c⟩=>⟨i,true,a,.inl ⟨rfl,hi,e⟩,c⟩
 . exact CR.mono (afi tb ab t w d id hm) fun r w' ⟨a,c⟩=>⟨0,false,a,.inr ⟨rfl,rfl,hm⟩,c⟩
theorem TL(tb ab:Nat)(t:TW)(w:World)(f:Own (TW.R tb ab t) w) :
 CR ya 57 (Zh tb) w (fun r w' => r = .int .i64 (t.A.used:Int)/\fZ (TW.R tb ab t) w w' (TW.R tb ab t)):=by
 have g:=f.fact
 refine en Tryz.func57 Tryz.ntmps57 ?_
 have i:=Own.of f.un
 have g:t.ok:=f.fact
 have b:=yc [_,_,_] _ i
 refine fR i 9 ?_
 refine cl wh (w6 tb ab t w (ye b 0 rfl) g) ?_
 rintro _ d ⟨rfl,h⟩
 have a:=(ym b h)
 refine fK a 12 ?_
 refine cl ET (GC ab t.w d (ye a 3 rfl)) ?_
 rintro _ e ⟨rfl,h⟩
 have c:=yk 3 a h
 refine fQ c 4 ?_
 refine gp (v:=(Za t.A.used)) Tryz.results57 rfl ?_
 exact⟨rfl,yj (yp (p:=(t:TW).ok) (yc [_,_,_,_] _ c) g) ze⟩
theorem afw(tb ab:Nat)(t:TW)(w:World)(h:Own (TW.R tb ab t) w)(id:Int)(i:Nat)(hi:t.A.gW i)(q:fJ t.ids i=id) :
 CR ya 120 (Z4 tb id) w (fun r w' => r = .tuple #[.int .i64 (i:Int),.bool false,.int .i64 0]/\fZ (TW.R tb ab t) w w' (TW.R tb ab t)):=by
 have y:t.cs.length=t.n:=rfl
 have z:=h.fact.top
 obtain⟨p,hp,l,m⟩:=h.fact.I3 hi
 rw[q]at m
 have s:=(h.fact.val hp l).2.2.2
 have x:i<65536:=oC s h.fact.an
 have u:=(h.fact.val hp l).2.2.1
 refine en Tryz.func120 Tryz.ntmps120 ?_
 have o:=Own.of h.un
 have j:t.ok:=h.fact
 have b:=yc [_,_,_] _ o
 refine fR o 11 ?_
 refine cl wh (w6 tb ab t w (ye b 0 rfl) j) ?_
 rintro _ f ⟨rfl,k⟩
 have c:=(ym b k)
 have d:=yc [_,_,_] _ c
 refine fK c 10 ?_
 refine cl Ck (Dj tb ab t f (ye d 0 rfl) j id p true m) ?_
 rintro _ g ⟨rfl,k⟩
 have a:=(ym d k)
 refine fK a 23 ?_
 refine ar (e:=((i:Nat):Int)) rfl rfl rfl rfl i7 (fQ a 7 ?_)
 refine tf (v:=(Za ((i:Nat):Int))) (v' := Zn) (v'' := Zc) Tryz.results120 rfl rfl rfl ?_
 exact⟨rfl,yj (yp (p:=(t:TW).ok) (yc [_,_,_,_] _ a) j) ze⟩
theorem afv(tb ab:Nat)(t:TW)(w:World)(F:Own (TW.R tb ab t) w)(id:Int)(W:¬ t.mem id)(Z:gZ .u64 id)(hu:t.A.used<t.A.n) :
 CR ya 120 (Z4 tb id) w (fun r w' => ∃ (i:Nat) (t2:TW),r = .tuple #[.int .i64 (i:Int),.bool true,.int .i64 0]/\((∀ x,t2.mem x↔t.mem x\/x=id)/\t2.A.n=t.A.n/\t2.A.used=t.A.used+1/\TW.Kp t t2)/\fZ (TW.R tb ab t) w w' (TW.R tb ab t2)):=by
 have ai:t.cs.length=t.n:=rfl
 have aj:=F.fact.top
 obtain⟨p,hp,hf,X,hw⟩:=F.fact.PC W
 have ag:t.ids.length=t.w.A.begun:=F.fact.tK
 have ah:(t.ids++[0]).length=t.ids.length+1:=by simp
 have ad:t.w.A.begun<=t.w.A.n:=F.fact.oV
 have ac:t.w.A.n<=65536:=F.fact.an
 refine en Tryz.func120 Tryz.ntmps120 ?_
 have aa:=Own.of F.un
 have T:t.ok:=F.fact
 have j:=yc [_,_,_] _ aa
 refine fR aa 11 ?_
 refine cl wh (w6 tb ab t w (ye j 0 rfl) T) ?_
 rintro _ B ⟨rfl,V⟩
 have k:=(ym j V)
 have l:=yc [_,_,_] _ k
 refine fK k 10 ?_
 refine cl Ck (Dj tb ab t B (ye l 0 rfl) T id p false hf) ?_
 rintro _ C ⟨rfl,V⟩
 have h:=(ym l V)
 refine fK h 22 ?_
 refine cl Ol (T5 ab t.w C (ye h 3 rfl) hu) ?_
 rintro _ G ⟨a,d,rfl,b,V⟩
 have c:=yk 3 h V
 have Y:=(yy c (i:=3) rfl:d.A.ok)
 have ae:a<=t.ids.length:=by rcases b.oV with h9|h9<;>omega
 have af:a<=65536:=by omega
 refine fK c 25 ?_
 refine jm (m:=t.ids.length) 1 rfl rfl oB c rfl ?_
 by_cases H:(((a:Nat):Int):Int)=((t.ids.length:Int):Int)
 . refine fK c 10 ?_
   refine kj (vs:=BZ) (cs:=BZ) rfl rfl oB jx rfl (by simp[Value.cells]) rfl rfl rfl c (fun D I J K o=>mW (cf:=iw) (ys:=t.ids) (zs:=[0]) (LL:=fun e=>[ir .u64 (Z6 D) 27 ([0]),blk tb 200 (oU tb ab t),fM iw e 27 1 (t.ids++[0]),fM fW t.cv 3 1 t.cs,(AW.R ab d)]) 2 rfl rfl rfl oB jx rfl d_ o rfl (l7 o (i:=0) rfl) (fun x hx=>zt.1 (show List.all _ _=true from rfl) x hx) (by simp only[zh,zn,maxLen];omega) (by simp only[zh,zn,maxLen];omega) f_ ?_)
   intro e L E M
   have g:=yg [1,2,3,4] E
   refine fK g 2 ?_
   refine j8 0 g (fun N q=>?_) (hvs:=(cells_one (yu g (i:=1) rfl))) (h1:=(ic (yu g (i:=1) rfl) lB))
   refine fK q 11 ?_
   refine iQ (f:=(fun _=>id)) 1 q (fun O s=>?_)
   refine fK s 12 ?_
   refine iQ (f:=(fun _=>(a+1))) 2 s (fun P u=>?_)
   refine fQ u 11 ?_
   refine tf (v:=(Za ((a:Nat):Int))) (v' := Zf) (v'' := Zc) Tryz.results120 rfl rfl rfl ?_
   have U:=T.put W Z Y b hp X hw e t.cv (is2:=fO (t.ids++[0]) a (fun _=>id)) (cs2:=fO t.cs p (fun _=>(a+1))) (by unfold tT;rw[if_pos o_]) rfl
   exact⟨a,⟨e,t.cv,d,fO (t.ids++[0]) a (fun _=>id),fO t.cs p (fun _=>(a+1))⟩,rfl,⟨U.2,b.n,b.used,T.R8 b (by unfold tT;rw[if_pos o_])⟩,yj (yp (p:=(⟨e,t.cv,d,fO (t.ids++[0]) a (fun _=>id),fO t.cs p (fun _=>(a+1))⟩:TW).ok) (yc [_,_,_,_] _ u) U.1) ze⟩
 . refine fK c 15 ?_
   refine iQ (f:=(fun _=>id)) 1 c (fun Q y=>?_)
   refine fK y 12 ?_
   refine iQ (f:=(fun _=>(a+1))) 2 y (fun S z=>?_)
   refine fQ z 11 ?_
   refine tf (v:=(Za ((a:Nat):Int))) (v' := Zf) (v'' := Zc) Tryz.results120 rfl rfl rfl ?_
   have U:=T.put W Z Y b hp X hw t.iv t.cv (is2:=fO t.ids a (fun _=>id)) (cs2:=fO t.cs p (fun _=>(a+1))) (by unfold tT;rw[if_neg o_]) rfl
   exact⟨a,⟨t.iv,t.cv,d,fO t.ids a (fun _=>id),fO t.cs p (fun _=>(a+1))⟩,rfl,⟨U.2,b.n,b.used,T.R8 b (by unfold tT;rw[if_neg o_])⟩,yj (yp (p:=(⟨t.iv,t.cv,d,fO t.ids a (fun _=>id),fO t.cs p (fun _=>(a+1))⟩:TW).ok) (yc [_,_,_,_] _ z) U.1) ze⟩
end
section
open Go Go.Sx
theorem afk(tb ab:Nat)(t:TW)(cs2:List Nat)(d:cs2.length=t.n)(w:World)(b:Own (DY tb ab t cs2) w)(c:TW.Sz t.n)(id:Int) :
 CR ya 156 (Z4 tb id) w (fun r w' => r = .int .i64 ((kG t.n id:Nat):Int)/\fZ (DY tb ab t cs2) w w' (DY tb ab t cs2)):=by
 have a:TW.n ⟨t.iv,t.cv,t.w,t.ids,cs2⟩=t.n:=d
 have h:=Tc tb ab ⟨t.iv,t.cv,t.w,t.ids,cs2⟩ w b (by rw[a];exact c) id
 rw[a]at h
 exact h
theorem afe(tb ab:Nat)(t:TW)(w:World)(Q:Own (Z1 tb ab t) w)(A:t.ok)(p i:Nat)(hp:p<t.n)(L:fJ t.cs p=i+1) :
 CR ya 111 (Zm tb ((p:Nat):Int)) w (fun r w' => r = .tuple #[]/\∃ D,D.length=t.n/\(rH t.n D (fun j=>kG t.n (fJ t.ids j))/\(∀ p q,p<t.n->q<t.n->fJ D p≠0->fJ D p=fJ D q->p=q)/\(∀ K,(∃ p,p<t.n/\fJ D p=K+1)↔K≠i/\∃ p,p<t.n/\fJ t.cs p=K+1))/\fZ (Z1 tb ab t) w w' (DY tb ab t D)):=by
 have af:t.cs.length=t.n:=rfl
 have Z:=A.two
 have ag:=A.top
 have N:0<t.n:=by omega
 obtain⟨z,X,Y⟩:=A.zero
 have P:pE t.n (fun j=>kG t.n (fJ t.ids j)) i t.cs t.cs p p z:=pE.start A.FP rfl hp L X Y (fun q j _ _=>x8 N) A.inj
 refine en Tryz.func111 Tryz.ntmps111 ?_
 have G:=Own.of Q
 refine fR G 7 ?_
 refine jm (m:=t.cs.length) 2 rfl rfl yd G rfl (gH G 15 ?_)
 refine lp (α:=List Nat×Nat×Nat) (fun(cs,hole,c)=>[(0,(Zb tb)),(1,(Za ((hole:Nat):Int))),(4,(Za ((t.cs.length:Int)-1))),(5,(Za ((c:Nat):Int)))]) (fun(cs,hole,c) w1=>St [(w,(Z1 tb ab t).gJ)] [blk tb 200 (oU tb ab t),fM iw t.iv 27 1 t.ids,fM fW t.cv 3 1 cs] w1/\pE t.n (fun j=>kG t.n (fJ t.ids j)) i t.cs cs hole c z) (fun(cs,hole,c)=>dst t.n c z) (t.cs,p,p) ⟨rfl,gr rO,rfl,gr rO,trivial⟩ (⟨G,P⟩) ?_
 rintro⟨cs,hole,c⟩ u s ⟨C,B⟩
 have F:=B.next
 have J:ig t.n c<t.n:=F.1
 have U:=B.wv
 have R:=B.N1
 have ae:=B.len
 refine fR C 6 ?_
 refine bi (a:=((c:Nat):Int)+1) (b:=(t.cs.length:Int)-1) (e:=((ig t.n c:Nat):Int)) rfl rfl rfl (A.p2.nx R) (fK C 19 ?_)
 by_cases g:((((fJ cs (ig t.n c)):Nat):Int):Int)=(0:Int)
 . have O:fJ cs (ig t.n c)=0:=by have H:=@g;omega
   refine fK C 17 ?_
   refine iQ (f:=(fun _=>0)) (cf:=fW) 2 C (fun v h=>?_)
   refine fQ h 2 ?_
   refine iZ Tryz.results111 ?_
   exact⟨rfl,fO cs hole (fun _=>0),by rw[gC];exact B.len,B.done O ⟨p,hp,L⟩,yo (yc [_,_,_] _ h)⟩
 . obtain⟨j,E⟩:∃ j,fJ cs (ig t.n c)=j+1:=⟨fJ cs (ig t.n c)-1,by have H:=@g;omega⟩
   obtain⟨aa,q9,V,S⟩:=(B.mem j).1 ⟨ig t.n c,J,F.2.1,E⟩
   have M:=A.val V S
   have ac:j<t.ids.length:=M.2.2.1
   have ad:j<65536:=oC M.2.2.2 A.an
   have T:=x8 (id:=fJ t.ids j) N
   refine fK C 1 ?_
   rw[E]
   refine fK C 15 ?_
   refine ar (e:=((j:Nat):Int)) rfl rfl rfl rfl i7 ?_
   have k:=yc [_,_,_] _ C
   refine fK C 2 ?_
   refine cl OB (afk tb ab t cs B.len s (ye k 0 rfl) A.sz (fJ t.ids j)) ?_
   rintro _ x ⟨rfl,W⟩
   have d:=(ym k W)
   refine fK d 2 ?_
   refine bi (a:=((ig t.n c:Nat):Int)-((kG t.n (fJ t.ids j):Nat):Int)) (b:=(t.cs.length:Int)-1) (e:=((dst t.n (kG t.n (fJ t.ids j)) (ig t.n c):Nat):Int)) rfl rfl rfl (A.p2.dst T J) (fK d 4 ?_)
   refine bi (a:=((ig t.n c:Nat):Int)-((hole:Nat):Int)) (b:=(t.cs.length:Int)-1) (e:=((dst t.n hole (ig t.n c):Nat):Int)) rfl rfl rfl (A.p2.dst U J) ?_
   by_cases l:(((dst t.n (kG t.n (fJ t.ids j)) (ig t.n c):Nat):Int):Int)<(((dst t.n hole (ig t.n c):Nat):Int):Int)
   . have I:(dst t.n (kG t.n (fJ t.ids j)) (ig t.n c)<dst t.n hole (ig t.n c)):=by have H:=l;omega
     refine fQ d 7 ?_
     refine tN (?_)
     exact again (cs,hole,(ig t.n c)) ⟨rfl,rfl,rfl,gr rO,trivial⟩ (⟨d,B.skip E I⟩) (by show dst t.n (ig t.n c) z<dst t.n c z;exact F.2.2.2.2)
   . have I:¬ (dst t.n (kG t.n (fJ t.ids j)) (ig t.n c)<dst t.n hole (ig t.n c)):=by have H:=l;omega
     refine fK d 15 ?_
     refine iQ (f:=(fun _=>(j+1))) 2 d (fun y o=>?_)
     refine fQ o 7 ?_
     refine tN (?_)
     exact again (fO cs hole (fun _=>(j+1)),(ig t.n c),(ig t.n c)) ⟨rfl,gr rO,rfl,gr rO,trivial⟩ (⟨o,B.move E I⟩) (by show dst t.n (ig t.n c) z<dst t.n c z;exact F.2.2.2.2)
end
section
open Go Go.Sx
theorem Ld(tb ab:Nat)(t:TW)(w:World)(B:Own (TW.R tb ab t) w)(id:Int)(i:Nat)(hi:t.A.gW i)(G:fJ t.ids i=id) :
 CR ya 73 (Z4 tb id) w (fun r w' => ∃ (t2:TW),r = .int .i64 0/\((∀ x,t2.mem x↔t.mem x/\x≠id)/\t2.A.n=t.A.n/\t2.A.used=t.A.used-1/\0<t.A.used/\TW.Kp t t2)/\fZ (TW.R tb ab t) w w' (TW.R tb ab t2)):=by
 have P:t.cs.length=t.n:=rfl
 have Q:=B.fact.top
 obtain⟨p,hp,F,H⟩:=B.fact.I3 hi
 rw[G]at H
 have L:=(B.fact.val hp F).2.2.2
 have O:i<65536:=oC L B.fact.an
 have N:=(B.fact.val hp F).2.2.1
 refine en Tryz.func73 Tryz.ntmps73 ?_
 have I:=Own.of B.un
 have D:t.ok:=B.fact
 have g:=yc [_,_,_] _ I
 refine fR I 9 ?_
 refine cl wh (w6 tb ab t w (ye g 0 rfl) D) ?_
 rintro _ q ⟨rfl,C⟩
 have h:=(ym g C)
 have j:=yc [_,_,_] _ h
 refine fK h 10 ?_
 refine cl Ck (Dj tb ab t q (ye j 0 rfl) D id p true H) ?_
 rintro _ s ⟨rfl,C⟩
 have b:=(ym j C)
 refine fK b 26 ?_
 refine ar (e:=((i:Nat):Int)) rfl rfl rfl rfl i7 (fK b 11 ?_)
 refine cl O6 (T8 ab t.w s (ye b 3 rfl) i hi) ?_
 rintro _ u ⟨c,rfl,a,C⟩
 have d:=yk 3 b C
 have J:=(yy d (i:=3) rfl:c.A.ok)
 have k:=yc [_,_,_] _ d
 refine fK d 16 ?_
 refine cl WM (afe tb ab t u (ye k 0 rfl) D p i hp F) ?_
 rintro _ y ⟨rfl,l,M,K,C⟩
 have m:=(ym k C)
 refine fK m 10 ?_
 refine iQ (f:=(fun _=>0)) (cf:=iw) 1 m (fun z o=>?_)
 refine fQ o 8 ?_
 refine gp (v:=Zc) Tryz.results73 rfl ?_
 have E:=D.del hi J a M K t.iv t.cv (is2:=fO t.ids i (fun _=>0)) rfl
 rw[G]at E
 exact⟨⟨t.iv,t.cv,c,fO t.ids i (fun _=>0),l⟩,rfl,⟨E.2,a.n,a.used,a.pos,D.Wn hi a rfl (by rw[G];exact E.2)⟩,yj (yp (p:=(⟨t.iv,t.cv,c,fO t.ids i (fun _=>0),l⟩:TW).ok) (yc [_,_,_,_] _ o) E.1) ze⟩
theorem VI(v:Value)(xs:List Int)(w:World)(hv:iz 1 iw (fun _=>True) w v xs)(m:xs.length<=1000000) :
 CR ya 157 #[v] w (fun r w' => qb 1 iw w w' r 27 xs/\gA [] w w'):=by
 refine en Tryz.func157 Tryz.ntmps157 ?_
 have l:=yt w
 refine fR l 9 ?_
 refine Ct (v:=v) rfl rfl rfl oB hv (gH l 2 ?_)
 cases e:(wK v:Bool)
 . skip
   refine fR l 5 ?_
   refine kj (vs:=[]) (cs:=[]) rfl rfl oB jx rfl (by intro v hv;simp at hv) rfl rfl rfl l ?_
   intro f g h i c
   have d:=c
   refine fK c 1 ?_
   refine mW (cf:=iw) (ys:=[]) (zs:=xs) (LL:=fun a=>[fM iw a 27 1 xs]) 0 rfl rfl rfl oB jx rfl d_ d rfl (iz.src (yw d s_ d_ hv) f_) (xY f_ _) (by simp only[zn];omega) (by simp only[zn];omega) f_ (fun a j b k=>fQ b 4 ?_)
   refine gp (v:=a) Tryz.results157 rfl ?_
   exact⟨DD b s_,b.gD s_⟩
 . skip
   refine iS l 8 ?_
   refine gp (v:=Zg) Tryz.results157 rfl ?_
   obtain rfl:=CX e hv
   exact⟨qb.CW, l.gD s_⟩
theorem It(v:Value)(xs:List Nat)(w:World)(hv:iz 1 fW (fun _=>True) w v xs)(m:xs.length<=1000000) :
 CR ya 117 #[v] w (fun r w' => qb 1 fW w w' r 3 xs/\gA [] w w'):=by
 refine en Tryz.func117 Tryz.ntmps117 ?_
 have l:=yt w
 refine fR l 9 ?_
 refine Ct (v:=v) rfl rfl rfl yd hv (gH l 2 ?_)
 cases e:(wK v:Bool)
 . skip
   refine fR l 5 ?_
   refine kj (vs:=[]) (cs:=[]) rfl rfl yd gy rfl (by intro v hv;simp at hv) rfl rfl rfl l ?_
   intro f g h i c
   have d:=c
   refine fK c 1 ?_
   refine mW (cf:=fW) (ys:=[]) (zs:=xs) (LL:=fun a=>[fM fW a 3 1 xs]) 0 rfl rfl rfl yd gy rfl d_ d rfl (iz.src (yw d s_ d_ hv) f_) (xY f_ _) (by simp only[zn];omega) (by simp only[zn];omega) f_ (fun a j b k=>fQ b 4 ?_)
   refine gp (v:=a) Tryz.results117 rfl ?_
   exact⟨DD b s_,b.gD s_⟩
 . skip
   refine iS l 8 ?_
   refine gp (v:=Zg) Tryz.results117 rfl ?_
   obtain rfl:=CX e hv
   exact⟨qb.CW, l.gD s_⟩
theorem aff(tb ab:Nat)(t:TW)(w:World)(F:Own (TW.R tb ab t) w) :
 CR ya 114 (Zh tb) w (fun r w' => ∃ (P Q:Nat) (t2:TW),r = .pointer (some ⟨P,0,none⟩)/\((∀ x,t2.mem x↔t.mem x)/\t2.A.n=t.A.n/\t2.A.used=t.A.used)/\fZ (TW.R tb ab t) w w' (gq [(TW.R tb ab t),(TW.R P Q t2)])):=by
 have Y:t.cs.length=t.n:=rfl
 have Z:=F.fact.top
 have X:t.ids.length=t.w.A.begun:=F.fact.tK
 have W:t.w.A.begun<=t.w.A.n:=F.fact.oV
 have V:t.w.A.n<=65536:=F.fact.an
 refine en Tryz.func114 Tryz.ntmps114 ?_
 have O:=Own.of F.un
 have K:t.ok:=F.fact
 have j:=yc [_,_,_] _ O
 refine fR O 9 ?_
 refine cl wh (w6 tb ab t w (ye j 0 rfl) K) ?_
 rintro _ D ⟨rfl,M⟩
 have k:=(ym j M)
 refine gH k 7 ?_
 refine kO mixed [([0,1,2,3,5,6,7,8,10,11,12,13,4],[8,13]),([9],[13])] [14,15,16,17] k (fun o e=>jR ?_)
 refine fK e 12 ?_
 refine cl Oj (T7 ab t.w o (ye e 3 rfl)) ?_
 rintro _ q ⟨c,d,rfl,s,M⟩
 have u:=yg [3,0,1,2] e
 have f:=yz (yk 0 u M)
 refine fQ f 1 ?_
 refine kJ (jR ?_)
 refine cl Xd (VI t.iv t.ids q (iO f 3 rfl).any (by first|omega|(simp;omega))) ?_
 rintro a l J
 have g:St _ [fM iw a 27 1 t.ids,(AW.R ab t.w),(AW.R c d),blk tb 200 (oU tb ab t),fM iw t.iv 27 1 t.ids,fM fW t.cv 3 1 t.cs] l:=xe f J.2 J.1
 refine fQ g 1 ?_
 refine kJ (kU ?_)
 refine cl IG (It t.cv t.cs l (iO g 5 rfl).any (by first|omega|(simp;omega))) ?_
 rintro b y J
 have h:St _ [fM fW b 3 1 t.cs,fM iw a 27 1 t.ids,(AW.R ab t.w),(AW.R c d),blk tb 200 (oU tb ab t),fM iw t.iv 27 1 t.ids,fM fW t.cv 3 1 t.cs] y:=xe g J.2 J.1
 refine ji (pvs:=[(1,(Zb c)),(2,a),(3,b)]) (v:=.agg #[Zs,(Zb c),a,b]) rfl rfl (jA [(1,(Zi c)),(2,[a]),(3,[b])] Gl RN rfl ⟨rfl,rfl,rfl,(cells_one (yu h (i:=1) rfl)),rfl,(cells_one (yu h (i:=0) rfl)),trivial⟩ rfl) (iF h (fun m E G H z=>?_))
 refine j7 z 19 fun I B=>?_
 refine gp (v:=(Zb m)) Tryz.results114 rfl ?_
 have C:=yg [5,6,7,3,0,2,1,4] B
 obtain⟨aa,L⟩:=s
 have N:=K.copy L a b
 have U:=yp (p:=t.ok) (yc [_,_,_,_] _ C) K
 have S:=yp (p:=(⟨a,b,d,t.ids,t.cs⟩:TW).ok) (yc [_,_,_,_] _ (mS U (rD (l₁:=[_]) (l₂:=[_,_,_,_]) |>.append_right _))) N.1
 have T:=mS S (List.Perm.swap _ _ _)
 exact⟨m,c,⟨a,b,d,t.ids,t.cs⟩,rfl,⟨N.2,by rw[show TW.A ⟨a,b,d,t.ids,t.cs⟩=_ from L],by rw[show TW.A ⟨a,b,d,t.ids,t.cs⟩=_ from L]⟩,yo (yc [_,_] _ T)⟩
theorem afr(m:Nat)(w:World)(hm:m<=65536) :
 CR ya 100 (Z8 ((m:Nat):Int)) w (fun r w' => ∃ (tb ab:Nat) (t:TW),r = .tuple (Z2 tb)/\((∀ x,¬ t.mem x)/\t.A.n=m/\t.A.used=0)/\fZ (gq []) w w' (TW.R tb ab t)):=by
 refine en Tryz.func100 Tryz.ntmps100 ?_
 have N:=yt w
 refine fR N 9 ?_
 refine cl Pd (Ug m w hm) ?_
 rintro _ z ⟨b,d,rfl,g,P⟩
 have h:=(ki N P)
 refine gH h 24 ?_
 refine lp (α:=Nat) (fun k=>[(0,(Za ((m:Nat):Int))),(2,Zs),(3,Zc),(4,(Zb b)),(5,Zc),(6,(Za ((k:Nat):Int)))]) (fun k w1=>St [(w,[])] [(AW.R b d)] w1/\P2 k/\2<=k/\(k=2\/k<4*m)) (fun k=>4*m-k) 2 ⟨rfl,rfl,rfl,rfl,rfl,gr rO,trivial⟩ (⟨h,P2.two,o_,.inl rfl⟩) ?_
 rintro k B C ⟨F,L,O,Q⟩
 have S:k<=262144:=by omega
 refine fR F 6 ?_
 by_cases D:(((k:Nat):Int):Int)<(2*((m:Nat):Int):Int)
 . refine fK F 9 ?_
   refine ar (e:=((k*2:Nat):Int)) rfl rfl rfl rfl i7 (fQ F 3 ?_)
   refine tN (?_)
   exact again (k*2) ⟨rfl,rfl,rfl,rfl,rfl,gr rO,trivial⟩ (⟨F,L.Wm o_,o_,o_⟩) o_
 . refine fK F 13 ?_
   refine rZ (cf:=fW) (z0:=0) (m:=k) (c:=k) rfl rfl rfl yd gy rfl f_ d_ (zo _) o_ o_ F (fun a E G H j=>ji (pvs:=[(1,(Zb b)),(3,(Zd a k))]) (v:=.agg #[Zs,(Zb b),Zg,(Zd a k)]) rfl rfl (jA [(1,(Zi b)),(3,(qi a k))] Gl RN rfl ⟨rfl,rfl,rfl,rfl,trivial⟩ rfl) (iF j (fun f I J K l=>?_)))
   refine j7 l 20 fun o q=>?_
   refine iH (v:=(Zb f)) (v' := Zc) Tryz.results100 rfl rfl ?_
   have s:=mu (cf:=fW) q (i:=1) rfl f_ (zo _) (by simp only[maxLen];omega)
   have u:St _ [fM iw Zg 27 1 ([]),blk f 200 [(Zb f),(Zb b),Zg,(Zd a k)],fM fW (Zd a k) 3 1 (List.replicate k 0),(AW.R b d)] o:=rA s 27 1
   have y:=yg [1,0,2,3] u
   have M:=TW.tQ g hm L O o_ o_ Zg (Zd a k)
   exact⟨f,b,⟨.slice none 0 0,(Zd a k),d,[],List.replicate k 0⟩,rfl,⟨M.2,by rw[show TW.A ⟨.slice none 0 0,(Zd a k),d,[],List.replicate k 0⟩=_ from g];rfl,by rw[show TW.A ⟨.slice none 0 0,(Zd a k),d,[],List.replicate k 0⟩=_ from g];rfl⟩,vq (yp (p:=(⟨.slice none 0 0,(Zd a k),d,[],List.replicate k 0⟩:TW).ok) (yc [_,_,_,_] _ y) M.1) s_⟩
end
section
open Go Go.Sx
theorem QA(x y:Int)(w:World) :
 CR ya 89 (vN x y) w (fun r w' => r = .bool (decide (x<y))/\gA [] w w'):=by
 refine en Tryz.func89 Tryz.ntmps89 ?_
 have e:=yt w
 refine fR e 8 ?_
 refine cl W1 (abS x w) ?_
 rintro _ c ⟨rfl,b⟩
 have a:=yq e b
 refine fK a 8 ?_
 by_cases d:(x:Int)<(y:Int)
 . refine fQ a 6 ?_
   refine gp (v:=Zf) Tryz.results89 rfl ?_
   exact⟨congrArg Value.bool (decide_eq_true o_).symm,a.gD s_⟩
 . refine fQ a 6 ?_
   refine gp (v:=Zn) Tryz.results89 rfl ?_
   exact⟨congrArg Value.bool (decide_eq_false o_).symm,a.gD s_⟩
theorem aaf(v:Value)(xs:List Int)(w:World)(J:Own (rM v xs) w)(M:xs.length<=1000000) :
 CR ya 231 #[v,Zc,(Za xs.length)] w (fun r w' => ∃ ys:List Int,r = .tuple #[]/\(ys.Perm xs/\qG ys ys.length)/\fZ (rM v xs) w w' (rM v ys)):=by
 refine en Tryz.func231 Tryz.ntmps231 ?_
 have H:=yr J
 refine s9 H 8 ?_
 refine lp (α:=Nat×List Int) (fun(i,ys)=>[(0,v),(1,Zc),(2,(Za xs.length)),(6,(Za i))]) (fun(i,ys) w1=>St [(w,(rM v xs).gJ)] [fM iw v 27 1 ys] w1/\ys.Perm xs/\qG ys i/\1<=i) (fun(i,ys)=>xs.length+1-i) (1,xs) ⟨rfl,rfl,rfl,gr rO,trivial⟩ (⟨H,List.Perm.refl _,qG.zero,o_⟩) ?_
 rintro⟨i,ys⟩ m n ⟨B,E,F,hi⟩
 have N:=E.length_eq
 refine fR B 5 ?_
 by_cases o:((i:Int):Int)<((xs.length:Int):Int)
 . refine gH B 15 ?_
   refine lp (α:=Nat×List Int) (fun(j,zs)=>[(0,v),(1,Zc),(2,(Za xs.length)),(6,(Za i)),(7,(Za j))]) (fun(j,zs) w1=>St [(w,(rM v xs).gJ)] [fM iw v 27 1 zs] w1/\zs.Perm xs/\uy zs i j/\j<=i) (fun(j,zs)=>j) (i,ys) ⟨rfl,rfl,rfl,rfl,gr rO,trivial⟩ (⟨B,E,F.at,o_⟩) ?_
   rintro⟨j,zs⟩ s t ⟨K,D,C,G⟩
   have O:=D.length_eq
   refine q7 K 5 fun h a=>?_
   by_cases u:((j:Int):Int)>(0:Int)
   . refine fK a 9 ?_
     refine iP (cf:=iw) (k:=(j-1)) (i:=(j:Int)-1) rfl rfl rfl oB jx (iO a 0 rfl) o_ o_ (gz om) (fK a 1 ?_)
     refine cl Pa (QA (fJ zs j) (fJ zs (j-1)) h) ?_
     rintro _ x ⟨rfl,l⟩
     have b:=yq a l
     refine gH b 3 ?_
     cases d:(decide ((fJ zs j)<(fJ zs (j-1))):Bool)
     . skip
       refine iS b 12 ?_
       refine tN (?_)
       exact again ((i+1),zs) ⟨rfl,rfl,rfl,gr rO,trivial⟩ (⟨b,D,C.done o_ G (of_decide_eq_false d),o_⟩) (by show (xs.length+1-(i+1):Nat)<xs.length+1-i;omega)
     . skip
       refine q7 b 14 fun y c=>?_
       refine iP (cf:=iw) (k:=(j-1)) (i:=(j:Int)-1) rfl rfl rfl oB jx (iO c 0 rfl) o_ o_ (gz om) (fK c 6 ?_)
       refine iQ (f:=(fun _=>(fJ zs (j-1)))) 0 c (fun z e=>?_)
       refine iP (cf:=iw) (k:=(j-1)) (i:=(j:Int)-1) rfl rfl rfl oB jx (iO e 0 rfl) o_ o_ (gz om) (iQ (f:=(fun _=>(fJ zs j))) 0 e (fun A g=>?_))
       refine fQ g 8 ?_
       refine tN (?_)
       exact again ((j-1),fO (fO zs j (fun _=>(fJ zs (j-1)))) (j-1) (fun _=>(fJ zs j))) ⟨rfl,rfl,rfl,rfl,gr rO,trivial⟩ (⟨g,(ae7 o_ o_).trans D,C.swap o_ G o_ (of_decide_eq_true d),o_⟩) (by show ((j-1):Nat)<j;omega)
   . refine fQ a 27 ?_
     refine tN (?_)
     exact again ((i+1),zs) ⟨rfl,rfl,rfl,gr rO,trivial⟩ (⟨a,D,(by rw[show j=0 by omega]at C;exact C.Wu),o_⟩) (by show (xs.length+1-(i+1):Nat)<xs.length+1-i;omega)
 . refine fQ B 8 ?_
   refine iZ Tryz.results231 ?_
   exact⟨ys,rfl,⟨E,fun p q I L=>F p q I o_⟩,yo B⟩
theorem Vj(n:Nat)(w:World)(h:n<=12) :
 CR ya 222 (xJ n) w (fun r w' => ∃ z,r = .int .i64 z/\gA [] w w'):=by
 refine en Tryz.func222 Tryz.ntmps222 ?_
 have c:=yt w
 refine fR c 9 ?_
 refine cmp rfl rfl rfl (oG o_) (fK c 9 ?_)
 refine cmp rfl rfl rfl (oG o_) (fK c 9 ?_)
 refine cmp rfl rfl rfl (oG o_) (fK c 10 ?_)
 refine ZT 256 rfl rfl rfl Tryz.underlying9 rfl o_ o_ fun a b=>(fQ c 6 ?_)
 refine gp (v:=(Za (0+(a.toNat:Int)))) Tryz.results222 rfl ?_
 exact⟨0+(a.toNat:Int),rfl,c.gD s_⟩
theorem NB(n:Nat)(w:World)(h:n<=12) :
 CR ya 206 (xJ n) w (fun r w' => ∃ z,r = .int .i64 z/\gA [] w w'):=by
 refine en Tryz.func206 Tryz.ntmps206 ?_
 have e:=yt w
 refine fR e 12 ?_
 refine cl XE (Vj n w o_) ?_
 rintro _ d ⟨a,rfl,c⟩
 have b:=yq e c
 refine fQ b 4 ?_
 refine gp (v:=(Za a)) Tryz.results206 rfl ?_
 exact⟨a,rfl,b.gD s_⟩
theorem acJ(v:Value)(xs:List Int)(w:World)(i:Own (rM v xs) w)(z:Int)(l:xs.length<=12) :
 CR ya 212 #[v,Zc,(Za xs.length),(Za z)] w (fun r w' => ∃ ys:List Int,r = .tuple #[]/\(ys.Perm xs/\qG ys ys.length)/\fZ (rM v xs) w w' (rM v ys)):=by
 refine en Tryz.func212 Tryz.ntmps212 ?_
 have h:=yr i
 refine s9 h 11 ?_
 refine lp (α:=Nat) (fun k=>[(0,v),(1,Zc),(2,(Za xs.length)),(3,(Za z)),(8,Zf),(9,Zf)]) (fun k w1=>St [(w,(rM v xs).gJ)] [fM iw v 27 1 xs] w1) (fun k=>0) 0 ⟨rfl,rfl,rfl,rfl,rfl,rfl,trivial⟩ h ?_
 rintro k e b g
 refine fR g 13 ?_
 refine cmp rfl rfl rfl (Ax o_) (fK g 8 ?_)
 refine cl XH (aaf v xs b (ye g 0 rfl) o_) ?_
 rintro _ f ⟨c,rfl,d,j⟩
 have a:=yk 0 g j
 refine fQ a 7 ?_
 refine Bb Tryz.results212 ?_
 exact⟨c,rfl,d,yo a⟩
theorem aeO(v:Value)(xs:List Int)(w:World)(j:Own (rM v xs) w)(k:xs.length<=12) :
 CR ya 204 #[v] w (fun r w' => ∃ ys:List Int,r = .tuple #[]/\(ys.Perm xs/\qG ys ys.length)/\fZ (rM v xs) w w' (rM v ys)):=by
 refine en Tryz.func204 Tryz.ntmps204 ?_
 have i:=yr j
 refine fR i 3 ?_
 refine jm (m:=xs.length) 0 rfl rfl oB i rfl (fK i 8 ?_)
 refine cl OT (NB xs.length w o_) ?_
 rintro _ c ⟨d,rfl,e⟩
 have a:=yq i e
 refine cl XD (acJ v xs c (ye a 0 rfl) d k) ?_
 rintro _ h ⟨f,rfl,g,l⟩
 have b:=yk 0 a l
 refine fQ b 1 ?_
 refine iZ Tryz.results204 ?_
 exact⟨f,rfl,g,yo b⟩
theorem abT(x:Int)(w:World) :
 CR ya 90 (xJ x) w (fun r w' => r = .bool false/\gA [] w w'):=by
 refine en Tryz.func90 Tryz.ntmps90 ?_
 have a:=yt w
 refine iS a 14 ?_
 refine gp (v:=Zn) Tryz.results90 rfl ?_
 exact⟨rfl,a.gD s_⟩
theorem Vm(v:Value)(xs:List Int)(x:Int)(w:World)(hv:iz 1 iw (fun _=>True) w v xs)(hs:xs.Pairwise fun a b=>a<b)(F:xs.length<=1000000) :
 CR ya 49 #[v,(Zo x)] w (fun r w' => ∃ b:Bool,r = .tuple (Z7 (gK xs x:Int) b)/\gA [] w w'):=by
 refine en Tryz.func49 Tryz.ntmps49 ?_
 have C:=yt w
 refine fR C 9 ?_
 refine k6 (v:=v) rfl rfl oB hv (gH C 12 ?_)
 refine lp (α:=Nat×Nat) (fun(i,j)=>[(0,v),(1,(Zo x)),(6,(Za xs.length)),(7,(Za i)),(8,(Za j))]) (fun(i,j) w1=>St [(w,[])] [] w1/\oP xs x i j/\i<=j/\j<=xs.length) (fun(i,j)=>j-i) (0,xs.length) ⟨rfl,rfl,rfl,gr rO,gr rO,trivial⟩ (⟨C,oP.start,o_,o_⟩) ?_
 rintro⟨i,j⟩ o d ⟨z,A,D,E⟩
 refine fR z 5 ?_
 by_cases p:((i:Int):Int)<((j:Int):Int)
 . refine fK z 13 ?_
   refine shr (a:=(i:Int)+(j:Int)) (b:=1) (e:=(((i+j) / 2:Nat):Int)) rfl rfl rfl d_ (YG (i+j) 1 64 d_) ?_
   obtain⟨f,g⟩:=pS (show ((i+j) / 2)<xs.length by omega)
   refine fK z 11 ?_
   refine cl Pa (QA f x d) ?_
   rintro _ q ⟨rfl,m⟩
   have c:=yq z m
   refine gH c 2 ?_
   cases h:(decide (f<x):Bool)
   . skip
     refine iS c 6 ?_
     refine tN (?_)
     exact again (i,((i+j) / 2)) ⟨rfl,rfl,rfl,rfl,gr rO,trivial⟩ (⟨c,A.down hs (by rw[ij g];exact of_decide_eq_false h),o_,o_⟩) (by show (((i+j) / 2)-i:Nat)<j-i;omega)
   . skip
     refine iS c 7 ?_
     refine tN (?_)
     exact again (((i+j) / 2+1),j) ⟨rfl,rfl,rfl,gr rO,rfl,trivial⟩ (⟨c,A.up hs o_ (by rw[ij g];exact of_decide_eq_true h),o_,o_⟩) (by show (j-((i+j) / 2+1):Nat)<j-i;omega)
 . refine fK z 14 ?_
   by_cases s:((i:Int):Int)<((xs.length:Int):Int)
   . obtain⟨k,t⟩:=pS (show i<xs.length by omega)
     refine fK z 7 ?_
     by_cases u:(k:Int)=(x:Int)
     . refine fQ z 18 ?_
       refine iH (v:=(Za i)) (v' := Zf) Tryz.results49 rfl rfl ?_
       have B:i=gK xs x:=oP.gK (by rw[show j=i by omega]at A;exact A) o_
       exact⟨true,by rw[B],z.gD s_⟩
     . refine fK z 6 ?_
       refine cl Yl (abT k d) ?_
       rintro _ y ⟨rfl,n⟩
       have l:=yq z n
       refine fQ l 11 ?_
       refine iH (v:=(Za i)) (v' := Zn) Tryz.results49 rfl rfl ?_
       have B:i=gK xs x:=oP.gK (by rw[show j=i by omega]at A;exact A) o_
       exact⟨false,by rw[B],l.gD s_⟩
   . refine fQ z 25 ?_
     refine iH (v:=(Za i)) (v' := Zn) Tryz.results49 rfl rfl ?_
     have B:i=gK xs x:=oP.gK (by rw[show j=i by omega]at A;exact A) o_
     exact⟨false,by rw[B],z.gD s_⟩
end
section
open Go Go.Sx
def fU.R(fN fL ub:Nat)(s:fU):fS:=kE (s.ok fN fL) (gq [blk ub 143 (pQ fN fL s (some s.mb)),fM Lv.cells s.lv 107 7 s.live,gY s.mb .u64 p_ s.im,jF 3 s.im,(AW.R s.jb s.aw),(TW.R s.tb s.ab s.t)])
abbrev Hu(a b c:Nat) d e f:=(gq [fU.R a b c d,fM Lv.cells e 107 7 f]:fS)
theorem xd(fN fL ub:Nat)(s:fU)(w:World)(d:Own (fU.R fN fL ub s) w) :
 CR ya 56 (Zh ub) w (fun r w' => r = .bool true/\fZ (fU.R fN fL ub s) w w' (fU.R fN fL ub s)):=by
 refine en Tryz.func56 Tryz.ntmps56 ?_
 have b:=Own.of d.un
 have e:s.ok fN fL:=d.fact
 refine fR b 8 ?_
 refine nh (a:=some ⟨ub,0,none⟩) (c:=true) rfl rfl rfl GV rfl (fK b 5 ?_)
 refine Re (a:=some s.mb) (c:=true) rfl rfl rfl yv rfl (fQ b 5 ?_)
 refine gp (v:=Zf) Tryz.results56 rfl ?_
 exact⟨rfl,yj (yp (p:=fU.ok fN fL s) (yc [_,_,_,_,_,_] _ b) e) ze⟩
theorem Gx(fN fL ub:Nat)(s:fU)(w:World)(l:Own (fU.R fN fL ub s) w)(id:Int) :
 CR ya 50 (Z4 ub id) w (fun r w' => ∃ (z:Nat) (b:Bool),r = .tuple (Z7 z b)/\s.t.mA id z b/\fZ (fU.R fN fL ub s) w w' (fU.R fN fL ub s)):=by
 refine en Tryz.func50 Tryz.ntmps50 ?_
 have n:=Own.of l.un
 have m:s.ok fN fL:=l.fact
 have c:=yp (p:=s.ok fN fL) (yc [_,_,_,_,_,_] _ n) m
 refine fR n 10 ?_
 refine cl wg (xd fN fL ub s w (ye c 0 rfl)) ?_
 rintro _ g ⟨rfl,k⟩
 have h:=yk 0 c k
 have a:=(jP h).unpack
 refine fK a 13 ?_
 refine cl EV (Gh s.tb s.ab s.t g (ye a 5 rfl) id) ?_
 rintro _ j ⟨d,e,rfl,i,k⟩
 have f:=yk 5 a k
 refine fQ f 7 ?_
 refine iH (v:=(Za d)) (v' := (.bool e)) Tryz.results50 rfl rfl ?_
 exact⟨d,e,rfl,i,yj (yp (p:=fU.ok fN fL s) (yc [_,_,_,_,_,_] _ f) m) ze⟩
end
section
open Go Go.Sx
theorem LA(fN fL ub:Nat)(s:fU)(w:World)(hO:Own (fU.R fN fL ub s) w)(x:Lv) :
 CR ya 75 (xK ub x) w (fun r w' => r = .int .i64 (s.gN fN fL x.u x.v)/\fZ (fU.R fN fL ub s) w w' (fU.R fN fL ub s)):=by
 have ak:s.t.A.used<=s.t.A.n:=hO.fact.tok.ul
 have ah:=hO.fact.n
 have ai:=hO.fact.tn
 have ag:=hO.fact.en
 have aj:=hO.fact.vn
 have af:s.A.used<=s.A.begun:=by have h7:=hO.fact.kW.used;omega
 have ae:=hO.fact.kW.le
 refine en Tryz.func75 Tryz.ntmps75 ?_
 have ad:=Own.of hO.un
 have hU:s.ok fN fL:=hO.fact
 refine fR ad 2 ?_
 refine iF ad (fun L B M N l=>?_)
 have C:=yg [1,2,3,4,5,6,0] l
 have m:=yp (p:=s.ok fN fL) (yc [_,_,_,_,_,_] _ C) hU
 refine fK l 7 ?_
 refine cl wg (xd fN fL ub s B (ye m 0 rfl)) ?_
 rintro _ O ⟨rfl,ht⟩
 have D:=yk 0 m ht
 have g:=(jP D).unpack
 refine fK g 13 ?_
 by_cases P:(x.u:Int)=(x.v:Int)
 . refine fQ g 11 ?_
   refine gp (v:=Ac) ug rfl ?_
   exact⟨gr (fU.NV o_).symm,yj (yp (p:=fU.ok fN fL s) (yc [_,_,_,_,_,_] _ g) hU) ze⟩
 . refine gH g 8 ?_
   refine kO mixed [([0,1,2,3,5,6,7,8,4],[8])] [9] g (fun E k=>jR ?_)
   refine fK k 8 ?_
   refine cl ET (GC s.jb s.aw E (ye k 4 rfl)) ?_
   rintro _ G ⟨rfl,ht⟩
   have e:=yk 4 k ht
   refine fQ e 1 ?_
   refine kJ (kU ?_)
   by_cases Q:((s.A.used:Int):Int)≥((fL:Int):Int)
   . refine fQ e 11 ?_
     refine gp (v:=(.int .i64 12)) ug rfl ?_
     exact⟨gr (fU.NU o_ o_).symm,yj (yp (p:=fU.ok fN fL s) (yc [_,_,_,_,_,_] _ e) hU) ze⟩
   . refine fK e 12 ?_
     refine cl O4 (TL s.tb s.ab s.t G (ye e 5 rfl)) ?_
     rintro _ H ⟨rfl,ht⟩
     have f:=yk 5 e ht
     refine fK f 10 ?_
     refine ji (pvs:=[(0,(Zo x.u)),(1,(Zo x.v))]) (v:=.agg (vN x.u x.v)) rfl rfl (uG [(0,(Zt x.u)),(1,(Zt x.v))] ue y8 jx rfl ⟨rfl,rfl,rfl,rfl,trivial⟩ rfl s_) (gH f 4 ?_)
     refine ru 3 (iD (fR f 13 ?_))
     refine mJ (i:=0) rfl rfl rfl y8 yi rfl jx d_ rfl (fK f 10 ?_)
     refine cl EV (Gh s.tb s.ab s.t H (ye f 5 rfl) x.u) ?_
     rintro _ o ⟨S,I,rfl,d,ht⟩
     have c:=yk 5 f ht
     refine gH c 13 ?_
     cases q:(I:Bool)
     . skip
       subst q
       refine iS c 12 ?_
       refine tN (?_)
       refine iD (fR c 13 ?_)
       refine mJ (i:=1) rfl rfl rfl y8 yi rfl jx d_ rfl (fK c 10 ?_)
       refine cl EV (Gh s.tb s.ab s.t o (ye c 5 rfl) x.v) ?_
       rintro _ U ⟨V,J,rfl,h,ht⟩
       have a:=yk 5 c ht
       refine gH a 13 ?_
       cases y:(J:Bool)
       . skip
         subst y
         refine iS a 12 ?_
         refine tN (?_)
         refine iD (fR a 20 ?_)
         by_cases W:(((s.t.A.used:Int)+1)+1:Int)>((fN:Int):Int)
         . refine fQ a 11 ?_
           refine gp (v:=(.int .i64 11)) ug rfl ?_
           have F:=d.cnt
           simp at F
           have T:=h.cnt
           simp at T
           exact⟨gr (fU.Ch o_ o_ o_).symm,yj (yp (p:=fU.ok fN fL s) (yc [_,_,_,_,_,_] _ a) hU) ze⟩
         . refine fQ a 12 ?_
           refine gp (v:=Zc) ug rfl ?_
           have F:=d.cnt
           simp at F
           have T:=h.cnt
           simp at T
           exact⟨gr (fU.Ay o_ o_ o_).symm,yj (yp (p:=fU.ok fN fL s) (yc [_,_,_,_,_,_] _ a) hU) ze⟩
       . skip
         subst y
         refine iS a 8 ?_
         refine tN (?_)
         refine iD (fR a 20 ?_)
         by_cases X:((s.t.A.used:Int)+1:Int)>((fN:Int):Int)
         . refine fQ a 11 ?_
           refine gp (v:=(.int .i64 11)) ug rfl ?_
           have F:=d.cnt
           simp at F
           have T:=h.cnt
           simp at T
           exact⟨gr (fU.Ch o_ o_ o_).symm,yj (yp (p:=fU.ok fN fL s) (yc [_,_,_,_,_,_] _ a) hU) ze⟩
         . refine fQ a 12 ?_
           refine gp (v:=Zc) ug rfl ?_
           have F:=d.cnt
           simp at F
           have T:=h.cnt
           simp at T
           exact⟨gr (fU.Ay o_ o_ o_).symm,yj (yp (p:=fU.ok fN fL s) (yc [_,_,_,_,_,_] _ a) hU) ze⟩
     . skip
       subst q
       refine iS c 8 ?_
       refine tN (?_)
       refine iD (fR c 13 ?_)
       refine mJ (i:=1) rfl rfl rfl y8 yi rfl jx d_ rfl (fK c 10 ?_)
       refine cl EV (Gh s.tb s.ab s.t o (ye c 5 rfl) x.v) ?_
       rintro _ Y ⟨Z,K,rfl,j,ht⟩
       have b:=yk 5 c ht
       refine gH b 13 ?_
       cases z:(K:Bool)
       . skip
         subst z
         refine iS b 12 ?_
         refine tN (?_)
         refine iD (fR b 20 ?_)
         by_cases aa:((s.t.A.used:Int)+1:Int)>((fN:Int):Int)
         . refine fQ b 11 ?_
           refine gp (v:=(.int .i64 11)) ug rfl ?_
           have F:=d.cnt
           simp at F
           have T:=j.cnt
           simp at T
           exact⟨gr (fU.Ch o_ o_ o_).symm,yj (yp (p:=fU.ok fN fL s) (yc [_,_,_,_,_,_] _ b) hU) ze⟩
         . refine fQ b 12 ?_
           refine gp (v:=Zc) ug rfl ?_
           have F:=d.cnt
           simp at F
           have T:=j.cnt
           simp at T
           exact⟨gr (fU.Ay o_ o_ o_).symm,yj (yp (p:=fU.ok fN fL s) (yc [_,_,_,_,_,_] _ b) hU) ze⟩
       . skip
         subst z
         refine iS b 8 ?_
         refine tN (?_)
         refine iD (fR b 20 ?_)
         by_cases ac:((s.t.A.used:Int):Int)>((fN:Int):Int)
         . refine fQ b 11 ?_
           refine gp (v:=(.int .i64 11)) ug rfl ?_
           have F:=d.cnt
           simp at F
           have T:=j.cnt
           simp at T
           exact⟨gr (fU.Ch o_ o_ o_).symm,yj (yp (p:=fU.ok fN fL s) (yc [_,_,_,_,_,_] _ b) hU) ze⟩
         . refine fQ b 12 ?_
           refine gp (v:=Zc) ug rfl ?_
           have F:=d.cnt
           simp at F
           have T:=j.cnt
           simp at T
           exact⟨gr (fU.Ay o_ o_ o_).symm,yj (yp (p:=fU.ok fN fL s) (yc [_,_,_,_,_,_] _ b) hU) ze⟩
end
end Go.Proofs.YthpnckhjmbbalaaGreatDoor
