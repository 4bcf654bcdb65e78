/- What the functions that the statements reach do: walks through the code of the program and of the references, one theorem a function; under what is said of its arguments. -/
import Derived.Test.YthpnckhjmbbalaaGreatDoorFb
import Derived.Test.YthpnckhjmbbalaaGreatDoorVa
import Derived.Test.YthpnckhjmbbalaaGreatDoorFd
import Derived.Test.YthpnckhjmbbalaaGreatDoorFc
import Derived.Test.YthpnckhjmbbalaaGreatDoorFa
set_option linter.unusedVariables false
set_option linter.unusedSimpArgs false
set_option maxRecDepth 100000
set_option maxHeartbeats 4000000
namespace Go.Proofs.YthpnckhjmbbalaaGreatDoor
section
open Go Go.Sx
theorem vW(ab:Nat)(bv:Value)(cn cb d cl:Int)(ps:List (Option Nat))(sl:List gT)(w:World)(e:Own (Ae ab bv cn cb d cl ps sl) w) :
 CR ya 98 (Zh ab) w (fun r w' => r = .bool true/\fZ (Ae ab bv cn cb d cl ps sl) w w' (Ae ab bv cn cb d cl ps sl)):=by
 refine en Tryz.func98 Tryz.ntmps98 ?_
 have b:=(yr e).unpack
 refine fR b 8 ?_
 refine mY (a:=some ⟨ab,0,none⟩) (c:=true) rfl rfl rfl Tryz.underlying138 rfl (fK b 6 ?_)
 refine CD (a:=⟨ab,0,none⟩) rfl rfl rfl Tryz.underlying138 Gy (fQ b 5 ?_)
 refine gp (v:=Zf) Tryz.results98 rfl ?_
 exact⟨rfl,yn (yc [_,_,_] _ b)⟩
theorem Aj(ab:Nat)(bv:Value)(cn cb d cl:Int)(ps:List (Option Nat))(sl:List gT)(w:World)(f:Own (Ae ab bv cn cb d cl ps sl) w)(i:Nat)(hi:i<=1000000)(b:Nat)(hb:ps[i / 64]? = some (some b)) :
 CR ya 109 (Zm ab i) w (fun r w' => r = .pointer (some ⟨b,i%64*3+0,none⟩)/\fZ (Ae ab bv cn cb d cl ps sl) w w' (Ae ab bv cn cb d cl ps sl)):=by
 have g:i / 64<ps.length:=(zj.1 hb).1
 refine en Tryz.func109 Tryz.ntmps109 ?_
 have c:=(yr f).unpack
 refine fR c 12 ?_
 refine quo (a:=(i:Int)) (b:=64) (e:=((i / 64:Nat):Int)) rfl rfl rfl d_ (wN 64 o_) (fK c 3 ?_)
 refine rem (a:=(i:Int)) (b:=64) (e:=((i%64:Nat):Int)) rfl rfl rfl d_ (Dh 64) (uR rfl (AY (iD hb)) (jM (o:=0) (o' := i%64*3+0) (i:=((i%64:Nat):Int)) rfl rfl rfl Tryz.underlying265 Ty o_ (by simp only[nq];omega) (fQ c 4 ?_)))
 refine gp (v:=(.pointer (some ⟨b,i%64*3+0,none⟩))) Tryz.results109 rfl ?_
 exact⟨rfl,yn (yc [_,_,_] _ c)⟩
theorem Nv(ab:Nat)(bv:Value)(A:As)(w:World)(j:Own (Zq ab bv A) w)(g:A.ok)(i:Nat)(hi:i<=1000000) :
 CR ya 108 (Zm ab i) w (fun r w' => r = .int .i64 (if i<A.begun then(fJ A.sl i).st else 0)/\fZ (Zq ab bv A) w w' (Zq ab bv A)):=by
 refine en Tryz.func108 Tryz.ntmps108 ?_
 have f:=(yr j).unpack
 refine fR f 13 ?_
 by_cases d:((i:Int):Int)≥((A.begun:Int):Int)
 . refine fQ f 11 ?_
   refine gp (v:=Zc) Tryz.results108 rfl ?_
   exact⟨gw (by rw[if_neg o_]),yn (yc [_,_,_] _ f)⟩
 . have h:i<A.begun:=by omega
   have k:=(g.room h).1
   obtain⟨b,hb⟩:=g.at h
   have c:=yc [_,_,_] _ f
   refine fK f 10 ?_
   refine cl Au (Aj ab bv (A.n:Int) (A.begun:Int) (A.used:Int) A.last A.ps A.sl w (ye c 0 rfl) i o_ b hb) ?_
   rintro _ e ⟨rfl,l⟩
   have a:=(yi c l)
   refine fK a 1 ?_
   refine fa (o' := i%64*3+0) rfl rfl pe rfl gy (by simp only[k6];rfl) (ld rfl rfl yf rfl (Bu a (i:=2) rfl f_ d_ k hb rfl) (fQ a 4 ?_))
   refine gp (v:=(Za ((fJ A.sl i).st))) Tryz.results108 rfl ?_
   exact⟨gw (by rw[if_pos o_]),yn (yc [_,_,_] _ a)⟩
theorem US(ab:Nat)(bv:Value)(A:As)(w:World)(e:Own (Zq ab bv A) w)(g:A.ok) :
 CR ya 58 (Zh ab) w (fun r w' => r = .int .i64 (A.used:Int)/\fZ (Zq ab bv A) w w' (Zq ab bv A)):=by
 refine en Tryz.func58 Tryz.ntmps58 ?_
 have d:=(yr e).unpack
 have a:=yc [_,_,_] _ d
 refine fR d 9 ?_
 refine cl v8 (vW ab bv (A.n:Int) (A.begun:Int) (A.used:Int) A.last A.ps A.sl w (ye a 0 rfl)) ?_
 rintro _ c ⟨rfl,f⟩
 have b:=(yi a f)
 refine fQ b 16 ?_
 refine gp (v:=(Za A.used)) Tryz.results58 rfl ?_
 exact⟨rfl,yn (yc [_,_,_] _ b)⟩
theorem U1(ab:Nat)(bv:Value)(A:As)(w:World)(e:Own (Zq ab bv A) w)(h:A.ok)(i:Nat)(f:A.last=(i:Int)) :
 CR ya 160 (Zh ab) w (fun r w' => r = .tuple (Eh i)/\fZ (Zq ab bv A) w w' (Zq ab bv A)):=by
 refine en Tryz.func160 Tryz.ntmps160 ?_
 have d:=(yr e).unpack
 have b:=yc [_,_,_] _ d
 refine fR d 11 ?_
 refine cl v8 (vW ab bv (A.n:Int) (A.begun:Int) (A.used:Int) A.last A.ps A.sl w (ye b 0 rfl)) ?_
 rintro _ c ⟨rfl,g⟩
 have a:=(yi b g)
 refine fK a 11 ?_
 refine cmp rfl rfl rfl (NM o_) (fQ a 17 ?_)
 refine iF (v:=(Za A.last)) (v' := Zf) Tryz.results160 rfl rfl ?_
 exact⟨by rw[f],yn (yc [_,_,_] _ a)⟩
theorem U2(ab:Nat)(bv:Value)(A:As)(w:World)(g:Own (Zq ab bv A) w)(i:A.ok)(j:A.last = -1)(hb:A.begun<A.n) :
 CR ya 160 (Zh ab) w (fun r w' => r = .tuple (Eh A.begun)/\fZ (Zq ab bv A) w w' (Zq ab bv A)):=by
 refine en Tryz.func160 Tryz.ntmps160 ?_
 have f:=(yr g).unpack
 have a:=yc [_,_,_] _ f
 refine fR f 11 ?_
 refine cl v8 (vW ab bv (A.n:Int) (A.begun:Int) (A.used:Int) A.last A.ps A.sl w (ye a 0 rfl)) ?_
 rintro _ d ⟨rfl,h⟩
 have b:=(yi a h)
 refine fK b 11 ?_
 refine cmp rfl rfl rfl (qM o_) (gO b 14 fun e c=>?_)
 refine cmp rfl rfl rfl (qm o_) (fQ c 17 ?_)
 refine iF (v:=(Za A.begun)) (v' := Zf) Tryz.results160 rfl rfl ?_
 exact⟨rfl,yn (yc [_,_,_] _ c)⟩
end
section
open Go Go.Sx
theorem UD(ab:Nat)(bv:Value)(A:As)(w:World)(Q:Own (Zq ab bv A) w)(I:A.ok)(i:Nat)(r:List Nat)(R:A.fl=i :: r) :
 CR ya 119 (Zh ab) w (fun r w' => r = .tuple (xB i)/\∃ A2 O,As.ok A2/\(A2.n=A.n/\A2.begun=A.begun/\A2.used=A.used+1)/\(∀ j,A2.gX j↔A.gX j\/j=i)/\fZ (Zq ab bv A) w w' (Zq ab O A2)):=by
 have V:=I.n
 have U:=I.le
 have W:=I.used
 obtain⟨T,S,X,K,L⟩:=I.pop R
 have F:=(I.room K).1
 obtain⟨b,hb⟩:=I.at K
 refine en Tryz.func119 Tryz.ntmps119 ?_
 have N:=(yr Q).unpack
 have g:=yc [_,_,_] _ N
 refine fR N 10 ?_
 refine cl v8 (vW ab bv (A.n:Int) (A.begun:Int) (A.used:Int) A.last A.ps A.sl w (ye g 0 rfl)) ?_
 rintro _ s ⟨rfl,J⟩
 have h:=(yi g J)
 have k:=yc [_,_,_] _ h
 refine fK h 9 ?_
 refine cl OD (U1 ab bv A s (ye k 0 rfl) I i L) ?_
 rintro _ t ⟨rfl,J⟩
 have c:=(yi k J)
 refine fK c 25 ?_
 refine cmp rfl rfl rfl (qj L.symm) ?_
 have l:=yc [_,_,_] _ c
 refine fK c 7 ?_
 refine cl Au (Aj ab bv (A.n:Int) (A.begun:Int) (A.used:Int) A.last A.ps A.sl t (ye l 0 rfl) i o_ b hb) ?_
 rintro _ B ⟨rfl,J⟩
 have d:=(yi l J)
 refine fK d 1 ?_
 refine fa (o' := i%64*3+1) rfl rfl pe rfl gy (by simp only[k6];rfl) (ld rfl rfl yf rfl (Bu d (i:=2) rfl f_ d_ (by first|exact F|(simp only[gB];exact F)) hb rfl) (gO d 9 fun u y=>?_))
 have m:=yc [_,_,_] _ y
 refine cl Au (Aj ab bv (A.n:Int) (A.begun:Int) (A.used:Int) ((fJ A.sl i).after) A.ps A.sl u (ye m 0 rfl) i o_ b hb) ?_
 rintro _ C ⟨rfl,J⟩
 have o:=(yi m J)
 refine fK o 7 ?_
 refine fa (o' := i%64*3+0) rfl rfl pe rfl gy (by simp only[k6];rfl) (q7 (f:=(fun x=>{ x with st:=1 })) (L' := [blk ab 203 (Hx ab bv A ((fJ A.sl i).after)),fM iA bv 259 1 A.ps,gP gT.cells 265 64 A.ps (fO A.sl i (fun x=>{ x with st:=1 }))]) 2 rfl rfl rfl rfl gy rfl rfl o rfl f_ d_ (by first|exact F|(simp only[gB];exact F)) hb rfl rfl rfl (fun D p=>fK p 6 ?_))
 refine fa (o' := i%64*3+1) rfl rfl pe rfl gy (by simp only[k6];rfl) (q7 (f:=(fun x=>{ x with after := -1 })) (L' := [blk ab 203 (Hx ab bv A ((fJ A.sl i).after)),fM iA bv 259 1 A.ps,gP gT.cells 265 64 A.ps (fO (fO A.sl i (fun x=>{ x with st:=1 })) i (fun x=>{ x with after := -1 }))]) 2 rfl rfl rfl rfl gy rfl rfl p rfl f_ d_ (by first|exact F|(simp only[gB];exact F)) hb rfl rfl rfl (fun E a=>fK a 6 ?_))
 refine fa (o' := i%64*3+2) rfl rfl pe rfl jI (by simp only[k6];rfl) (ld rfl rfl yj rfl (Bu a (i:=2) rfl f_ d_ (by first|exact F|(simp only[gB];exact F)) hb rfl) (ar (e:=(IntKind.u64.wrap (((fJ (fO (fO A.sl i (fun x=>{ x with st:=1 })) i (fun x=>{ x with after := -1 })) i).times)+1))) rfl rfl rfl rfl rfl (fK a 1 ?_)))
 refine fa (o' := i%64*3+2) rfl rfl pe rfl jI (by simp only[k6];rfl) (q7 (f:=(fun x=>{ x with times:=(IntKind.u64.wrap (((fJ (fO (fO A.sl i (fun x=>{ x with st:=1 })) i (fun x=>{ x with after := -1 })) i).times)+1)) })) (L' := [blk ab 203 (Hx ab bv A ((fJ A.sl i).after)),fM iA bv 259 1 A.ps,gP gT.cells 265 64 A.ps (fO (fO (fO A.sl i (fun x=>{ x with st:=1 })) i (fun x=>{ x with after := -1 })) i (fun x=>{ x with times:=(IntKind.u64.wrap (((fJ (fO (fO A.sl i (fun x=>{ x with st:=1 })) i (fun x=>{ x with after := -1 })) i).times)+1)) }))]) 2 rfl rfl rfl rfl jI rfl rfl a rfl f_ d_ (by first|exact F|(simp only[gB];exact F)) hb rfl rfl rfl (fun G q=>fK q 8 ?_))
 refine ar (e:=((A.used+1:Nat):Int)) rfl rfl rfl rfl iZ (jY q 13 fun H z=>?_)
 refine iF (v:=(Za i)) (v' := Zc) Tryz.results119 rfl rfl ?_
 have P:fO (fO (fO A.sl i (fun x=>{ x with st:=1 })) i (fun x=>{ x with after := -1 })) i (fun x=>{ x with times:=(IntKind.u64.wrap (((fJ (fO (fO A.sl i (fun x=>{ x with st:=1 })) i (fun x=>{ x with after := -1 })) i).times)+1)) })=fO A.sl i tk:=Lp F (by rw[jS (by rw[gB];exact F),jS F])
 have M:=z
 rw[P]at M
 exact⟨rfl,⟨A.n,A.begun,A.used+1,(fJ A.sl i).after,fO A.sl i tk,r,A.ps⟩,bv,T,⟨rfl,rfl,rfl⟩,S,yn (yc [_,_,_] _ M)⟩
theorem UE(ab:Nat)(bv:Value)(A:As)(w:World)(hO:Own (Zq ab bv A) w)(hA:A.ok)(hf:A.fl=[])(az:A.begun<A.n) :
 CR ya 119 (Zh ab) w (fun r w' => r = .tuple (xB A.begun)/\∃ A2 aC,As.ok A2/\(A2.n=A.n/\A2.begun=A.begun+1/\A2.used=A.used+1)/\(∀ j,A2.gX j↔A.gX j\/j=A.begun)/\fZ (Zq ab bv A) w w' (Zq ab aC A2)):=by
 have aG:=hA.n
 have aF:=hA.le
 have aH:=hA.used
 have hl:A.last = -1:=by have h7:=hA.chain;rw[hf]at h7;exact h7
 refine enter (vs:=(Zi ab)) Tryz.func119 rfl Tryz.ntmps119 rfl ?_
 have aB:St _ (Ai ab bv A) w:=(yr hO).unpack
 have y:=yc [_,_,_] _ aB
 refine fR aB 10 ?_
 refine jN (vl:=(Zi ab)) rfl rfl v8 (vW ab bv (A.n:Int) (A.begun:Int) (A.used:Int) A.last A.ps A.sl w (kY y (i:=0) rfl)) ?_
 rintro _ z ⟨rfl,ht⟩
 have B:St _ (Ai ab bv A) z:=(lY (R' := (Zq ab bv A)) 0 y rfl ht rfl).unpack
 have C:=yc [_,_,_] _ B
 refine fK B 9 ?_
 refine jN (vl:=(Zi ab)) rfl rfl OD (U2 ab bv A z (kY C (i:=0) rfl) hA hl az) ?_
 rintro _ N ⟨rfl,ht⟩
 have h:St _ (Ai ab bv A) N:=(lY (R' := (Zq ab bv A)) 0 C rfl ht rfl).unpack
 refine fK h 25 ?_
 refine cmp (a:=(A.begun:Int)) (b:=A.last) rfl rfl rfl (uD o_) (fK h 7 ?_)
 refine rem (a:=(A.begun:Int)) (b:=64) (e:=((A.begun%64:Nat):Int)) rfl rfl rfl d_ (Dh 64) ?_
 by_cases af:(((A.begun%64:Nat):Int):Int)=(0:Int)
 . refine fK h 10 ?_
   refine iO h (fun d ag ah ai O=>?_)
   refine kg (vs:=(Zi d)) (cs:=(Zi d)) rfl rfl Bn Dy rfl (by simp[Value.cells]) rfl rfl rfl O ?_
   intro s P aj ak l
   have l:St _ [row (Z6 s) 259 1 1 ((Zi d)),blk d 265 MR,blk ab 203 (Z5 ab bv A),fM iA bv 259 1 A.ps,gP gT.cells 265 64 A.ps A.sl] P:=l
   refine mS (cf:=iA) (ys:=A.ps) (zs:=[(some d)]) (LL:=fun g=>(MA (row (.slice (some ⟨s,0,none⟩) 1 1) 259 1 1 ([(.pointer (some ⟨d,0,none⟩))])) d ab bv A g (A.ps++[(some d)]))) 3 rfl rfl rfl Bn Dy rfl d_ l rfl (lX l (i:=0) rfl) (fun x hx=>zq.1 (show List.all _ _=true from rfl) x hx) (by have h7:=hA.o7;simp only[zh,zm];omega) (by have h7:=hA.o7;simp only[zh,zm];omega) f_ ?_
   intro g Q t al
   have t:St _ (MA (row (.slice (some ⟨s,0,none⟩) 1 1) 259 1 1 ([(.pointer (some ⟨d,0,none⟩))])) d ab bv A g (A.ps++[(some d)])) Q:=t
   have m:=yg [1,2,3,4] t
   refine fK m 2 ?_
   refine j8 1 m (fun R D=>?_) (hvs:=(cells_one (yu m (i:=2) rfl))) (h1:=(iw (yu m (i:=2) rfl) lS))
   have S:=yg [0,3,1,2] D
   have U:St _ [gP gT.cells 265 64 (A.ps++[(some d)]) (A.sl++List.replicate 64 (⟨0,0,0⟩:gT)),blk ab 203 (Z5 ab g A),fM iA g 259 1 (A.ps++[(some d)])] R:=St.NS S hA.sl s_ rfl
   obtain⟨aA,ay,aE,aD,F,c,T⟩:=hA.fresh hf az (ps2:=A.ps++[(some d)]) (sl2:=A.sl++List.replicate 64 (⟨0,0,0⟩:gT)) (b:=d) (.inl ⟨o_,rfl,rfl⟩)
   refine fK D 7 ?_
   refine ar (a:=(A.begun:Int)) (b:=1) (c:=(A.begun:Int)+1) (e:=((A.begun+1:Nat):Int)) rfl rfl rfl rfl (by rw[oL o_];omega) (gO U 9 fun V W=>?_)
   have X:=yg [1,2,0] W
   have E:=yc [_,_,_] _ X
   refine jN (vl:=(tA ab A.begun)) rfl rfl Au (Aj ab g (A.n:Int) ((A.begun+1:Nat):Int) (A.used:Int) A.last (A.ps++[(some d)]) (A.sl++List.replicate 64 (⟨0,0,0⟩:gT)) V (kY E (i:=0) rfl) A.begun o_ c T) ?_
   rintro _ Y ⟨rfl,ht⟩
   have G:St _ (Mo ab g A ((A.begun+1:Nat):Int) (A.ps++[(some d)]) (A.sl++List.replicate 64 (⟨0,0,0⟩:gT))) Y:=(lY (R' := (gq (Mo ab g A ((A.begun+1:Nat):Int) (A.ps++[(some d)]) (A.sl++List.replicate 64 (⟨0,0,0⟩:gT))))) 0 E rfl ht rfl).unpack
   refine fK G 7 ?_
   refine fa (o:=A.begun%64*3+0) (o' := A.begun%64*3+0) rfl rfl pe rfl gy (by simp only[k6];rfl) (q7 (cf:=gT.cells) (xs:=A.sl++List.replicate 64 (⟨0,0,0⟩:gT)) (k:=A.begun) (off:=0) (f:=(fun x=>{ x with st:=1 })) (u:=qD) (vs:=[qD]) (L' := [blk ab 203 (vP ab g A ((A.begun+1:Nat):Int)),fM iA g 259 1 (A.ps++[(some d)]),gP gT.cells 265 64 (A.ps++[(some d)]) (fO (A.sl++List.replicate 64 (⟨0,0,0⟩:gT)) A.begun (fun x=>{ x with st:=1 }))]) 2 rfl rfl rfl rfl gy rfl rfl G rfl f_ d_ (by first|exact F|(simp only[gB];exact F)) T rfl rfl rfl (fun am H=>fK H 6 ?_))
   refine fa (o:=A.begun%64*3+0) (o' := A.begun%64*3+1) rfl rfl pe rfl gy (by simp only[k6];rfl) (q7 (cf:=gT.cells) (xs:=fO (A.sl++List.replicate 64 (⟨0,0,0⟩:gT)) A.begun (fun x=>{ x with st:=1 })) (k:=A.begun) (off:=1) (f:=(fun x=>{ x with after := -1 })) (u:=Zw) (vs:=[Zw]) (L' := [blk ab 203 (vP ab g A ((A.begun+1:Nat):Int)),fM iA g 259 1 (A.ps++[(some d)]),gP gT.cells 265 64 (A.ps++[(some d)]) (fO (fO (A.sl++List.replicate 64 (⟨0,0,0⟩:gT)) A.begun (fun x=>{ x with st:=1 })) A.begun (fun x=>{ x with after := -1 }))]) 2 rfl rfl rfl rfl gy rfl rfl H rfl f_ d_ (by first|exact F|(simp only[gB];exact F)) T rfl rfl rfl (fun an p=>fK p 6 ?_))
   refine fa (o:=A.begun%64*3+0) (o' := A.begun%64*3+2) rfl rfl pe rfl jI (by simp only[k6];rfl) (ld (a:=⟨c,A.begun%64*3+2,none⟩) (v:=(.int .u64 ((fJ (fO (fO (A.sl++List.replicate 64 (⟨0,0,0⟩:gT)) A.begun (fun x=>{ x with st:=1 })) A.begun (fun x=>{ x with after := -1 })) A.begun).times))) rfl rfl yj rfl (Bu p (i:=2) rfl f_ d_ (by first|exact F|(simp only[gB];exact F)) T rfl) (ar (a:=(fJ (fO (fO (A.sl++List.replicate 64 (⟨0,0,0⟩:gT)) A.begun (fun x=>{ x with st:=1 })) A.begun (fun x=>{ x with after := -1 })) A.begun).times) (b:=1) (c:=((fJ (fO (fO (A.sl++List.replicate 64 (⟨0,0,0⟩:gT)) A.begun (fun x=>{ x with st:=1 })) A.begun (fun x=>{ x with after := -1 })) A.begun).times)+1) (e:=(IntKind.u64.wrap (((fJ (fO (fO (A.sl++List.replicate 64 (⟨0,0,0⟩:gT)) A.begun (fun x=>{ x with st:=1 })) A.begun (fun x=>{ x with after := -1 })) A.begun).times)+1))) rfl rfl rfl rfl rfl (fK p 1 ?_)))
   refine fa (o:=A.begun%64*3+0) (o' := A.begun%64*3+2) rfl rfl pe rfl jI (by simp only[k6];rfl) (q7 (cf:=gT.cells) (xs:=fO (fO (A.sl++List.replicate 64 (⟨0,0,0⟩:gT)) A.begun (fun x=>{ x with st:=1 })) A.begun (fun x=>{ x with after := -1 })) (k:=A.begun) (off:=2) (f:=(fun x=>{ x with times:=(IntKind.u64.wrap (((fJ (fO (fO (A.sl++List.replicate 64 (⟨0,0,0⟩:gT)) A.begun (fun x=>{ x with st:=1 })) A.begun (fun x=>{ x with after := -1 })) A.begun).times)+1)) })) (u:=(.int .u64 (IntKind.u64.wrap (((fJ (fO (fO (A.sl++List.replicate 64 (⟨0,0,0⟩:gT)) A.begun (fun x=>{ x with st:=1 })) A.begun (fun x=>{ x with after := -1 })) A.begun).times)+1)))) (vs:=[(.int .u64 (IntKind.u64.wrap (((fJ (fO (fO (A.sl++List.replicate 64 (⟨0,0,0⟩:gT)) A.begun (fun x=>{ x with st:=1 })) A.begun (fun x=>{ x with after := -1 })) A.begun).times)+1)))]) (L' := [blk ab 203 (vP ab g A ((A.begun+1:Nat):Int)),fM iA g 259 1 (A.ps++[(some d)]),gP gT.cells 265 64 (A.ps++[(some d)]) (fO (fO (fO (A.sl++List.replicate 64 (⟨0,0,0⟩:gT)) A.begun (fun x=>{ x with st:=1 })) A.begun (fun x=>{ x with after := -1 })) A.begun (fun x=>{ x with times:=(IntKind.u64.wrap (((fJ (fO (fO (A.sl++List.replicate 64 (⟨0,0,0⟩:gT)) A.begun (fun x=>{ x with st:=1 })) A.begun (fun x=>{ x with after := -1 })) A.begun).times)+1)) }))]) 2 rfl rfl rfl rfl jI rfl rfl p rfl f_ d_ (by first|exact F|(simp only[gB];exact F)) T rfl rfl rfl (fun ao I=>fK I 8 ?_))
   refine ar (a:=(A.used:Int)) (b:=1) (c:=(A.used:Int)+1) (e:=((A.used+1:Nat):Int)) rfl rfl rfl rfl (by rw[oL o_];omega) (jY I 13 fun ap Z=>?_)
   refine iF (v:=(Za A.begun)) (v' := Zc) Tryz.results119 rfl rfl ?_
   have e9:fO (fO (fO (A.sl++List.replicate 64 (⟨0,0,0⟩:gT)) A.begun (fun x=>{ x with st:=1 })) A.begun (fun x=>{ x with after := -1 })) A.begun (fun x=>{ x with times:=(IntKind.u64.wrap (((fJ (fO (fO (A.sl++List.replicate 64 (⟨0,0,0⟩:gT)) A.begun (fun x=>{ x with st:=1 })) A.begun (fun x=>{ x with after := -1 })) A.begun).times)+1)) })=fO (A.sl++List.replicate 64 (⟨0,0,0⟩:gT)) A.begun tk:=Lp F (by rw[jS (by rw[gB];exact F),jS F])
   have ax:=Z
   rw[e9]at ax
   exact⟨rfl,⟨A.n,A.begun+1,A.used+1,A.last,fO (A.sl++List.replicate 64 (⟨0,0,0⟩:gT)) A.begun tk,[],A.ps++[(some d)]⟩,g,aA,⟨rfl,rfl,rfl⟩,ay,yo (R' := (Nc ab g ((⟨A.n,A.begun+1,A.used+1,A.last,fO (A.sl++List.replicate 64 (⟨0,0,0⟩:gT)) A.begun tk,[],A.ps++[(some d)]⟩:As).n:Int) ((⟨A.n,A.begun+1,A.used+1,A.last,fO (A.sl++List.replicate 64 (⟨0,0,0⟩:gT)) A.begun tk,[],A.ps++[(some d)]⟩:As).begun:Int) ((⟨A.n,A.begun+1,A.used+1,A.last,fO (A.sl++List.replicate 64 (⟨0,0,0⟩:gT)) A.begun tk,[],A.ps++[(some d)]⟩:As).used:Int) (⟨A.n,A.begun+1,A.used+1,A.last,fO (A.sl++List.replicate 64 (⟨0,0,0⟩:gT)) A.begun tk,[],A.ps++[(some d)]⟩:As))) (yc [_,_,_] _ ax) zd⟩
 . obtain⟨aA,ay,aE,aD,F,c,T⟩:=hA.fresh hf az (ps2:=A.ps) (sl2:=A.sl) (b:=0) (.inr ⟨o_,rfl,rfl⟩)
   refine fK h 11 ?_
   refine ar (a:=(A.begun:Int)) (b:=1) (c:=(A.begun:Int)+1) (e:=((A.begun+1:Nat):Int)) rfl rfl rfl rfl (by rw[oL o_];omega) (gO h 9 fun aa ac=>?_)
   have J:=yc [_,_,_] _ ac
   refine jN (vl:=(tA ab A.begun)) rfl rfl Au (Aj ab bv (A.n:Int) ((A.begun+1:Nat):Int) (A.used:Int) A.last A.ps A.sl aa (kY J (i:=0) rfl) A.begun o_ c T) ?_
   rintro _ ad ⟨rfl,ht⟩
   have K:St _ (Mn ab bv A ((A.begun+1:Nat):Int)) ad:=(lY (R' := (gq (Mn ab bv A ((A.begun+1:Nat):Int)))) 0 J rfl ht rfl).unpack
   refine fK K 7 ?_
   refine fa (o:=A.begun%64*3+0) (o' := A.begun%64*3+0) rfl rfl pe rfl gy (by simp only[k6];rfl) (q7 (cf:=gT.cells) (xs:=A.sl) (k:=A.begun) (off:=0) (f:=(fun x=>{ x with st:=1 })) (u:=qD) (vs:=[qD]) (L' := [blk ab 203 (vP ab bv A ((A.begun+1:Nat):Int)),fM iA bv 259 1 A.ps,gP gT.cells 265 64 A.ps (fO A.sl A.begun (fun x=>{ x with st:=1 }))]) 2 rfl rfl rfl rfl gy rfl rfl K rfl f_ d_ (by first|exact F|(simp only[gB];exact F)) T rfl rfl rfl (fun aq L=>fK L 6 ?_))
   refine fa (o:=A.begun%64*3+0) (o' := A.begun%64*3+1) rfl rfl pe rfl gy (by simp only[k6];rfl) (q7 (cf:=gT.cells) (xs:=fO A.sl A.begun (fun x=>{ x with st:=1 })) (k:=A.begun) (off:=1) (f:=(fun x=>{ x with after := -1 })) (u:=Zw) (vs:=[Zw]) (L' := [blk ab 203 (vP ab bv A ((A.begun+1:Nat):Int)),fM iA bv 259 1 A.ps,gP gT.cells 265 64 A.ps (fO (fO A.sl A.begun (fun x=>{ x with st:=1 })) A.begun (fun x=>{ x with after := -1 }))]) 2 rfl rfl rfl rfl gy rfl rfl L rfl f_ d_ (by first|exact F|(simp only[gB];exact F)) T rfl rfl rfl (fun au q=>fK q 6 ?_))
   refine fa (o:=A.begun%64*3+0) (o' := A.begun%64*3+2) rfl rfl pe rfl jI (by simp only[k6];rfl) (ld (a:=⟨c,A.begun%64*3+2,none⟩) (v:=(.int .u64 ((fJ (fO (fO A.sl A.begun (fun x=>{ x with st:=1 })) A.begun (fun x=>{ x with after := -1 })) A.begun).times))) rfl rfl yj rfl (Bu q (i:=2) rfl f_ d_ (by first|exact F|(simp only[gB];exact F)) T rfl) (ar (a:=(fJ (fO (fO A.sl A.begun (fun x=>{ x with st:=1 })) A.begun (fun x=>{ x with after := -1 })) A.begun).times) (b:=1) (c:=((fJ (fO (fO A.sl A.begun (fun x=>{ x with st:=1 })) A.begun (fun x=>{ x with after := -1 })) A.begun).times)+1) (e:=(IntKind.u64.wrap (((fJ (fO (fO A.sl A.begun (fun x=>{ x with st:=1 })) A.begun (fun x=>{ x with after := -1 })) A.begun).times)+1))) rfl rfl rfl rfl rfl (fK q 1 ?_)))
   refine fa (o:=A.begun%64*3+0) (o' := A.begun%64*3+2) rfl rfl pe rfl jI (by simp only[k6];rfl) (q7 (cf:=gT.cells) (xs:=fO (fO A.sl A.begun (fun x=>{ x with st:=1 })) A.begun (fun x=>{ x with after := -1 })) (k:=A.begun) (off:=2) (f:=(fun x=>{ x with times:=(IntKind.u64.wrap (((fJ (fO (fO A.sl A.begun (fun x=>{ x with st:=1 })) A.begun (fun x=>{ x with after := -1 })) A.begun).times)+1)) })) (u:=(.int .u64 (IntKind.u64.wrap (((fJ (fO (fO A.sl A.begun (fun x=>{ x with st:=1 })) A.begun (fun x=>{ x with after := -1 })) A.begun).times)+1)))) (vs:=[(.int .u64 (IntKind.u64.wrap (((fJ (fO (fO A.sl A.begun (fun x=>{ x with st:=1 })) A.begun (fun x=>{ x with after := -1 })) A.begun).times)+1)))]) (L' := [blk ab 203 (vP ab bv A ((A.begun+1:Nat):Int)),fM iA bv 259 1 A.ps,gP gT.cells 265 64 A.ps (fO (fO (fO A.sl A.begun (fun x=>{ x with st:=1 })) A.begun (fun x=>{ x with after := -1 })) A.begun (fun x=>{ x with times:=(IntKind.u64.wrap (((fJ (fO (fO A.sl A.begun (fun x=>{ x with st:=1 })) A.begun (fun x=>{ x with after := -1 })) A.begun).times)+1)) }))]) 2 rfl rfl rfl rfl jI rfl rfl q rfl f_ d_ (by first|exact F|(simp only[gB];exact F)) T rfl rfl rfl (fun av M=>fK M 8 ?_))
   refine ar (a:=(A.used:Int)) (b:=1) (c:=(A.used:Int)+1) (e:=((A.used+1:Nat):Int)) rfl rfl rfl rfl (by rw[oL o_];omega) (jY M 13 fun aw ae=>?_)
   refine iF (v:=(Za A.begun)) (v' := Zc) Tryz.results119 rfl rfl ?_
   have e9:fO (fO (fO A.sl A.begun (fun x=>{ x with st:=1 })) A.begun (fun x=>{ x with after := -1 })) A.begun (fun x=>{ x with times:=(IntKind.u64.wrap (((fJ (fO (fO A.sl A.begun (fun x=>{ x with st:=1 })) A.begun (fun x=>{ x with after := -1 })) A.begun).times)+1)) })=fO A.sl A.begun tk:=Lp F (by rw[jS (by rw[gB];exact F),jS F])
   have ax:=ae
   rw[e9]at ax
   exact⟨rfl,⟨A.n,A.begun+1,A.used+1,A.last,fO A.sl A.begun tk,[],A.ps⟩,bv,aA,⟨rfl,rfl,rfl⟩,ay,yo (R' := (Nc ab bv ((⟨A.n,A.begun+1,A.used+1,A.last,fO A.sl A.begun tk,[],A.ps⟩:As).n:Int) ((⟨A.n,A.begun+1,A.used+1,A.last,fO A.sl A.begun tk,[],A.ps⟩:As).begun:Int) ((⟨A.n,A.begun+1,A.used+1,A.last,fO A.sl A.begun tk,[],A.ps⟩:As).used:Int) (⟨A.n,A.begun+1,A.used+1,A.last,fO A.sl A.begun tk,[],A.ps⟩:As))) (yc [_,_,_] _ ax) zd⟩
theorem UR(ab:Nat)(bv:Value)(A:As)(w:World)(H:Own (Zq ab bv A) w)(C:A.ok)(i:Nat)(hi:A.gX i) :
 CR ya 70 (Zm ab i) w (fun r w' => r = .int .i64 0/\∃ A2,As.ok A2/\(A2.n=A.n/\A2.begun=A.begun/\A2.used=A.used-1)/\(∀ j,A2.gX j↔A.gX j/\j≠i)/\fZ (Zq ab bv A) w w' (Zq ab bv A2)):=by
 have K:=C.n
 have J:=C.le
 have L:=C.used
 have E:=hi.1
 have I:=hi.2
 have F:=(C.room E).1
 obtain⟨b,hb⟩:=C.at E
 have M:=(C.free hi rfl).2.2
 refine en Tryz.func70 Tryz.ntmps70 ?_
 have G:=(yr H).unpack
 have c:=yc [_,_,_] _ G
 refine fR G 9 ?_
 refine cl v8 (vW ab bv (A.n:Int) (A.begun:Int) (A.used:Int) A.last A.ps A.sl w (ye c 0 rfl)) ?_
 rintro _ m ⟨rfl,D⟩
 have a:=(yi c D)
 refine fK a 10 ?_
 refine cmp rfl rfl rfl (k8 o_) (fK a 6 ?_)
 refine cmp rfl rfl rfl (pN o_) ?_
 have d:=yc [_,_,_] _ a
 refine fK a 11 ?_
 refine cl Oi (Nv ab bv A m (ye d 0 rfl) C i o_) ?_
 rintro _ o ⟨rfl,D⟩
 have g:=(yi d D)
 refine cmp rfl rfl rfl (qM (by rw[if_pos E,C.st i E,if_neg I])) ?_
 have h:=yc [_,_,_] _ g
 refine fK g 9 ?_
 refine cl Au (Aj ab bv (A.n:Int) (A.begun:Int) (A.used:Int) A.last A.ps A.sl o (ye h 0 rfl) i o_ b hb) ?_
 rintro _ t ⟨rfl,D⟩
 have k:=(yi h D)
 refine fK k 7 ?_
 refine fa (o' := i%64*3+0) rfl rfl pe rfl gy (by simp only[k6];rfl) (q7 (f:=(fun x=>{ x with st:=2 })) (L' := [blk ab 203 (Z5 ab bv A),fM iA bv 259 1 A.ps,gP gT.cells 265 64 A.ps (fO A.sl i (fun x=>{ x with st:=2 }))]) 2 rfl rfl rfl rfl gy rfl rfl k rfl f_ d_ (by first|exact F|(simp only[gB];exact F)) hb rfl rfl rfl (fun u l=>fK l 10 ?_))
 refine fa (o' := i%64*3+1) rfl rfl pe rfl gy (by simp only[k6];rfl) (q7 (f:=(fun x=>{ x with after:=A.last })) (L' := [blk ab 203 (Z5 ab bv A),fM iA bv 259 1 A.ps,gP gT.cells 265 64 A.ps (fO (fO A.sl i (fun x=>{ x with st:=2 })) i (fun x=>{ x with after:=A.last }))]) 2 rfl rfl rfl rfl gy rfl rfl l rfl f_ d_ (by first|exact F|(simp only[gB];exact F)) hb rfl rfl rfl (fun y p=>gO p 17 fun z q=>?_))
 refine ar (e:=((A.used-1:Nat):Int)) rfl rfl rfl rfl iZ (jY q 11 fun B s=>?_)
 refine gp (v:=Zc) Tryz.results70 rfl ?_
 exact⟨rfl,⟨A.n,A.begun,A.used-1,(i:Int),fO (fO A.sl i (fun x=>{ x with st:=2 })) i (fun x=>{ x with after:=A.last }),i :: A.fl,A.ps⟩,(C.free hi rfl).1,⟨rfl,rfl,rfl⟩,(C.free hi rfl).2.1,yn (yc [_,_,_] _ s)⟩
theorem UT(ab:Nat)(bv:Value)(A:As)(w:World)(Q:Own (Zq ab bv A) w)(L:A.ok) :
 CR ya 185 (Zh ab) w (fun r w' => ∃ lv,r=lv/\fZ (Zq ab bv A) w w' (gq (Mm ab bv A lv (gA (A.list A.begun))))):=by
 have S:=L.n
 have R:=L.le
 have T:=L.used
 refine en Tryz.func185 Tryz.ntmps185 ?_
 have O:=(yr Q).unpack
 have e:=yc [_,_,_] _ O
 refine fR O 9 ?_
 refine cl v8 (vW ab bv (A.n:Int) (A.begun:Int) (A.used:Int) A.last A.ps A.sl w (ye e 0 rfl)) ?_
 rintro _ x ⟨rfl,M⟩
 have f:=(yi e M)
 refine fK f 12 ?_
 refine i7 (m:=0) (c:=A.used) rfl (gw o_) rfl yd gy rfl o_ o_ o_ f ?_
 intro o y z B p
 have g:=St.TO (i:=0) (m:=0) (c:=A.used) (sz:=1) p rfl s_ o_ (by simp only[maxLen];omega)
 have q:=yg [1,2,3,0] g
 refine gJ g 14 ?_
 refine lp (α:=Nat×Value) (fun(k,lv)=>[(0,(Zb ab)),(3,lv),(16,(Za A.begun)),(17,(Za k))]) (fun(k,lv) w1=>St [(w,(Zq ab bv A).gK)] (Mm ab bv A lv (gA (A.list k))) w1/\k<=A.begun) (fun(k,lv)=>A.begun-k) (0,(Eu o A.used)) ⟨rfl,rfl,rfl,gw rO,trivial⟩ (⟨q,o_⟩) ?_
 rintro⟨k,lv⟩ C s ⟨F,U⟩
 refine fR F 2 ?_
 by_cases D:((k:Int):Int)<((A.begun:Int):Int)
 . have N:k<A.begun:=by omega
   have h:=yc [_,_,_] _ F
   refine fK F 19 ?_
   refine cl Oi (Nv ab bv A s (ye h 0 rfl) L k o_) ?_
   rintro _ E ⟨rfl,M⟩
   have a:=(yi h M)
   by_cases b:((if k<A.begun then(fJ A.sl k).st else 0):Int)=(1:Int)
   . refine fK a 1 ?_
     rw[if_pos N]at b
     refine fK a 6 ?_
     refine kg (vs:=(Ze k)) (cs:=(Ze k)) rfl rfl yd gy rfl (by simp[Value.cells]) rfl rfl rfl a (fun t G H I j=>vS (k:=.i64) (ys:=gA (A.list k)) (zs:=[(k:Int)]) (LL:=fun d=>[ig .i64 (Z6 t) 3 ([(k:Int)]),blk ab 203 (Z5 ab bv A),fM iA bv 259 1 A.ps,gP gT.cells 265 64 A.ps A.sl,ig .i64 d 3 ((gA (A.list k))++([(k:Int)]))]) 4 rfl rfl rfl yd gy rfl j rfl (lX j (i:=0) rfl) (by have P:=A.QE k;simp only[gA,zu,zh,zm];omega) (by have P:=A.QE k;simp only[gA,zu,zh,zm];omega) f_ ?_)
     intro d J u K
     have l:=yg [1,2,3,4] u
     refine fQ l 8 ?_
     refine tN (?_)
     exact again ((k+1),d) ⟨rfl,rfl,rfl,gw rO,trivial⟩ (⟨by rw[As.QF,if_pos b];rw[gA,s9];exact l,o_⟩) (by show (A.begun-(k+1):Nat)<A.begun-k;omega)
   . refine fK a 1 ?_
     rw[if_pos N]at b
     refine fQ a 10 ?_
     refine tN (?_)
     exact again ((k+1),lv) ⟨rfl,rfl,rfl,gw rO,trivial⟩ (⟨by rw[As.QF,if_neg b];exact a,o_⟩) (by show (A.begun-(k+1):Nat)<A.begun-k;omega)
 . refine fQ F 17 ?_
   refine gp (v:=lv) Tryz.results185 rfl ?_
   obtain rfl:k=A.begun:=by omega
   exact⟨lv,rfl,yn (yc [_,_,_,_] _ F)⟩
theorem U0(n:Nat)(w:World)(l:n<=65536) :
 CR ya 99 (Z8 n) w (fun r w' => ∃ ab,r = .tuple (Z2 ab)/\fZ (gq []) w w' (gq [blk ab 203 [(Zb ab),Zg,(Za ((As.new n).n:Int)),(Za ((As.new n).begun:Int)),(Za ((As.new n).used:Int)),(Za ((As.new n).last))],fM iA Zg 259 1 ((As.new n).ps),gP gT.cells 265 64 ((As.new n).ps) ((As.new n).sl)])):=by
 refine en Tryz.func99 Tryz.ntmps99 ?_
 have h:=yt w
 refine fR h 10 ?_
 refine cmp rfl rfl rfl (k8 o_) (fK h 2 ?_)
 refine cmp rfl rfl rfl (qn o_) (fK h 9 ?_)
 refine jh (pvs:=[(2,(Za n)),(5,Zw)]) (v:=.agg #[Zs,Zg,(Za n),Zc,Zc,Zw]) rfl rfl (jx [(2,(Ze n)),(5,[Zw])] Gy RT rfl ⟨rfl,rfl,rfl,rfl,trivial⟩ rfl) (iz h (fun a e f g b=>?_))
 refine jY b 20 fun c d=>?_
 refine iF (v:=(Zb a)) (v' := Zc) Tryz.results99 rfl rfl ?_
 have i:=rq d 259 1
 have j:St _ (Mr a n) c:=St.EI i 0
 have k:=mN j (List.reverse_perm (Mr a n)).symm
 exact⟨a,rfl,St.eM (yc [_,_,_] [] k)⟩
end
section
open Go Go.Sx
theorem UI(ab:Nat)(bv:Value)(A:As)(w:World)(hO:Own (Zq ab bv A) w)(T:A.ok) :
 CR ya 113 (Zh ab) w (fun r w' => ∃ ag al F,r = .pointer (some ⟨ag,0,none⟩)/\As.ok { A with ps:=F }/\fZ (Zq ab bv A) w w' (Nf ab bv A ag al F)):=by
 have ap:=T.n
 have ao:=T.le
 have aq:=T.used
 have au:=T.o7
 refine enter (vs:=(Zi ab)) Tryz.func113 rfl Tryz.ntmps113 rfl ?_
 have ak:=(yr hO).unpack
 have h:=yc [_,_,_] _ ak
 refine fR ak 9 ?_
 refine jN (vl:=(Zi ab)) rfl rfl v8 (vW ab bv (A.n:Int) (A.begun:Int) (A.used:Int) A.last A.ps A.sl w (ye h 0 rfl)) ?_
 rintro _ K ⟨rfl,ht⟩
 have s:=(lY (R' := (Zq ab bv A)) 0 h rfl ht rfl).unpack
 refine gO s 24 fun L t=>?_
 refine jh (pvs:=[(2,(Za A.n)),(3,(Za A.begun)),(4,(Za A.used)),(5,(Za A.last))]) (v:=.agg #[Zs,Zg,(Za A.n),(Za A.begun),(Za A.used),(Za A.last)]) rfl rfl (jx [(2,(Ze A.n)),(3,(Ze A.begun)),(4,(Ze A.used)),(5,(Ze A.last))] Gy RT rfl ⟨rfl,rfl,rfl,rfl,rfl,rfl,rfl,rfl,trivial⟩ rfl) (iz t (fun c M N O u=>?_))
 refine gO u 15 fun j y=>?_
 have z:St _ [fM iA Zg 259 1 ([]),blk c 203 (M4 c A),blk ab 203 (Z5 ab bv A),fM iA bv 259 1 A.ps,gP gT.cells 265 64 A.ps A.sl] j:=rq y 259 1
 have f:St _ [gP gT.cells 265 64 ([]) (A.sl.take (64*0)),fM iA Zg 259 1 ([]),blk c 203 (M4 c A),blk ab 203 (Z5 ab bv A),fM iA bv 259 1 A.ps,gP gT.cells 265 64 A.ps A.sl] j:=St.EI z 0
 refine fK f 4 ?_
 refine jA (m:=A.ps.length) 4 rfl rfl Bn f rfl ?_
 have B:=yg [3,4,5,2,1,0] f
 refine gJ f 4 ?_
 refine lp (α:=Nat×Value×List (Option Nat)) (fun(k,v2,F)=>[(3,(Zb c)),(35,bv),(36,(Za A.ps.length)),(37,(Za k))]) (fun(k,v2,F) w1=>St [(w,(Zq ab bv A).gK)] [blk ab 203 (Z5 ab bv A),fM iA bv 259 1 A.ps,gP gT.cells 265 64 A.ps A.sl,blk c 203 (Z5 c v2 A),fM iA v2 259 1 F,gP gT.cells 265 64 F (A.sl.take (64*k))] w1/\k<=A.ps.length/\xw F k) (fun(k,v2,F)=>A.ps.length-k) (0,Zg,[]) ⟨rfl,rfl,rfl,gw rO,trivial⟩ (⟨B,o_,xw.start⟩) ?_
 rintro⟨k,v2,F⟩ P Q ⟨ae,ar,hC⟩
 have an:=hC.len
 refine fR ae 2 ?_
 by_cases R:((k:Int):Int)<((A.ps.length:Int):Int)
 . have hk:k<A.ps.length:=by omega
   obtain⟨bq,ah⟩:=T.ps k hk
   refine fK ae 19 ?_
   refine uR (a:=⟨bq,0,none⟩) rfl (AY (iD ah)) ?_
   have af:(((A.sl.drop (64*k)).take 64).flatMap gT.cells).length=192:=NW (cf:=gT.cells) (sz:=3) f_ T.sl hk
   refine uN (b:=bq) (o:=0) (cs:=(((A.sl.drop (64*k)).take 64).flatMap gT.cells)) rfl rfl Tryz.underlying265 rfl Li af (St.NQ ae (i:=2) rfl ((gE hk).trans (congrArg some (iD ah)))) (iO ae (fun d S U V C=>?_))
   refine Gp (v:=.agg (((A.sl.drop (64*k)).take 64).flatMap gT.cells).toArray) (vs:=(((A.sl.drop (64*k)).take 64).flatMap gT.cells)) (L' := [blk d 265 (((A.sl.drop (64*k)).take 64).flatMap gT.cells),blk ab 203 (Z5 ab bv A),fM iA bv 259 1 A.ps,gP gT.cells 265 64 A.ps A.sl,blk c 203 (Z5 c v2 A),fM iA v2 259 1 F,gP gT.cells 265 64 F (A.sl.take (64*k))]) 0 rfl rfl rfl rfl Li af (zq.2 (xS f_ _)) C rfl (by rw[af];decide) (SN (by rw[af];rfl)) rfl (fun W l X=>fK l 8 ?_)
   refine kg (vs:=(Zi d)) (cs:=(Zi d)) rfl rfl Bn Dy rfl (by simp[Value.cells]) rfl rfl rfl l (fun D Y Z aa p=>mS (cf:=iA) (ys:=F) (zs:=[(some d)]) (LL:=fun e=>[row (Z6 D) 259 1 1 ((Zi d)),blk d 265 (((A.sl.drop (64*k)).take 64).flatMap gT.cells),blk ab 203 (Z5 ab bv A),fM iA bv 259 1 A.ps,gP gT.cells 265 64 A.ps A.sl,blk c 203 (Z5 c v2 A),fM iA e 259 1 (F++[(some d)]),gP gT.cells 265 64 F (A.sl.take (64*k))]) 6 rfl rfl rfl Bn Dy rfl d_ p rfl (lX p (i:=0) rfl) (fun x hx=>zq.1 (show List.all _ _=true from rfl) x hx) (by have h7:=T.o7;simp only[zh,zm];omega) (by have h7:=T.o7;simp only[zh,zm];omega) f_ ?_)
   intro e ac E ad
   have g:=yg [1,2,3,4,5,6,7] E
   refine fK g 2 ?_
   refine j8 4 g (fun G q=>?_) (hvs:=(cells_one (yu g (i:=5) rfl))) (h1:=(iw (yu g (i:=5) rfl) lS))
   refine fQ q 7 ?_
   refine tN (?_)
   have H:=yg [0,6,1,2,3,4,5] q
   have ai:=Vy T.sl hk
   have I:St [(w,(Zq ab bv A).gK)] [gP gT.cells 265 64 (F++[(some d)]) (A.sl.take (64*(k+1))),blk ab 203 (Z5 ab bv A),fM iA bv 259 1 A.ps,gP gT.cells 265 64 A.ps A.sl,blk c 203 (Z5 c e A),fM iA e 259 1 (F++[(some d)])] G:=by rw[<-ae2];exact St.NS H (by rw[ai.2,an]) ai.1 rfl
   have J:=yg [1,2,3,4,5,0] I
   exact again ((k+1),e,F++[(some d)]) ⟨rfl,rfl,rfl,gw rO,trivial⟩ (⟨J,o_,hC.next⟩) (by show (A.ps.length-(k+1):Nat)<A.ps.length-k;omega)
 . refine fQ ae 17 ?_
   refine gp (v:=(Zb c)) Tryz.results113 rfl ?_
   have am:k=A.ps.length:=by omega
   have aj:=ae
   rw[xd (show A.sl.length<=64*k by rw[am];exact Nat.le_of_eq T.sl)]at aj
   exact⟨c,v2,F,rfl,T.copy o_ hC.all,yo (R' := (Nf ab bv A c v2 F)) (yc [_,_,_,_,_,_] _ aj) zd⟩
end
section
open Go Go.Sx
def AW.R(ab:Nat)(v:AW):fS:=kC v.A.ok (Zq ab v.bv v.A)
abbrev xF(a:fV):=(AW.R a.je a.aw:fS)
abbrev HL(a b:Nat)(c:TW):=([blk a 200 (oT a b c),fM ij c.iv 27 1 c.ids,fM fW c.cv 3 1 c.cs,AW.R b c.w]:List fS)
abbrev Ml(a b:Nat)(c:TW) d e f g:=([blk a 200 (oT a b c),fM ij c.iv 27 1 c.ids,fM fW c.cv 3 1 c.cs,AW.R b c.w,fM fW d 3 1 e,fM ij f 27 1 g]:List fS)
abbrev HP(a:Nat) b (c d:Nat) (e:TW) f g h i:=([ig .u64 (Z6 a) 27 b,blk c 200 (oT c d e),fM ij e.iv 27 1 e.ids,fM fW e.cv 3 1 e.cs,AW.R d e.w,fM fW f 3 1 g,fM ij h 27 1 i]:List fS)
theorem LF(ab:Nat)(v:AW)(w:World)(a:Own (AW.R ab v) w) :
 CR ya 58 (Zh ab) w (fun r w' => r = .int .i64 (v.A.used:Int)/\fZ (AW.R ab v) w w' (AW.R ab v)):=by
 exact CR.mono (US ab v.bv v.A w a.un a.fact) fun r w' ⟨b,c⟩=>⟨b,c.rm a.fact⟩
theorem T6(ab:Nat)(v:AW)(w:World)(g:Own (AW.R ab v) w)(p:v.A.used<v.A.n) :
 CR ya 119 (Zh ab) w (fun r w' => ∃ i v2,r = .tuple (xB ((i:Nat):Int))/\AW.put v.A v2.A i/\fZ (AW.R ab v) w w' (AW.R ab v2)):=by
 have a:=g.fact
 rcases a.full p with ⟨i,l,b⟩|⟨b,o⟩
 . have hp:=a.pop b
   exact CR.mono (UD ab v.bv v.A w g.un a i l b) fun r w' ⟨f,A2,c,k,⟨e1,d,e⟩,j,m⟩=>⟨i,⟨c,A2⟩,f,⟨e1,e,j,hp.2.2.1,.inl ⟨hp.2.2.2.1,d⟩⟩,m.rm k⟩
 . exact CR.mono (UE ab v.bv v.A w g.un a b o) fun r w' ⟨f,A2,c,k,⟨e1,d,e⟩,j,m⟩=>⟨v.A.begun,⟨c,A2⟩,f,⟨e1,e,j,fun h=>Nat.lt_irrefl _ h.1,.inr ⟨rfl,d⟩⟩,m.rm k⟩
theorem Ub(ab:Nat)(v:AW)(w:World)(a:Own (AW.R ab v) w)(i:Nat)(hi:v.A.gX i) :
 CR ya 70 (Zm ab i) w (fun r w' => ∃ v2,r = .int .i64 0/\AW.del v.A v2.A i/\fZ (AW.R ab v) w w' (AW.R ab v2)):=by
 exact CR.mono (UR ab v.bv v.A w a.un a.fact i hi) fun r w' ⟨d,A2,f,⟨e1,b,c⟩,e,g⟩=>⟨⟨v.bv,A2⟩,d,⟨e1,b,c,(a.fact.free hi rfl).2.2,e⟩,g.rm f⟩
theorem Ui(n:Nat)(w:World)(a:n<=65536) :
 CR ya 99 (Z8 n) w (fun r w' => ∃ ab v,r = .tuple (Z2 ab)/\v.A=As.new n/\fZ (gq []) w w' (AW.R ab v)):=by
 exact CR.mono (U0 n w a) fun r w' ⟨ab,b,c⟩=>⟨ab,⟨.slice none 0 0,As.new n⟩,b,rfl,c.GN (As.tP a)⟩
theorem T9(ab:Nat)(v:AW)(w:World)(d:Own (AW.R ab v) w) :
 CR ya 113 (Zh ab) w (fun r w' => ∃ a v2,r = .pointer (some ⟨a,0,none⟩)/\(∃ b,v2.A={ v.A with ps:=b })/\fZ (AW.R ab v) w w' (gq [AW.R ab v,AW.R a v2])):=by
 refine CR.mono (UI ab v.bv v.A w d.un d.fact) fun r w' ⟨a,c,b,f,g,i⟩=>⟨a,⟨c,{ v.A with ps:=b }⟩,f,⟨b,rfl⟩,(fZ.Fb (A:=(Ai ab v.bv v.A)) (B:=[blk a 203 (Z5 a c v.A),fM iA c 259 1 b,gP gT.cells 265 64 b v.A.sl]) i).Lx.CX rfl (fun h=>?_)⟩
 intro Q e
 simp only[zg,mo,or_false]at e
 rcases e with rfl|rfl
 . exact⟨d.fact,h _ s_⟩
 . exact⟨g,h _ s_⟩
end
section
open Go Go.Sx
def TW.R(tb ab:Nat)(t:TW):fS:=kC t.ok (gq [blk tb 200 (oT tb ab t),fM ij t.iv 27 1 t.ids,fM fW t.cv 3 1 t.cs,(AW.R ab t.w)])
abbrev Ab(a:fV) b:=(TW.R a.tb a.ab b:fS)
abbrev xG(a:fV):=(TW.R a.tb a.ab a.t:fS)
abbrev MH(a:Nat)(b c:Int)(d:fV) e:=([blk a 143 (pM b c d e),fM Lv.cells d.lv 107 7 d.live,gZ d.mb .u64 p_ d.im,jE 3 d.im,AW.R d.je d.aw,TW.R d.tb d.ab d.t]:List fS)
abbrev MG(a:Nat)(b c:Int)(d:fV) e f g h i:=([blk a 143 (pM b c d e),fM Lv.cells d.lv 107 7 d.live,gZ d.mb .u64 p_ d.im,jE 3 d.im,AW.R d.je d.aw,TW.R d.tb d.ab d.t,fM fW f 3 1 g,fM Lv.cells h 107 7 i]:List fS)
abbrev HI a (b:Nat) (c d:Int) (e:fV) f g h i j:=([a,blk b 143 (pM c d e f),fM Lv.cells e.lv 107 7 e.live,gZ e.mb .u64 p_ e.im,jE 3 e.im,AW.R e.je e.aw,TW.R e.tb e.ab e.t,fM fW g 3 1 h,fM Lv.cells i 107 7 j]:List fS)
abbrev MT a (b:Nat) (c:Lv) (d:Nat) (e f:Int) (g:fV) h i j (k:Nat):=([jE 3 a,blk b 107 (Z9 c),blk d 143 (pM e f g h),fM Lv.cells g.lv 107 7 i,gZ g.mb .u64 p_ a,AW.R g.je j,TW.R g.tb g.ab g.t,blk k 107 nw]:List fS)
abbrev MY a b c (d:Nat) (e:Lv) (f:Nat) (g h:Int) (i:fV) j k l m (n:Nat):=([ig .i64 a 3 b,jE 3 c,blk d 107 (Z9 e),blk f 143 (pM g h i j),fM Lv.cells i.lv 107 7 k,gZ i.mb .u64 p_ l,AW.R i.je m,TW.R i.tb i.ab i.t,blk n 107 nw]:List fS)
abbrev M0 a b c d (e:Nat) (f g:Int) (h:fV) i j k (l m n:Nat) o p q r s t (u:Nat) v:=([fM fW a 3 1 b,fM fW c 3 1 b,jE 3 d,blk e 143 (pM f g h i),fM Lv.cells h.lv 107 7 h.live,j,jE 3 k,AW.R h.je h.aw,TW.R h.tb h.ab h.t,blk l 143 (Ey f g h.last m n o p),fM Lv.cells o 107 7 h.live,gZ q .u64 p_ r,jE 3 s,AW.R m t,TW.R n u v]:List fS)
abbrev MS a (b:Nat) (c d:Int) (e:Lv) (f:Nat) (g h:Int) (i:fV) j k l m n (o p:Nat):=([jE 3 a,blk b 107 (qF c d e),blk f 143 (Ez g h d i j k),fM Lv.cells j 107 7 l,gZ i.mb .u64 p_ a,AW.R i.je m,TW.R i.tb i.ab n,blk o 107 nw,blk p 61 (Z0 e)]:List fS)
abbrev Ms a (b:Nat) (c d:Int) (e:Lv) (f:Nat) (g h:Int) (i:fV) j k l m (n o:Nat):=([jE 3 a,blk b 107 (qF c d e),blk f 143 (Cb g h d i j),fM Lv.cells i.lv 107 7 k,gZ i.mb .u64 p_ a,AW.R i.je l,TW.R i.tb i.ab m,blk n 107 nw,blk o 61 (Z0 e)]:List fS)
abbrev MX a b c (d:Nat) (e f:Int) (g:Lv) (h:Nat) (i j:Int) (k:fV) l m n o p q (r s:Nat):=([ig .i64 a 3 b,jE 3 c,blk d 107 (qF e f g),blk h 143 (Ez i j f k l m),fM Lv.cells l 107 7 n,gZ k.mb .u64 p_ o,AW.R k.je p,TW.R k.tb k.ab q,blk r 107 nw,blk s 61 (Z0 g)]:List fS)
abbrev MW a b c (d:Nat) (e f:Int) (g:Lv) (h:Nat) (i j:Int) (k:fV) l m n o p (q r:Nat):=([ig .i64 a 3 b,jE 3 c,blk d 107 (qF e f g),blk h 143 (Cb i j f k l),fM Lv.cells k.lv 107 7 m,gZ k.mb .u64 p_ n,AW.R k.je o,TW.R k.tb k.ab p,blk q 107 nw,blk r 61 (Z0 g)]:List fS)
theorem Tf(tb ab:Nat)(t:TW)(w:World)(f:Own (Z1 tb ab t) w)(d:TW.Sz t.n)(id:Int) :
 CR ya 156 (Z4 tb id) w (fun r w' => r = .int .i64 ((kE t.n id:Nat):Int)/\fZ (Z1 tb ab t) w w' (Z1 tb ab t)):=by
 have j:t.cs.length=t.n:=rfl
 have h:=d.two
 have k:=d.top
 have g:0<t.n:=by omega
 have i:=xV (id:=id) g
 refine en Tryz.func156 Tryz.ntmps156 ?_
 have c:=Own.of f
 refine fR c 9 ?_
 refine shr (a:=id) (b:=33) (e:=(id.fdiv (2 ^ 33))) rfl rfl rfl d_ rfl (bi (a:=id) (b:=(id.fdiv (2 ^ 33))) (e:=(kL id)) rfl rfl rfl (LI _) (fK c 6 ?_))
 refine ar (e:=(mc 18397679294719823053 (kL id))) rfl rfl rfl rfl rfl (fK c 7 ?_)
 refine shr (a:=(mc 18397679294719823053 (kL id))) (b:=33) (e:=((mc 18397679294719823053 (kL id)).fdiv (2 ^ 33))) rfl rfl rfl d_ rfl (bi (a:=(mc 18397679294719823053 (kL id))) (b:=((mc 18397679294719823053 (kL id)).fdiv (2 ^ 33))) (e:=(kL (mc 18397679294719823053 (kL id)))) rfl rfl rfl (LI _) (fK c 6 ?_))
 refine ar (e:=(mc 14181476777654086739 (kL (mc 18397679294719823053 (kL id))))) rfl rfl rfl rfl rfl (fK c 7 ?_)
 refine shr (a:=(mc 14181476777654086739 (kL (mc 18397679294719823053 (kL id))))) (b:=33) (e:=((mc 14181476777654086739 (kL (mc 18397679294719823053 (kL id)))).fdiv (2 ^ 33))) rfl rfl rfl d_ rfl (bi (a:=(mc 14181476777654086739 (kL (mc 18397679294719823053 (kL id))))) (b:=((mc 14181476777654086739 (kL (mc 18397679294719823053 (kL id)))).fdiv (2 ^ 33))) (e:=(kL (mc 14181476777654086739 (kL (mc 18397679294719823053 (kL id)))))) rfl rfl rfl (LI _) (fK c 10 ?_))
 refine jA (m:=t.cs.length) 2 rfl rfl yd c rfl (fK c 2 ?_)
 refine bi (a:=(kL (mc 14181476777654086739 (kL (mc 18397679294719823053 (kL id)))))) (b:=(t.cs.length:Int)-1) (e:=((kE t.n id:Nat):Int)) rfl rfl rfl (d.p2.home id) (fQ c 5 ?_)
 refine gp (v:=(Za ((kE t.n id:Nat):Int))) Tryz.results156 rfl ?_
 exact⟨rfl,yn (yc [_,_,_] _ c)⟩
theorem afk(tb:Nat)(id:Int)(w:World) :
 CR ya 155 (Z4 tb id) w (fun r w' => ∃ m n,r = .func (.func 183) #[] (B7 m n)/\fZ (gq []) w w' (gq [blk m 139 (Zi tb),blk n 27 (Zt id)])):=by
 refine en Tryz.func155 Tryz.ntmps155 ?_
 have l:=yt w
 refine fR l 2 ?_
 refine iz l (fun a f g h d=>?_)
 refine iz d (fun b i j k c=>?_)
 refine fK c 5 ?_
 refine nF (vf:=[]) (vc:=(sI a b)) rfl rfl rfl (fQ c 4 ?_)
 refine gp (v:=(.func (.func 183) #[] (B7 a b))) Tryz.results155 rfl ?_
 have e:=yg [1,0] c
 exact⟨a,b,rfl,St.eM (yc [_,_] _ e)⟩
theorem afj{γ:Type}(A:γ->fS)(D:γ->Nat->Nat->Prop)(I:γ->Prop)(z0:γ)(l B C tb ab:Nat)(t:TW)(id:Int)(w:World)(R:∀ (z:γ) (k c:Nat) (bs:List (World×List Nat)) (L:List fS) (w:World),k<t.n->c<t.n->D z k c->St bs (A z :: (B8 tb ab t)++L) w->YR ya l (Zp c ((fJ t.cs c:Nat):Int)) w (fun v w' => ∃ H b,v = .bool b/\(b=true->D H (k+1) (ic t.n c))/\(b=false->I H)/\St bs (A H :: (B8 tb ab t)++L) w'))(F:t.ok)(S:D z0 0 (kE t.n id))(M:Own (En (A z0) tb ab t B C id) w) :
 CR ya 183 (Mz (.func (.yield l) #[] #[]) B C) w (fun r w' => ∃ z,((∃ c,D z t.n c)\/I z)/\r = .tuple #[]/\fZ (En (A z0) tb ab t B C id) w w' (En (A z) tb ab t B C id)):=by
 have V:t.cs.length=t.n:=rfl
 have T:=F.two
 have W:=F.top
 have P:0<t.n:=by omega
 refine en Tryz.func183 Tryz.ntmps183 ?_
 have K:=Own.of M
 have j:=yg [1,2,3,0,4,5] K
 have g:=yc [_,_,_] _ j
 refine fR K 4 ?_
 refine cl OB (Tf tb ab t w (ye g 0 rfl) F.sz id) ?_
 rintro _ q ⟨rfl,Q⟩
 have f:=(yi g Q)
 refine fK f 9 ?_
 refine jA (m:=t.cs.length) 2 rfl rfl yd f rfl ?_
 have o:=yg [3,0,1,2,4,5] f
 refine gJ f 4 ?_
 refine lp (α:=γ×Nat×Nat) (fun(z,k,c)=>[(0,(.func (.yield l) #[] #[])),(1,(Zb B)),(2,(Zb C)),(4,(Za c)),(12,(Za t.cs.length)),(13,(Za k))]) (fun(z,k,c) w1=>St [(w,(En (A z0) tb ab t B C id).gK)] [(A z),blk tb 200 (oT tb ab t),fM ij t.iv 27 1 t.ids,fM fW t.cv 3 1 t.cs,blk B 139 (Zi tb),blk C 27 (Zt id)] w1/\k<=t.n/\c<t.n/\D z k c) (fun(z,k,c)=>t.n-k) (z0,0,(kE t.n id)) ⟨rfl,rfl,rfl,gw rO,rfl,gw rO,trivial⟩ (⟨o,o_,xV P,S⟩) ?_
 rintro⟨z,k,c⟩ s u ⟨E,U,G,J⟩
 refine fR E 2 ?_
 by_cases x:((k:Int):Int)<((t.cs.length:Int):Int)
 . refine fK E 21 ?_
   refine yl (vl:=(Zp c (((fJ t.cs c):Nat):Int))) rfl rfl rfl (R z k c _ _ _ o_ G J E) ?_
   rintro _ y ⟨h,p,rfl,O,N,d⟩
   refine gJ d 3 ?_
   cases i:(p:Bool)
   . skip
     subst i
     refine iP d 7 ?_
     refine A8 Tryz.results183 ?_
     exact⟨h,.inr (N rfl),rfl,yn (yc [_,_,_,_,_,_] _ d)⟩
   . skip
     subst i
     refine fR d 10 ?_
     refine jA (m:=t.cs.length) 3 rfl rfl yd d rfl (fK d 1 ?_)
     refine bi (a:=(c:Int)+1) (b:=(t.cs.length:Int)-1) (e:=((ic t.n c:Nat):Int)) rfl rfl rfl (F.p2.nx G) (fQ d 8 ?_)
     refine tN (?_)
     exact again (h,(k+1),(ic t.n c)) ⟨rfl,rfl,rfl,gw rO,rfl,gw rO,trivial⟩ (⟨d,o_,Ka G,O rfl⟩) (by show t.n-(k+1)<t.n-k;omega)
 . refine fQ E 9 ?_
   refine i6 Tryz.results183 ?_
   obtain rfl:k=t.n:=by omega
   exact⟨z,.inl ⟨c,J⟩,rfl,yn (yc [_,_,_,_,_,_] _ E)⟩
theorem ae5(tb ab:Nat)(t:TW)(w:World)(hO:Own (Z1 tb ab t) w)(T:t.ok)(id:Int) :
 CR ya 110 (Z4 tb id) w (fun r w' => r = .tuple (Z7 ((t.find id).1:Int) ((t.find id).2))/\fZ (Z1 tb ab t) w w' (Z1 tb ab t)):=by
 have aQ:t.cs.length=t.n:=rfl
 have aM:=T.two
 have aS:=T.top
 have aR:0<t.n:=by omega
 refine E5 (vs:=[(Zb tb),(Zo id)]) Tryz.func110 rfl Tryz.ntmps110 rfl ?_
 have aF:=Own.of hO
 refine fR aF 2 ?_
 refine iz aF (fun d S U V A=>?_)
 refine iz A (fun f W X Y B=>?_)
 refine iO B (fun g Z aa ac C=>?_)
 refine iO C (fun i D ad ae s=>?_)
 refine fK s 7 ?_
 refine cl W7 (afk tb id D) ?_
 rintro _ af ⟨m,o,rfl,ht⟩
 have u:=y0 (kf s ht)
 have E:=yg [3,2,5,4,6,7,8,0,1] u
 refine gJ u 3 ?_
 refine rfx (α:=Bool×Int×Bool) (ps:=[11,12]) (fi:=[]) (ca:=(sI m o)) (fun(sp,a,b)=>[blk g 3 (Ze a),blk i 4 [(.bool b)],blk d 139 (Zi tb),blk f 27 (Zt id),blk tb 200 (oT tb ab t),fM ij t.iv 27 1 t.ids,fM fW t.cv 3 1 t.cs,blk m 139 (Zi tb),blk o 27 (Zt id)]) (fun(sp,a,b)=>(sp=false/\t.find id=(0,false))\/(sp=true/\a=((t.find id).1:Int)/\b=(t.find id).2)) (fun(sp,a,b)=>sp) E rfl Xl ?_ ?_ ?_
 . intro fn dd l wl rc aA aK
   have G:=yg [0,2,3,4,5,6,7,8,9,10,1] aK
   have aG:=yc [jr l rc,blk g 3 [Zc],blk i 4 [Zn],blk d 139 (Zi tb),blk f 27 (Zt id)] [blk tb 200 (oT tb ab t),fM ij t.iv 27 1 t.ids,fM fW t.cv 3 1 t.cs,blk m 139 (Zi tb),blk o 27 (Zt id),kq dd (some [])] G
   have aE:rc.state = .ready:=by rw[aA]
   have aH:rc.pending=none:=by rw[aA]
   have aI:∀ (z:Bool×Int×Bool) (k c:Nat) (bs:List (World×List Nat)) (L:List fS) (w:World),k<t.n->c<t.n->(fun(z:Bool×Int×Bool) k c=>z.1=false/\t.rest id k c) z k c->St bs ((fun((sp,a,b):Bool×Int×Bool)=>gq (HJ (jr l (yK sp rc)) g a i b d tb f id)) z :: (B8 tb ab t)++L) w->YR ya l (Zp c ((fJ t.cs c:Nat):Int)) w (fun v w' => ∃ z2 b,v = .bool b/\(b=true->(fun(z:Bool×Int×Bool) k c=>z.1=false/\t.rest id k c) z2 (k+1) (ic t.n c))/\(b=false->(fun(z:Bool×Int×Bool)=>z.1=true/\z.2.1=((t.find id).1:Int)/\z.2.2=(t.find id).2) z2)/\St bs ((fun((sp,a,b):Bool×Int×Bool)=>gq (HJ (jr l (yK sp rc)) g a i b d tb f id)) z2 :: (B8 tb ab t)++L) w'):=by
    rintro⟨sp,a,b⟩ k c bs LT wr hk hc ⟨rfl,az⟩ aw
    have aw:=aw.unpack
    refine Di (vl:=(Zp c ((fJ t.cs c:Nat):Int))) 0 aA aw rfl rfl rfl (iP aw 8 ?_)
    refine tN (?_)
    refine EG 0 aw rfl aE rfl (fun ag p=>fR p 5 ?_)
    by_cases ah:(((fJ t.cs c:Nat):Int):Int)=(0:Int)
    . have aN:fJ t.cs c=0:=by omega
      refine fK p 1 ?_
      skip
      skip
      skip
      refine jY p 13 fun ai H=>?_
      refine Oe 0 H rfl rfl ?_
      intro aj I
      have av:t.find id=(c,false):=TW.adz az hk o_
      exact⟨_,rfl,(true,(c:Int),false),false,rfl,fun h=>(by cases h),fun _=>⟨rfl,by rw[av],by rw[av]⟩,yc [_,_,_,_,_] _ I⟩
    . obtain⟨j,hj⟩:∃ j,fJ t.cs c=j+1:=⟨fJ t.cs c-1,o_⟩
      have aC:=T.val hc hj
      have aO:j<t.ids.length:=aC.2.2.1
      have aP:j<65536:=ou aC.2.2.2 T.an
      refine gO p 13 fun ak q=>?_
      refine ar (e:=((j:Nat):Int)) rfl rfl rfl rfl iZ (fK q 3 ?_)
      by_cases x:((fJ t.ids j):Int)=(id:Int)
      . have ay:fJ t.ids j=id:=by have h7:=x;omega
        refine jY q 13 fun al J=>?_
        refine Oe 0 J rfl rfl ?_
        intro am K
        have av:t.find id=(c,true):=TW.adw az hk hj ay
        exact⟨_,rfl,(true,(c:Int),true),false,rfl,fun h=>(by cases h),fun _=>⟨rfl,by rw[av],by rw[av]⟩,yc [_,_,_,_,_] _ K⟩
      . have ay:fJ t.ids j≠id:=by have h7:=x;omega
        refine fQ q 6 ?_
        refine ES 0 q rfl aE aH rfl ?_
        intro ao M
        exact⟨_,rfl,(false,a,b),true,rfl,fun _=>⟨rfl,TW.adx az hk hj ay⟩,fun h=>(by cases h),yc [_,_,_,_,_] _ M⟩
   have aD:=yc [_,_,_,_,_,_] _ aG
   refine CR.mono (afj (fun((sp,a,b):Bool×Int×Bool)=>gq (HJ (jr l (yK sp rc)) g a i b d tb f id)) (fun(z:Bool×Int×Bool) k c=>z.1=false/\t.rest id k c) (fun(z:Bool×Int×Bool)=>z.1=true/\z.2.1=((t.find id).1:Int)/\z.2.2=(t.find id).2) (false,0,false) l m o tb ab t id wl aI T ⟨rfl,TW.ady t id⟩ (ye aD 0 rfl)) ?_
   rintro _ w9 ⟨⟨sp,a,b⟩,hz,-,aL⟩
   have aJ:=(yi aD aL).unpack
   have N:=yg [0,10,1,2,3,4,5,6,7,8,9] aJ
   refine⟨(sp,a,b),?_,N⟩
   rcases hz with ⟨c,h1,h2⟩|h1
   . exact .inl ⟨h1,TW.adv h2⟩
   . exact .inr h1
 . rintro⟨sp,a,b⟩ dd ap hC aB O
   have hf:t.find id=(0,false):=hC.elim (fun h=>h.2) (fun h=>absurd (h.1.symm.trans aB) d_)
   refine sQQ tt none O 9 fun aq P=>?_
   refine CQ 0 P rfl rfl ?_
   intro w8 F
   have Q:=yg [5,6,7,0,1,2,3,4,8,9] F
   have ax:fZ (Z1 tb ab t) w w8 (Z1 tb ab t):=yn (yc [_,_,_] _ Q)
   exact⟨_,KA Tryz.results110 (Bc rfl yf rfl (lM F 1 rfl rfl)) (Bc rfl yz rfl (lM F 2 rfl rfl)),_,rfl,by rw[hf];rfl,ax⟩
 . rintro⟨sp,a,b⟩ dd au hC aB y
   have hf:a=((t.find id).1:Int)/\b=(t.find id).2:=hC.elim (fun h=>absurd (h.1.symm.trans aB) d_) (fun h=>h.2)
   refine uV tt none y 2 ?_
   refine CQ 0 y rfl rfl ?_
   intro w8 F
   have R:=yg [5,6,7,0,1,2,3,4,8,9] F
   have ax:fZ (Z1 tb ab t) w w8 (Z1 tb ab t):=yn (yc [_,_,_] _ R)
   exact⟨_,KA Tryz.results110 (Bc rfl yf rfl (lM F 1 rfl rfl)) (Bc rfl yz rfl (lM F 2 rfl rfl)),_,rfl,by rw[hf.1,hf.2],ax⟩
end
section
open Go Go.Sx
theorem Du(tb ab:Nat)(t:TW)(w:World)(a:Own (Z1 tb ab t) w)(c:t.ok)(id:Int)(p:Nat)(b:Bool)(d:t.find id=(p,b)) :
 CR ya 110 (Z4 tb id) w (fun r w' => r = .tuple (Z7 p b)/\fZ (Z1 tb ab t) w w' (Z1 tb ab t)):=by
 have h:=ae5 tb ab t w a c id
 rw[d]at h
 exact h
theorem wW(tb ab:Nat)(t:TW)(w:World)(d:Own (Z1 tb ab t) w)(e:t.ok) :
 CR ya 97 (Zh tb) w (fun r w' => r = .bool true/\fZ (Z1 tb ab t) w w' (Z1 tb ab t)):=by
 refine en Tryz.func97 Tryz.ntmps97 ?_
 have b:=Own.of d
 refine fR b 8 ?_
 refine mY (a:=some ⟨tb,0,none⟩) (c:=true) rfl rfl rfl Tryz.underlying139 rfl (fK b 6 ?_)
 refine CD (a:=⟨tb,0,none⟩) rfl rfl rfl Tryz.underlying139 Gx (fQ b 5 ?_)
 refine gp (v:=Zf) Tryz.results97 rfl ?_
 exact⟨rfl,yn (yc [_,_,_] _ b)⟩
theorem ae8(tb ab:Nat)(t:TW)(w:World)(h:Own (TW.R tb ab t) w)(id:Int)(i:Nat)(hi:t.A.gX i)(q:fJ t.ids i=id) :
 CR ya 91 (Z4 tb id) w (fun r w' => r = .tuple (Eh i)/\fZ (TW.R tb ab t) w w' (TW.R tb ab t)):=by
 have y:t.cs.length=t.n:=rfl
 have z:=h.fact.top
 obtain⟨p,hp,l,m⟩:=h.fact.I5 hi
 rw[q]at m
 have s:=(h.fact.val hp l).2.2.2
 have x:i<65536:=ou s h.fact.an
 have u:=(h.fact.val hp l).2.2.1
 refine en Tryz.func91 Tryz.ntmps91 ?_
 have o:=Own.of h.un
 have j:t.ok:=h.fact
 have b:=yc [_,_,_] _ o
 refine fR o 10 ?_
 refine cl v7 (wW tb ab t w (ye b 0 rfl) j) ?_
 rintro _ f ⟨rfl,k⟩
 have c:=(yi b k)
 have d:=yc [_,_,_] _ c
 refine fK c 10 ?_
 refine cl Cr (Du tb ab t f (ye d 0 rfl) j id p true m) ?_
 rintro _ g ⟨rfl,k⟩
 have a:=(yi d k)
 refine fK a 26 ?_
 refine ar (e:=((i:Nat):Int)) rfl rfl rfl rfl iZ (fQ a 5 ?_)
 refine iF (v:=(Za ((i:Nat):Int))) (v' := Zf) Tryz.results91 rfl rfl ?_
 exact⟨rfl,yo (yp (p:=(t:TW).ok) (yc [_,_,_,_] _ a) j) zd⟩
theorem ae7(tb ab:Nat)(t:TW)(w:World)(g:Own (TW.R tb ab t) w)(id:Int)(l:¬ t.mem id) :
 CR ya 91 (Z4 tb id) w (fun r w' => r = .tuple HD/\fZ (TW.R tb ab t) w w' (TW.R tb ab t)):=by
 have o:t.cs.length=t.n:=rfl
 have q:=g.fact.top
 obtain⟨p,hp,k,m,s⟩:=g.fact.PE l
 refine en Tryz.func91 Tryz.ntmps91 ?_
 have j:=Own.of g.un
 have h:t.ok:=g.fact
 have a:=yc [_,_,_] _ j
 refine fR j 10 ?_
 refine cl v7 (wW tb ab t w (ye a 0 rfl) h) ?_
 rintro _ e ⟨rfl,i⟩
 have b:=(yi a i)
 have c:=yc [_,_,_] _ b
 refine fK b 10 ?_
 refine cl Cr (Du tb ab t e (ye c 0 rfl) h id p false k) ?_
 rintro _ f ⟨rfl,i⟩
 have d:=(yi c i)
 refine fQ d 23 ?_
 refine iF (v:=Zc) (v' := Zn) Tryz.results91 rfl rfl ?_
 exact⟨rfl,yo (yp (p:=(t:TW).ok) (yc [_,_,_,_] _ d) h) zd⟩
theorem Gs(tb ab:Nat)(t:TW)(w:World)(d:Own (TW.R tb ab t) w)(id:Int) :
 CR ya 91 (Z4 tb id) w (fun r w' => ∃ (z:Nat) (b:Bool),r = .tuple (Z7 z b)/\TW.kN t id z b/\fZ (TW.R tb ab t) w w' (TW.R tb ab t)):=by
 by_cases hm:t.mem id
 . obtain⟨i,hi,e⟩:=hm
   exact CR.mono (ae8 tb ab t w d id i hi e) fun r w' ⟨a,c⟩=>⟨i,true,a,.inl ⟨rfl,hi,e⟩,c⟩
 . exact CR.mono (ae7 tb ab t w d id hm) fun r w' ⟨a,c⟩=>⟨0,false,a,.inr ⟨rfl,rfl,hm⟩,c⟩
theorem aff(tb ab:Nat)(t:TW)(w:World)(f:Own (TW.R tb ab t) w) :
 CR ya 57 (Zh tb) w (fun r w' => r = .int .i64 (t.A.used:Int)/\fZ (TW.R tb ab t) w w' (TW.R tb ab t)):=by
 have g:=f.fact
 refine en Tryz.func57 Tryz.ntmps57 ?_
 have i:=Own.of f.un
 have g:t.ok:=f.fact
 have b:=yc [_,_,_] _ i
 refine fR i 9 ?_
 refine cl v7 (wW tb ab t w (ye b 0 rfl) g) ?_
 rintro _ d ⟨rfl,h⟩
 have a:=(yi b h)
 refine fK a 12 ?_
 refine cl IT (LF ab t.w d (ye a 3 rfl)) ?_
 rintro _ e ⟨rfl,h⟩
 have c:=yk 3 a h
 refine fQ c 4 ?_
 refine gp (v:=(Za t.A.used)) Tryz.results57 rfl ?_
 exact⟨rfl,yo (yp (p:=(t:TW).ok) (yc [_,_,_,_] _ c) g) zd⟩
theorem afm(tb ab:Nat)(t:TW)(w:World)(h:Own (TW.R tb ab t) w)(id:Int)(i:Nat)(hi:t.A.gX i)(q:fJ t.ids i=id) :
 CR ya 120 (Z4 tb id) w (fun r w' => r = .tuple #[.int .i64 (i:Int),.bool false,.int .i64 0]/\fZ (TW.R tb ab t) w w' (TW.R tb ab t)):=by
 have y:t.cs.length=t.n:=rfl
 have z:=h.fact.top
 obtain⟨p,hp,l,m⟩:=h.fact.I5 hi
 rw[q]at m
 have s:=(h.fact.val hp l).2.2.2
 have x:i<65536:=ou s h.fact.an
 have u:=(h.fact.val hp l).2.2.1
 refine en Tryz.func120 Tryz.ntmps120 ?_
 have o:=Own.of h.un
 have j:t.ok:=h.fact
 have b:=yc [_,_,_] _ o
 refine fR o 11 ?_
 refine cl v7 (wW tb ab t w (ye b 0 rfl) j) ?_
 rintro _ f ⟨rfl,k⟩
 have c:=(yi b k)
 have d:=yc [_,_,_] _ c
 refine fK c 10 ?_
 refine cl Cr (Du tb ab t f (ye d 0 rfl) j id p true m) ?_
 rintro _ g ⟨rfl,k⟩
 have a:=(yi d k)
 refine fK a 23 ?_
 refine ar (e:=((i:Nat):Int)) rfl rfl rfl rfl iZ (fQ a 7 ?_)
 refine qV (v:=(Za ((i:Nat):Int))) (v' := Zn) (v'' := Zc) Tryz.results120 rfl rfl rfl ?_
 exact⟨rfl,yo (yp (p:=(t:TW).ok) (yc [_,_,_,_] _ a) j) zd⟩
theorem afl(tb ab:Nat)(t:TW)(w:World)(F:Own (TW.R tb ab t) w)(id:Int)(W:¬ t.mem id)(Z:gV .u64 id)(hu:t.A.used<t.A.n) :
 CR ya 120 (Z4 tb id) w (fun r w' => ∃ (i:Nat) (t2:TW),r = .tuple #[.int .i64 (i:Int),.bool true,.int .i64 0]/\((∀ x,t2.mem x↔t.mem x\/x=id)/\t2.A.n=t.A.n/\t2.A.used=t.A.used+1/\TW.Kp t t2)/\fZ (TW.R tb ab t) w w' (TW.R tb ab t2)):=by
 have ai:t.cs.length=t.n:=rfl
 have aj:=F.fact.top
 obtain⟨p,hp,hf,X,hw⟩:=F.fact.PE W
 have ag:t.ids.length=t.w.A.begun:=F.fact.tJ
 have ah:(t.ids++[0]).length=t.ids.length+1:=by simp
 have ad:t.w.A.begun<=t.w.A.n:=F.fact.oU
 have ac:t.w.A.n<=65536:=F.fact.an
 refine en Tryz.func120 Tryz.ntmps120 ?_
 have aa:=Own.of F.un
 have T:t.ok:=F.fact
 have j:=yc [_,_,_] _ aa
 refine fR aa 11 ?_
 refine cl v7 (wW tb ab t w (ye j 0 rfl) T) ?_
 rintro _ B ⟨rfl,V⟩
 have k:=(yi j V)
 have l:=yc [_,_,_] _ k
 refine fK k 10 ?_
 refine cl Cr (Du tb ab t B (ye l 0 rfl) T id p false hf) ?_
 rintro _ C ⟨rfl,V⟩
 have h:=(yi l V)
 refine fK h 22 ?_
 refine cl Ol (T6 ab t.w C (ye h 3 rfl) hu) ?_
 rintro _ G ⟨a,d,rfl,b,V⟩
 have c:=yk 3 h V
 have Y:=(yy c (i:=3) rfl:d.A.ok)
 have ae:a<=t.ids.length:=by rcases b.oU with h9|h9<;>omega
 have af:a<=65536:=by omega
 refine fK c 25 ?_
 refine jA (m:=t.ids.length) 1 rfl rfl ot c rfl ?_
 by_cases H:(((a:Nat):Int):Int)=((t.ids.length:Int):Int)
 . refine fK c 10 ?_
   refine kg (vs:=B1) (cs:=B1) rfl rfl ot jI rfl (by simp[Value.cells]) rfl rfl rfl c (fun D I J K o=>mS (cf:=ij) (ys:=t.ids) (zs:=[0]) (LL:=fun e=>[ig .u64 (Z6 D) 27 ([0]),blk tb 200 (oT tb ab t),fM ij e 27 1 (t.ids++[0]),fM fW t.cv 3 1 t.cs,(AW.R ab d)]) 2 rfl rfl rfl ot jI rfl d_ o rfl (lX o (i:=0) rfl) (fun x hx=>zq.1 (show List.all _ _=true from rfl) x hx) (by simp only[zh,zm,maxLen];omega) (by simp only[zh,zm,maxLen];omega) f_ ?_)
   intro e L E M
   have g:=yg [1,2,3,4] E
   refine fK g 2 ?_
   refine j8 0 g (fun N q=>?_) (hvs:=(cells_one (yu g (i:=1) rfl))) (h1:=(iw (yu g (i:=1) rfl) lS))
   refine fK q 11 ?_
   refine iR (f:=(fun _=>id)) 1 q (fun O s=>?_)
   refine fK s 12 ?_
   refine iR (f:=(fun _=>(a+1))) 2 s (fun P u=>?_)
   refine fQ u 11 ?_
   refine qV (v:=(Za ((a:Nat):Int))) (v' := Zf) (v'' := Zc) Tryz.results120 rfl rfl rfl ?_
   have U:=T.put W Z Y b hp X hw e t.cv (is2:=fO (t.ids++[0]) a (fun _=>id)) (cs2:=fO t.cs p (fun _=>(a+1))) (by unfold tS;rw[if_pos o_]) rfl
   exact⟨a,⟨e,t.cv,d,fO (t.ids++[0]) a (fun _=>id),fO t.cs p (fun _=>(a+1))⟩,rfl,⟨U.2,b.n,b.used,T.Sd b (by unfold tS;rw[if_pos o_])⟩,yo (yp (p:=(⟨e,t.cv,d,fO (t.ids++[0]) a (fun _=>id),fO t.cs p (fun _=>(a+1))⟩:TW).ok) (yc [_,_,_,_] _ u) U.1) zd⟩
 . refine fK c 15 ?_
   refine iR (f:=(fun _=>id)) 1 c (fun Q y=>?_)
   refine fK y 12 ?_
   refine iR (f:=(fun _=>(a+1))) 2 y (fun S z=>?_)
   refine fQ z 11 ?_
   refine qV (v:=(Za ((a:Nat):Int))) (v' := Zf) (v'' := Zc) Tryz.results120 rfl rfl rfl ?_
   have U:=T.put W Z Y b hp X hw t.iv t.cv (is2:=fO t.ids a (fun _=>id)) (cs2:=fO t.cs p (fun _=>(a+1))) (by unfold tS;rw[if_neg o_]) rfl
   exact⟨a,⟨t.iv,t.cv,d,fO t.ids a (fun _=>id),fO t.cs p (fun _=>(a+1))⟩,rfl,⟨U.2,b.n,b.used,T.Sd b (by unfold tS;rw[if_neg o_])⟩,yo (yp (p:=(⟨t.iv,t.cv,d,fO t.ids a (fun _=>id),fO t.cs p (fun _=>(a+1))⟩:TW).ok) (yc [_,_,_,_] _ z) U.1) zd⟩
end
section
open Go Go.Sx
theorem ae9(tb ab:Nat)(t:TW)(cs2:List Nat)(d:cs2.length=t.n)(w:World)(b:Own (D7 tb ab t cs2) w)(c:TW.Sz t.n)(id:Int) :
 CR ya 156 (Z4 tb id) w (fun r w' => r = .int .i64 ((kE t.n id:Nat):Int)/\fZ (D7 tb ab t cs2) w w' (D7 tb ab t cs2)):=by
 have a:TW.n ⟨t.iv,t.cv,t.w,t.ids,cs2⟩=t.n:=d
 have h:=Tf tb ab ⟨t.iv,t.cv,t.w,t.ids,cs2⟩ w b (by rw[a];exact c) id
 rw[a]at h
 exact h
theorem ae3(tb ab:Nat)(t:TW)(w:World)(Q:Own (Z1 tb ab t) w)(A:t.ok)(p i:Nat)(hp:p<t.n)(L:fJ t.cs p=i+1) :
 CR ya 111 (Zm tb ((p:Nat):Int)) w (fun r w' => r = .tuple #[]/\∃ D,D.length=t.n/\(rE t.n D (fun j=>kE t.n (fJ t.ids j))/\(∀ p q,p<t.n->q<t.n->fJ D p≠0->fJ D p=fJ D q->p=q)/\(∀ K,(∃ p,p<t.n/\fJ D p=K+1)↔K≠i/\∃ p,p<t.n/\fJ t.cs p=K+1))/\fZ (Z1 tb ab t) w w' (D7 tb ab t D)):=by
 have af:t.cs.length=t.n:=rfl
 have Z:=A.two
 have ag:=A.top
 have N:0<t.n:=by omega
 obtain⟨z,X,Y⟩:=A.zero
 have P:pn t.n (fun j=>kE t.n (fJ t.ids j)) i t.cs t.cs p p z:=pn.start A.F3 rfl hp L X Y (fun q j _ _=>xV N) A.inj
 refine en Tryz.func111 Tryz.ntmps111 ?_
 have G:=Own.of Q
 refine fR G 7 ?_
 refine jA (m:=t.cs.length) 2 rfl rfl yd G rfl (gJ G 15 ?_)
 refine lp (α:=List Nat×Nat×Nat) (fun(cs,hole,c)=>[(0,(Zb tb)),(1,(Za ((hole:Nat):Int))),(4,(Za ((t.cs.length:Int)-1))),(5,(Za ((c:Nat):Int)))]) (fun(cs,hole,c) w1=>St [(w,(Z1 tb ab t).gK)] [blk tb 200 (oT tb ab t),fM ij t.iv 27 1 t.ids,fM fW t.cv 3 1 cs] w1/\pn t.n (fun j=>kE t.n (fJ t.ids j)) i t.cs cs hole c z) (fun(cs,hole,c)=>dst t.n c z) (t.cs,p,p) ⟨rfl,gw rO,rfl,gw rO,trivial⟩ (⟨G,P⟩) ?_
 rintro⟨cs,hole,c⟩ u s ⟨C,B⟩
 have F:=B.next
 have J:ic t.n c<t.n:=F.1
 have U:=B.wh
 have R:=B.N1
 have ae:=B.len
 refine fR C 6 ?_
 refine bi (a:=((c:Nat):Int)+1) (b:=(t.cs.length:Int)-1) (e:=((ic t.n c:Nat):Int)) rfl rfl rfl (A.p2.nx R) (fK C 19 ?_)
 by_cases g:((((fJ cs (ic t.n c)):Nat):Int):Int)=(0:Int)
 . have O:fJ cs (ic t.n c)=0:=by have H:=@g;omega
   refine fK C 17 ?_
   refine iR (f:=(fun _=>0)) (cf:=fW) 2 C (fun v h=>?_)
   refine fQ h 2 ?_
   refine i6 Tryz.results111 ?_
   exact⟨rfl,fO cs hole (fun _=>0),by rw[gB];exact B.len,B.done O ⟨p,hp,L⟩,yn (yc [_,_,_] _ h)⟩
 . obtain⟨j,E⟩:∃ j,fJ cs (ic t.n c)=j+1:=⟨fJ cs (ic t.n c)-1,by have H:=@g;omega⟩
   obtain⟨aa,q9,V,S⟩:=(B.mem j).1 ⟨ic t.n c,J,F.2.1,E⟩
   have M:=A.val V S
   have ac:j<t.ids.length:=M.2.2.1
   have ad:j<65536:=ou M.2.2.2 A.an
   have T:=xV (id:=fJ t.ids j) N
   refine fK C 1 ?_
   rw[E]
   refine fK C 15 ?_
   refine ar (e:=((j:Nat):Int)) rfl rfl rfl rfl iZ ?_
   have k:=yc [_,_,_] _ C
   refine fK C 2 ?_
   refine cl OB (ae9 tb ab t cs B.len s (ye k 0 rfl) A.sz (fJ t.ids j)) ?_
   rintro _ x ⟨rfl,W⟩
   have d:=(yi k W)
   refine fK d 2 ?_
   refine bi (a:=((ic t.n c:Nat):Int)-((kE t.n (fJ t.ids j):Nat):Int)) (b:=(t.cs.length:Int)-1) (e:=((dst t.n (kE t.n (fJ t.ids j)) (ic t.n c):Nat):Int)) rfl rfl rfl (A.p2.dst T J) (fK d 4 ?_)
   refine bi (a:=((ic t.n c:Nat):Int)-((hole:Nat):Int)) (b:=(t.cs.length:Int)-1) (e:=((dst t.n hole (ic t.n c):Nat):Int)) rfl rfl rfl (A.p2.dst U J) ?_
   by_cases l:(((dst t.n (kE t.n (fJ t.ids j)) (ic t.n c):Nat):Int):Int)<(((dst t.n hole (ic t.n c):Nat):Int):Int)
   . have I:(dst t.n (kE t.n (fJ t.ids j)) (ic t.n c)<dst t.n hole (ic t.n c)):=by have H:=l;omega
     refine fQ d 7 ?_
     refine tN (?_)
     exact again (cs,hole,(ic t.n c)) ⟨rfl,rfl,rfl,gw rO,trivial⟩ (⟨d,B.skip E I⟩) (by show dst t.n (ic t.n c) z<dst t.n c z;exact F.2.2.2.2)
   . have I:¬ (dst t.n (kE t.n (fJ t.ids j)) (ic t.n c)<dst t.n hole (ic t.n c)):=by have H:=l;omega
     refine fK d 15 ?_
     refine iR (f:=(fun _=>(j+1))) 2 d (fun y o=>?_)
     refine fQ o 7 ?_
     refine tN (?_)
     exact again (fO cs hole (fun _=>(j+1)),(ic t.n c),(ic t.n c)) ⟨rfl,gw rO,rfl,gw rO,trivial⟩ (⟨o,B.move E I⟩) (by show dst t.n (ic t.n c) z<dst t.n c z;exact F.2.2.2.2)
end
section
open Go Go.Sx
theorem K9(tb ab:Nat)(t:TW)(w:World)(B:Own (TW.R tb ab t) w)(id:Int)(i:Nat)(hi:t.A.gX i)(G:fJ t.ids i=id) :
 CR ya 73 (Z4 tb id) w (fun r w' => ∃ (t2:TW),r = .int .i64 0/\((∀ x,t2.mem x↔t.mem x/\x≠id)/\t2.A.n=t.A.n/\t2.A.used=t.A.used-1/\0<t.A.used/\TW.Kp t t2)/\fZ (TW.R tb ab t) w w' (TW.R tb ab t2)):=by
 have P:t.cs.length=t.n:=rfl
 have Q:=B.fact.top
 obtain⟨p,hp,F,H⟩:=B.fact.I5 hi
 rw[G]at H
 have L:=(B.fact.val hp F).2.2.2
 have O:i<65536:=ou L B.fact.an
 have N:=(B.fact.val hp F).2.2.1
 refine en Tryz.func73 Tryz.ntmps73 ?_
 have I:=Own.of B.un
 have D:t.ok:=B.fact
 have g:=yc [_,_,_] _ I
 refine fR I 9 ?_
 refine cl v7 (wW tb ab t w (ye g 0 rfl) D) ?_
 rintro _ q ⟨rfl,C⟩
 have h:=(yi g C)
 have j:=yc [_,_,_] _ h
 refine fK h 10 ?_
 refine cl Cr (Du tb ab t q (ye j 0 rfl) D id p true H) ?_
 rintro _ s ⟨rfl,C⟩
 have b:=(yi j C)
 refine fK b 26 ?_
 refine ar (e:=((i:Nat):Int)) rfl rfl rfl rfl iZ (fK b 11 ?_)
 refine cl O8 (Ub ab t.w s (ye b 3 rfl) i hi) ?_
 rintro _ u ⟨c,rfl,a,C⟩
 have d:=yk 3 b C
 have J:=(yy d (i:=3) rfl:c.A.ok)
 have k:=yc [_,_,_] _ d
 refine fK d 16 ?_
 refine cl WG (ae3 tb ab t u (ye k 0 rfl) D p i hp F) ?_
 rintro _ y ⟨rfl,l,M,K,C⟩
 have m:=(yi k C)
 refine fK m 10 ?_
 refine iR (f:=(fun _=>0)) (cf:=ij) 1 m (fun z o=>?_)
 refine fQ o 8 ?_
 refine gp (v:=Zc) Tryz.results73 rfl ?_
 have E:=D.del hi J a M K t.iv t.cv (is2:=fO t.ids i (fun _=>0)) rfl
 rw[G]at E
 exact⟨⟨t.iv,t.cv,c,fO t.ids i (fun _=>0),l⟩,rfl,⟨E.2,a.n,a.used,a.pos,D.Wi hi a rfl (by rw[G];exact E.2)⟩,yo (yp (p:=(⟨t.iv,t.cv,c,fO t.ids i (fun _=>0),l⟩:TW).ok) (yc [_,_,_,_] _ o) E.1) zd⟩
theorem VG(v:Value)(xs:List Int)(w:World)(hv:ir 1 ij (fun _=>True) w v xs)(m:xs.length<=1000000) :
 CR ya 157 #[v] w (fun r w' => p6 1 ij w w' r 27 xs/\gz [] w w'):=by
 refine en Tryz.func157 Tryz.ntmps157 ?_
 have l:=yt w
 refine fR l 9 ?_
 refine CC (v:=v) rfl rfl rfl ot hv (gJ l 2 ?_)
 cases e:(wF v:Bool)
 . skip
   refine fR l 5 ?_
   refine kg (vs:=[]) (cs:=[]) rfl rfl ot jI rfl (by intro v hv;simp at hv) rfl rfl rfl l ?_
   intro f g h i c
   have d:=c
   refine fK c 1 ?_
   refine mS (cf:=ij) (ys:=[]) (zs:=xs) (LL:=fun a=>[fM ij a 27 1 xs]) 0 rfl rfl rfl ot jI rfl d_ d rfl (ir.src (yw d s_ d_ hv) f_) (xS f_ _) (by simp only[zm];omega) (by simp only[zm];omega) f_ (fun a j b k=>fQ b 4 ?_)
   refine gp (v:=a) Tryz.results157 rfl ?_
   exact⟨DK b s_,b.gC s_⟩
 . skip
   refine iP l 8 ?_
   refine gp (v:=Zg) Tryz.results157 rfl ?_
   obtain rfl:=C5 e hv
   exact⟨p6.C4, l.gC s_⟩
theorem Iw(v:Value)(xs:List Nat)(w:World)(hv:ir 1 fW (fun _=>True) w v xs)(m:xs.length<=1000000) :
 CR ya 117 #[v] w (fun r w' => p6 1 fW w w' r 3 xs/\gz [] w w'):=by
 refine en Tryz.func117 Tryz.ntmps117 ?_
 have l:=yt w
 refine fR l 9 ?_
 refine CC (v:=v) rfl rfl rfl yd hv (gJ l 2 ?_)
 cases e:(wF v:Bool)
 . skip
   refine fR l 5 ?_
   refine kg (vs:=[]) (cs:=[]) rfl rfl yd gy rfl (by intro v hv;simp at hv) rfl rfl rfl l ?_
   intro f g h i c
   have d:=c
   refine fK c 1 ?_
   refine mS (cf:=fW) (ys:=[]) (zs:=xs) (LL:=fun a=>[fM fW a 3 1 xs]) 0 rfl rfl rfl yd gy rfl d_ d rfl (ir.src (yw d s_ d_ hv) f_) (xS f_ _) (by simp only[zm];omega) (by simp only[zm];omega) f_ (fun a j b k=>fQ b 4 ?_)
   refine gp (v:=a) Tryz.results117 rfl ?_
   exact⟨DK b s_,b.gC s_⟩
 . skip
   refine iP l 8 ?_
   refine gp (v:=Zg) Tryz.results117 rfl ?_
   obtain rfl:=C5 e hv
   exact⟨p6.C4, l.gC s_⟩
theorem ae4(tb ab:Nat)(t:TW)(w:World)(F:Own (TW.R tb ab t) w) :
 CR ya 114 (Zh tb) w (fun r w' => ∃ (P Q:Nat) (t2:TW),r = .pointer (some ⟨P,0,none⟩)/\((∀ x,t2.mem x↔t.mem x)/\t2.A.n=t.A.n/\t2.A.used=t.A.used)/\fZ (TW.R tb ab t) w w' (gq [(TW.R tb ab t),(TW.R P Q t2)])):=by
 have Y:t.cs.length=t.n:=rfl
 have Z:=F.fact.top
 have X:t.ids.length=t.w.A.begun:=F.fact.tJ
 have W:t.w.A.begun<=t.w.A.n:=F.fact.oU
 have V:t.w.A.n<=65536:=F.fact.an
 refine en Tryz.func114 Tryz.ntmps114 ?_
 have O:=Own.of F.un
 have K:t.ok:=F.fact
 have j:=yc [_,_,_] _ O
 refine fR O 9 ?_
 refine cl v7 (wW tb ab t w (ye j 0 rfl) K) ?_
 rintro _ D ⟨rfl,M⟩
 have k:=(yi j M)
 refine gJ k 7 ?_
 refine kW mixed [([0,1,2,3,5,6,7,8,10,11,12,13,4],[8,13]),([9],[13])] [14,15,16,17] k (fun o e=>j3 ?_)
 refine fK e 12 ?_
 refine cl Oj (T9 ab t.w o (ye e 3 rfl)) ?_
 rintro _ q ⟨c,d,rfl,s,M⟩
 have u:=yg [3,0,1,2] e
 have f:=y0 (yk 0 u M)
 refine fQ f 1 ?_
 refine kR (j3 ?_)
 refine cl W8 (VG t.iv t.ids q (iW f 3 rfl).any (by first|omega|(simp;omega))) ?_
 rintro a l J
 have g:St _ [fM ij a 27 1 t.ids,(AW.R ab t.w),(AW.R c d),blk tb 200 (oT tb ab t),fM ij t.iv 27 1 t.ids,fM fW t.cv 3 1 t.cs] l:=w5 f J.2 J.1
 refine fQ g 1 ?_
 refine kR (lE ?_)
 refine cl IK (Iw t.cv t.cs l (iW g 5 rfl).any (by first|omega|(simp;omega))) ?_
 rintro b y J
 have h:St _ [fM fW b 3 1 t.cs,fM ij a 27 1 t.ids,(AW.R ab t.w),(AW.R c d),blk tb 200 (oT tb ab t),fM ij t.iv 27 1 t.ids,fM fW t.cv 3 1 t.cs] y:=w5 g J.2 J.1
 refine jh (pvs:=[(1,(Zb c)),(2,a),(3,b)]) (v:=.agg #[Zs,(Zb c),a,b]) rfl rfl (jx [(1,(Zi c)),(2,[a]),(3,[b])] Gx RS rfl ⟨rfl,rfl,rfl,(cells_one (yu h (i:=1) rfl)),rfl,(cells_one (yu h (i:=0) rfl)),trivial⟩ rfl) (iz h (fun m E G H z=>?_))
 refine jY z 19 fun I B=>?_
 refine gp (v:=(Zb m)) Tryz.results114 rfl ?_
 have C:=yg [5,6,7,3,0,2,1,4] B
 obtain⟨aa,L⟩:=s
 have N:=K.copy L a b
 have U:=yp (p:=t.ok) (yc [_,_,_,_] _ C) K
 have S:=yp (p:=(⟨a,b,d,t.ids,t.cs⟩:TW).ok) (yc [_,_,_,_] _ (mN U (rz (l₁:=[_]) (l₂:=[_,_,_,_]) |>.append_right _))) N.1
 have T:=mN S (List.Perm.swap _ _ _)
 exact⟨m,c,⟨a,b,d,t.ids,t.cs⟩,rfl,⟨N.2,by rw[show TW.A ⟨a,b,d,t.ids,t.cs⟩=_ from L],by rw[show TW.A ⟨a,b,d,t.ids,t.cs⟩=_ from L]⟩,yn (yc [_,_] _ T)⟩
theorem afh(m:Nat)(w:World)(hm:m<=65536) :
 CR ya 100 (Z8 ((m:Nat):Int)) w (fun r w' => ∃ (tb ab:Nat) (t:TW),r = .tuple (Z2 tb)/\((∀ x,¬ t.mem x)/\t.A.n=m/\t.A.used=0)/\fZ (gq []) w w' (TW.R tb ab t)):=by
 refine en Tryz.func100 Tryz.ntmps100 ?_
 have N:=yt w
 refine fR N 9 ?_
 refine cl Pe (Ui m w hm) ?_
 rintro _ z ⟨b,d,rfl,g,P⟩
 have h:=(kf N P)
 refine gJ h 24 ?_
 refine lp (α:=Nat) (fun k=>[(0,(Za ((m:Nat):Int))),(2,Zs),(3,Zc),(4,(Zb b)),(5,Zc),(6,(Za ((k:Nat):Int)))]) (fun k w1=>St [(w,[])] [(AW.R b d)] w1/\P2 k/\2<=k/\(k=2\/k<4*m)) (fun k=>4*m-k) 2 ⟨rfl,rfl,rfl,rfl,rfl,gw rO,trivial⟩ (⟨h,P2.two,o_,.inl rfl⟩) ?_
 rintro k B C ⟨F,L,O,Q⟩
 have S:k<=262144:=by omega
 refine fR F 6 ?_
 by_cases D:(((k:Nat):Int):Int)<(2*((m:Nat):Int):Int)
 . refine fK F 9 ?_
   refine ar (e:=((k*2:Nat):Int)) rfl rfl rfl rfl iZ (fQ F 3 ?_)
   refine tN (?_)
   exact again (k*2) ⟨rfl,rfl,rfl,rfl,rfl,gw rO,trivial⟩ (⟨F,L.Wh o_,o_,o_⟩) o_
 . refine fK F 13 ?_
   refine sU (cf:=fW) (z0:=0) (m:=k) (c:=k) rfl rfl rfl yd gy rfl f_ d_ (zn _) o_ o_ F (fun a E G H j=>jh (pvs:=[(1,(Zb b)),(3,(Zd a k))]) (v:=.agg #[Zs,(Zb b),Zg,(Zd a k)]) rfl rfl (jx [(1,(Zi b)),(3,(qb a k))] Gx RS rfl ⟨rfl,rfl,rfl,rfl,trivial⟩ rfl) (iz j (fun f I J K l=>?_)))
   refine jY l 20 fun o q=>?_
   refine iF (v:=(Zb f)) (v' := Zc) Tryz.results100 rfl rfl ?_
   have s:=mM (cf:=fW) q (i:=1) rfl f_ (zn _) (by simp only[maxLen];omega)
   have u:St _ [fM ij Zg 27 1 ([]),blk f 200 [(Zb f),(Zb b),Zg,(Zd a k)],fM fW (Zd a k) 3 1 (List.replicate k 0),(AW.R b d)] o:=rq s 27 1
   have y:=yg [1,0,2,3] u
   have M:=TW.tP g hm L O o_ o_ Zg (Zd a k)
   exact⟨f,b,⟨.slice none 0 0,(Zd a k),d,[],List.replicate k 0⟩,rfl,⟨M.2,by rw[show TW.A ⟨.slice none 0 0,(Zd a k),d,[],List.replicate k 0⟩=_ from g];rfl,by rw[show TW.A ⟨.slice none 0 0,(Zd a k),d,[],List.replicate k 0⟩=_ from g];rfl⟩,vj (yp (p:=(⟨.slice none 0 0,(Zd a k),d,[],List.replicate k 0⟩:TW).ok) (yc [_,_,_,_] _ y) M.1) s_⟩
end
section
open Go Go.Sx
theorem QC(x y:Int)(w:World) :
 CR ya 89 (vF x y) w (fun r w' => r = .bool (decide (x<y))/\gz [] w w'):=by
 refine en Tryz.func89 Tryz.ntmps89 ?_
 have e:=yt w
 refine fR e 8 ?_
 refine cl WV (abI x w) ?_
 rintro _ c ⟨rfl,b⟩
 have a:=yq e b
 refine fK a 8 ?_
 by_cases d:(x:Int)<(y:Int)
 . refine fQ a 6 ?_
   refine gp (v:=Zf) Tryz.results89 rfl ?_
   exact⟨congrArg Value.bool (decide_eq_true o_).symm,a.gC s_⟩
 . refine fQ a 6 ?_
   refine gp (v:=Zn) Tryz.results89 rfl ?_
   exact⟨congrArg Value.bool (decide_eq_false o_).symm,a.gC s_⟩
theorem ZW(v:Value)(xs:List Int)(w:World)(J:Own (rJ v xs) w)(M:xs.length<=1000000) :
 CR ya 231 #[v,Zc,(Za xs.length)] w (fun r w' => ∃ ys:List Int,r = .tuple #[]/\(ys.Perm xs/\qC ys ys.length)/\fZ (rJ v xs) w w' (rJ v ys)):=by
 refine en Tryz.func231 Tryz.ntmps231 ?_
 have H:=yr J
 refine sY H 8 ?_
 refine lp (α:=Nat×List Int) (fun(i,ys)=>[(0,v),(1,Zc),(2,(Za xs.length)),(6,(Za i))]) (fun(i,ys) w1=>St [(w,(rJ v xs).gK)] [fM ij v 27 1 ys] w1/\ys.Perm xs/\qC ys i/\1<=i) (fun(i,ys)=>xs.length+1-i) (1,xs) ⟨rfl,rfl,rfl,gw rO,trivial⟩ (⟨H,List.Perm.refl _,qC.zero,o_⟩) ?_
 rintro⟨i,ys⟩ m n ⟨B,E,F,hi⟩
 have N:=E.length_eq
 refine fR B 5 ?_
 by_cases o:((i:Int):Int)<((xs.length:Int):Int)
 . refine gJ B 15 ?_
   refine lp (α:=Nat×List Int) (fun(j,zs)=>[(0,v),(1,Zc),(2,(Za xs.length)),(6,(Za i)),(7,(Za j))]) (fun(j,zs) w1=>St [(w,(rJ v xs).gK)] [fM ij v 27 1 zs] w1/\zs.Perm xs/\uu zs i j/\j<=i) (fun(j,zs)=>j) (i,ys) ⟨rfl,rfl,rfl,rfl,gw rO,trivial⟩ (⟨B,E,F.at,o_⟩) ?_
   rintro⟨j,zs⟩ s t ⟨K,D,C,G⟩
   have O:=D.length_eq
   refine qu K 5 fun h a=>?_
   by_cases u:((j:Int):Int)>(0:Int)
   . refine fK a 9 ?_
     refine iX (cf:=ij) (k:=(j-1)) (i:=(j:Int)-1) rfl rfl rfl ot jI (iW a 0 rfl) o_ o_ (gE om) (fK a 1 ?_)
     refine cl Pc (QC (fJ zs j) (fJ zs (j-1)) h) ?_
     rintro _ x ⟨rfl,l⟩
     have b:=yq a l
     refine gJ b 3 ?_
     cases d:(decide ((fJ zs j)<(fJ zs (j-1))):Bool)
     . skip
       refine iP b 12 ?_
       refine tN (?_)
       exact again ((i+1),zs) ⟨rfl,rfl,rfl,gw rO,trivial⟩ (⟨b,D,C.done o_ G (of_decide_eq_false d),o_⟩) (by show (xs.length+1-(i+1):Nat)<xs.length+1-i;omega)
     . skip
       refine qu b 14 fun y c=>?_
       refine iX (cf:=ij) (k:=(j-1)) (i:=(j:Int)-1) rfl rfl rfl ot jI (iW c 0 rfl) o_ o_ (gE om) (fK c 6 ?_)
       refine iR (f:=(fun _=>(fJ zs (j-1)))) 0 c (fun z e=>?_)
       refine iX (cf:=ij) (k:=(j-1)) (i:=(j:Int)-1) rfl rfl rfl ot jI (iW e 0 rfl) o_ o_ (gE om) (iR (f:=(fun _=>(fJ zs j))) 0 e (fun A g=>?_))
       refine fQ g 8 ?_
       refine tN (?_)
       exact again ((j-1),fO (fO zs j (fun _=>(fJ zs (j-1)))) (j-1) (fun _=>(fJ zs j))) ⟨rfl,rfl,rfl,rfl,gw rO,trivial⟩ (⟨g,(aeW o_ o_).trans D,C.swap o_ G o_ (of_decide_eq_true d),o_⟩) (by show ((j-1):Nat)<j;omega)
   . refine fQ a 27 ?_
     refine tN (?_)
     exact again ((i+1),zs) ⟨rfl,rfl,rfl,gw rO,trivial⟩ (⟨a,D,(by rw[show j=0 by omega]at C;exact C.Wp),o_⟩) (by show (xs.length+1-(i+1):Nat)<xs.length+1-i;omega)
 . refine fQ B 8 ?_
   refine i6 Tryz.results231 ?_
   exact⟨ys,rfl,⟨E,fun p q I L=>F p q I o_⟩,yn B⟩
theorem Vh(n:Nat)(w:World)(h:n<=12) :
 CR ya 222 (xD n) w (fun r w' => ∃ z,r = .int .i64 z/\gz [] w w'):=by
 refine en Tryz.func222 Tryz.ntmps222 ?_
 have c:=yt w
 refine fR c 9 ?_
 refine cmp rfl rfl rfl (pN o_) (fK c 9 ?_)
 refine cmp rfl rfl rfl (pN o_) (fK c 9 ?_)
 refine cmp rfl rfl rfl (pN o_) (fK c 10 ?_)
 refine ZK 256 rfl rfl rfl Tryz.underlying9 rfl o_ o_ fun a b=>(fQ c 6 ?_)
 refine gp (v:=(Za (0+(a.toNat:Int)))) Tryz.results222 rfl ?_
 exact⟨0+(a.toNat:Int),rfl,c.gC s_⟩
theorem NB(n:Nat)(w:World)(h:n<=12) :
 CR ya 206 (xD n) w (fun r w' => ∃ z,r = .int .i64 z/\gz [] w w'):=by
 refine en Tryz.func206 Tryz.ntmps206 ?_
 have e:=yt w
 refine fR e 12 ?_
 refine cl Xy (Vh n w o_) ?_
 rintro _ d ⟨a,rfl,c⟩
 have b:=yq e c
 refine fQ b 4 ?_
 refine gp (v:=(Za a)) Tryz.results206 rfl ?_
 exact⟨a,rfl,b.gC s_⟩
theorem acw(v:Value)(xs:List Int)(w:World)(i:Own (rJ v xs) w)(z:Int)(l:xs.length<=12) :
 CR ya 212 #[v,Zc,(Za xs.length),(Za z)] w (fun r w' => ∃ ys:List Int,r = .tuple #[]/\(ys.Perm xs/\qC ys ys.length)/\fZ (rJ v xs) w w' (rJ v ys)):=by
 refine en Tryz.func212 Tryz.ntmps212 ?_
 have h:=yr i
 refine sY h 11 ?_
 refine lp (α:=Nat) (fun k=>[(0,v),(1,Zc),(2,(Za xs.length)),(3,(Za z)),(8,Zf),(9,Zf)]) (fun k w1=>St [(w,(rJ v xs).gK)] [fM ij v 27 1 xs] w1) (fun k=>0) 0 ⟨rfl,rfl,rfl,rfl,rfl,rfl,trivial⟩ h ?_
 rintro k e b g
 refine fR g 13 ?_
 refine cmp rfl rfl rfl (Al o_) (fK g 8 ?_)
 refine cl XA (ZW v xs b (ye g 0 rfl) o_) ?_
 rintro _ f ⟨c,rfl,d,j⟩
 have a:=yk 0 g j
 refine fQ a 7 ?_
 refine A8 Tryz.results212 ?_
 exact⟨c,rfl,d,yn a⟩
theorem aeB(v:Value)(xs:List Int)(w:World)(j:Own (rJ v xs) w)(k:xs.length<=12) :
 CR ya 204 #[v] w (fun r w' => ∃ ys:List Int,r = .tuple #[]/\(ys.Perm xs/\qC ys ys.length)/\fZ (rJ v xs) w w' (rJ v ys)):=by
 refine en Tryz.func204 Tryz.ntmps204 ?_
 have i:=yr j
 refine fR i 3 ?_
 refine jA (m:=xs.length) 0 rfl rfl ot i rfl (fK i 8 ?_)
 refine cl OU (NB xs.length w o_) ?_
 rintro _ c ⟨d,rfl,e⟩
 have a:=yq i e
 refine cl Xx (acw v xs c (ye a 0 rfl) d k) ?_
 rintro _ h ⟨f,rfl,g,l⟩
 have b:=yk 0 a l
 refine fQ b 1 ?_
 refine i6 Tryz.results204 ?_
 exact⟨f,rfl,g,yn b⟩
theorem abJ(x:Int)(w:World) :
 CR ya 90 (xD x) w (fun r w' => r = .bool false/\gz [] w w'):=by
 refine en Tryz.func90 Tryz.ntmps90 ?_
 have a:=yt w
 refine iP a 14 ?_
 refine gp (v:=Zn) Tryz.results90 rfl ?_
 exact⟨rfl,a.gC s_⟩
theorem Vj(v:Value)(xs:List Int)(x:Int)(w:World)(hv:ir 1 ij (fun _=>True) w v xs)(hs:xs.Pairwise fun a b=>a<b)(F:xs.length<=1000000) :
 CR ya 49 #[v,(Zo x)] w (fun r w' => ∃ b:Bool,r = .tuple (Z7 (gH xs x:Int) b)/\gz [] w w'):=by
 refine en Tryz.func49 Tryz.ntmps49 ?_
 have C:=yt w
 refine fR C 9 ?_
 refine kU (v:=v) rfl rfl ot hv (gJ C 12 ?_)
 refine lp (α:=Nat×Nat) (fun(i,j)=>[(0,v),(1,(Zo x)),(6,(Za xs.length)),(7,(Za i)),(8,(Za j))]) (fun(i,j) w1=>St [(w,[])] [] w1/\oO xs x i j/\i<=j/\j<=xs.length) (fun(i,j)=>j-i) (0,xs.length) ⟨rfl,rfl,rfl,gw rO,gw rO,trivial⟩ (⟨C,oO.start,o_,o_⟩) ?_
 rintro⟨i,j⟩ o d ⟨z,A,D,E⟩
 refine fR z 5 ?_
 by_cases p:((i:Int):Int)<((j:Int):Int)
 . refine fK z 13 ?_
   refine shr (a:=(i:Int)+(j:Int)) (b:=1) (e:=(((i+j) / 2:Nat):Int)) rfl rfl rfl d_ (Yz (i+j) 1 64 d_) ?_
   obtain⟨f,g⟩:=pO (show ((i+j) / 2)<xs.length by omega)
   refine fK z 11 ?_
   refine cl Pc (QC f x d) ?_
   rintro _ q ⟨rfl,m⟩
   have c:=yq z m
   refine gJ c 2 ?_
   cases h:(decide (f<x):Bool)
   . skip
     refine iP c 6 ?_
     refine tN (?_)
     exact again (i,((i+j) / 2)) ⟨rfl,rfl,rfl,rfl,gw rO,trivial⟩ (⟨c,A.down hs (by rw[iD g];exact of_decide_eq_false h),o_,o_⟩) (by show (((i+j) / 2)-i:Nat)<j-i;omega)
   . skip
     refine iP c 7 ?_
     refine tN (?_)
     exact again (((i+j) / 2+1),j) ⟨rfl,rfl,rfl,gw rO,rfl,trivial⟩ (⟨c,A.up hs o_ (by rw[iD g];exact of_decide_eq_true h),o_,o_⟩) (by show (j-((i+j) / 2+1):Nat)<j-i;omega)
 . refine fK z 14 ?_
   by_cases s:((i:Int):Int)<((xs.length:Int):Int)
   . obtain⟨k,t⟩:=pO (show i<xs.length by omega)
     refine fK z 7 ?_
     by_cases u:(k:Int)=(x:Int)
     . refine fQ z 18 ?_
       refine iF (v:=(Za i)) (v' := Zf) Tryz.results49 rfl rfl ?_
       have B:i=gH xs x:=oO.gH (by rw[show j=i by omega]at A;exact A) o_
       exact⟨true,by rw[B],z.gC s_⟩
     . refine fK z 6 ?_
       refine cl Yc (abJ k d) ?_
       rintro _ y ⟨rfl,n⟩
       have l:=yq z n
       refine fQ l 11 ?_
       refine iF (v:=(Za i)) (v' := Zn) Tryz.results49 rfl rfl ?_
       have B:i=gH xs x:=oO.gH (by rw[show j=i by omega]at A;exact A) o_
       exact⟨false,by rw[B],l.gC s_⟩
   . refine fQ z 25 ?_
     refine iF (v:=(Za i)) (v' := Zn) Tryz.results49 rfl rfl ?_
     have B:i=gH xs x:=oO.gH (by rw[show j=i by omega]at A;exact A) o_
     exact⟨false,by rw[B],z.gC s_⟩
end
section
open Go Go.Sx
def fV.R(fN fL ub:Nat)(s:fV):fS:=kC (s.ok fN fL) (gq [blk ub 143 (pM fN fL s (some s.mb)),fM Lv.cells s.lv 107 7 s.live,gZ s.mb .u64 p_ s.im,jE 3 s.im,(AW.R s.je s.aw),(TW.R s.tb s.ab s.t)])
abbrev Hy(a b c:Nat) d e f:=(gq [fV.R a b c d,fM Lv.cells e 107 7 f]:fS)
theorem Bm(fN fL ub:Nat)(s:fV)(w:World)(d:Own (fV.R fN fL ub s) w) :
 CR ya 56 (Zh ub) w (fun r w' => r = .bool true/\fZ (fV.R fN fL ub s) w w' (fV.R fN fL ub s)):=by
 refine en Tryz.func56 Tryz.ntmps56 ?_
 have b:=Own.of d.un
 have e:s.ok fN fL:=d.fact
 refine fR b 8 ?_
 refine mY (a:=some ⟨ub,0,none⟩) (c:=true) rfl rfl rfl G4 rfl (fK b 5 ?_)
 refine Rl (a:=some s.mb) (c:=true) rfl rfl rfl yv rfl (fQ b 5 ?_)
 refine gp (v:=Zf) Tryz.results56 rfl ?_
 exact⟨rfl,yo (yp (p:=fV.ok fN fL s) (yc [_,_,_,_,_,_] _ b) e) zd⟩
theorem GH(fN fL ub:Nat)(s:fV)(w:World)(l:Own (fV.R fN fL ub s) w)(id:Int) :
 CR ya 50 (Z4 ub id) w (fun r w' => ∃ (z:Nat) (b:Bool),r = .tuple (Z7 z b)/\s.t.kN id z b/\fZ (fV.R fN fL ub s) w w' (fV.R fN fL ub s)):=by
 refine en Tryz.func50 Tryz.ntmps50 ?_
 have n:=Own.of l.un
 have m:s.ok fN fL:=l.fact
 have c:=yp (p:=s.ok fN fL) (yc [_,_,_,_,_,_] _ n) m
 refine fR n 10 ?_
 refine cl Ax (Bm fN fL ub s w (ye c 0 rfl)) ?_
 rintro _ g ⟨rfl,k⟩
 have h:=yk 0 c k
 have a:=(jP h).unpack
 refine fK a 13 ?_
 refine cl E3 (Gs s.tb s.ab s.t g (ye a 5 rfl) id) ?_
 rintro _ j ⟨d,e,rfl,i,k⟩
 have f:=yk 5 a k
 refine fQ f 7 ?_
 refine iF (v:=(Za d)) (v' := (.bool e)) Tryz.results50 rfl rfl ?_
 exact⟨d,e,rfl,i,yo (yp (p:=fV.ok fN fL s) (yc [_,_,_,_,_,_] _ f) m) zd⟩
end
section
open Go Go.Sx
theorem Lw(fN fL ub:Nat)(s:fV)(w:World)(hO:Own (fV.R fN fL ub s) w)(x:Lv) :
 CR ya 75 (xE ub x) w (fun r w' => r = .int .i64 (s.gP fN fL x.u x.v)/\fZ (fV.R fN fL ub s) w w' (fV.R fN fL ub s)):=by
 have ak:s.t.A.used<=s.t.A.n:=hO.fact.tok.ul
 have ah:=hO.fact.n
 have ai:=hO.fact.tn
 have ag:=hO.fact.en
 have aj:=hO.fact.vn
 have af:s.A.used<=s.A.begun:=by have h7:=hO.fact.kS.used;omega
 have ae:=hO.fact.kS.le
 refine en Tryz.func75 Tryz.ntmps75 ?_
 have ad:=Own.of hO.un
 have hU:s.ok fN fL:=hO.fact
 refine fR ad 2 ?_
 refine iz ad (fun L B M N l=>?_)
 have C:=yg [1,2,3,4,5,6,0] l
 have m:=yp (p:=s.ok fN fL) (yc [_,_,_,_,_,_] _ C) hU
 refine fK l 7 ?_
 refine cl Ax (Bm fN fL ub s B (ye m 0 rfl)) ?_
 rintro _ O ⟨rfl,ht⟩
 have D:=yk 0 m ht
 have g:=(jP D).unpack
 refine fK g 13 ?_
 by_cases P:(x.u:Int)=(x.v:Int)
 . refine fQ g 11 ?_
   refine gp (v:=zW) uc rfl ?_
   exact⟨gw (fV.NV o_).symm,yo (yp (p:=fV.ok fN fL s) (yc [_,_,_,_,_,_] _ g) hU) zd⟩
 . refine gJ g 8 ?_
   refine kW mixed [([0,1,2,3,5,6,7,8,4],[8])] [9] g (fun E k=>j3 ?_)
   refine fK k 8 ?_
   refine cl IT (LF s.je s.aw E (ye k 4 rfl)) ?_
   rintro _ G ⟨rfl,ht⟩
   have e:=yk 4 k ht
   refine fQ e 1 ?_
   refine kR (lE ?_)
   by_cases Q:((s.A.used:Int):Int)≥((fL:Int):Int)
   . refine fQ e 11 ?_
     refine gp (v:=(.int .i64 12)) uc rfl ?_
     exact⟨gw (fV.NU o_ o_).symm,yo (yp (p:=fV.ok fN fL s) (yc [_,_,_,_,_,_] _ e) hU) zd⟩
   . refine fK e 12 ?_
     refine cl XT (aff s.tb s.ab s.t G (ye e 5 rfl)) ?_
     rintro _ H ⟨rfl,ht⟩
     have f:=yk 5 e ht
     refine fK f 10 ?_
     refine jh (pvs:=[(0,(Zo x.u)),(1,(Zo x.v))]) (v:=.agg (vF x.u x.v)) rfl rfl (uC [(0,(Zt x.u)),(1,(Zt x.v))] ua oq jI rfl ⟨rfl,rfl,rfl,rfl,trivial⟩ rfl s_) (gJ f 4 ?_)
     refine ri 3 (iE (fR f 13 ?_))
     refine mC (i:=0) rfl rfl rfl oq yj rfl jI d_ rfl (fK f 10 ?_)
     refine cl E3 (Gs s.tb s.ab s.t H (ye f 5 rfl) x.u) ?_
     rintro _ o ⟨S,I,rfl,d,ht⟩
     have c:=yk 5 f ht
     refine gJ c 13 ?_
     cases q:(I:Bool)
     . skip
       subst q
       refine iP c 12 ?_
       refine tN (?_)
       refine iE (fR c 13 ?_)
       refine mC (i:=1) rfl rfl rfl oq yj rfl jI d_ rfl (fK c 10 ?_)
       refine cl E3 (Gs s.tb s.ab s.t o (ye c 5 rfl) x.v) ?_
       rintro _ U ⟨V,J,rfl,h,ht⟩
       have a:=yk 5 c ht
       refine gJ a 13 ?_
       cases y:(J:Bool)
       . skip
         subst y
         refine iP a 12 ?_
         refine tN (?_)
         refine iE (fR a 20 ?_)
         by_cases W:(((s.t.A.used:Int)+1)+1:Int)>((fN:Int):Int)
         . refine fQ a 11 ?_
           refine gp (v:=(.int .i64 11)) uc rfl ?_
           have F:=d.cnt
           simp at F
           have T:=h.cnt
           simp at T
           exact⟨gw (fV.Co o_ o_ o_).symm,yo (yp (p:=fV.ok fN fL s) (yc [_,_,_,_,_,_] _ a) hU) zd⟩
         . refine fQ a 12 ?_
           refine gp (v:=Zc) uc rfl ?_
           have F:=d.cnt
           simp at F
           have T:=h.cnt
           simp at T
           exact⟨gw (fV.Am o_ o_ o_).symm,yo (yp (p:=fV.ok fN fL s) (yc [_,_,_,_,_,_] _ a) hU) zd⟩
       . skip
         subst y
         refine iP a 8 ?_
         refine tN (?_)
         refine iE (fR a 20 ?_)
         by_cases X:((s.t.A.used:Int)+1:Int)>((fN:Int):Int)
         . refine fQ a 11 ?_
           refine gp (v:=(.int .i64 11)) uc rfl ?_
           have F:=d.cnt
           simp at F
           have T:=h.cnt
           simp at T
           exact⟨gw (fV.Co o_ o_ o_).symm,yo (yp (p:=fV.ok fN fL s) (yc [_,_,_,_,_,_] _ a) hU) zd⟩
         . refine fQ a 12 ?_
           refine gp (v:=Zc) uc rfl ?_
           have F:=d.cnt
           simp at F
           have T:=h.cnt
           simp at T
           exact⟨gw (fV.Am o_ o_ o_).symm,yo (yp (p:=fV.ok fN fL s) (yc [_,_,_,_,_,_] _ a) hU) zd⟩
     . skip
       subst q
       refine iP c 8 ?_
       refine tN (?_)
       refine iE (fR c 13 ?_)
       refine mC (i:=1) rfl rfl rfl oq yj rfl jI d_ rfl (fK c 10 ?_)
       refine cl E3 (Gs s.tb s.ab s.t o (ye c 5 rfl) x.v) ?_
       rintro _ Y ⟨Z,K,rfl,j,ht⟩
       have b:=yk 5 c ht
       refine gJ b 13 ?_
       cases z:(K:Bool)
       . skip
         subst z
         refine iP b 12 ?_
         refine tN (?_)
         refine iE (fR b 20 ?_)
         by_cases aa:((s.t.A.used:Int)+1:Int)>((fN:Int):Int)
         . refine fQ b 11 ?_
           refine gp (v:=(.int .i64 11)) uc rfl ?_
           have F:=d.cnt
           simp at F
           have T:=j.cnt
           simp at T
           exact⟨gw (fV.Co o_ o_ o_).symm,yo (yp (p:=fV.ok fN fL s) (yc [_,_,_,_,_,_] _ b) hU) zd⟩
         . refine fQ b 12 ?_
           refine gp (v:=Zc) uc rfl ?_
           have F:=d.cnt
           simp at F
           have T:=j.cnt
           simp at T
           exact⟨gw (fV.Am o_ o_ o_).symm,yo (yp (p:=fV.ok fN fL s) (yc [_,_,_,_,_,_] _ b) hU) zd⟩
       . skip
         subst z
         refine iP b 8 ?_
         refine tN (?_)
         refine iE (fR b 20 ?_)
         by_cases ac:((s.t.A.used:Int):Int)>((fN:Int):Int)
         . refine fQ b 11 ?_
           refine gp (v:=(.int .i64 11)) uc rfl ?_
           have F:=d.cnt
           simp at F
           have T:=j.cnt
           simp at T
           exact⟨gw (fV.Co o_ o_ o_).symm,yo (yp (p:=fV.ok fN fL s) (yc [_,_,_,_,_,_] _ b) hU) zd⟩
         . refine fQ b 12 ?_
           refine gp (v:=Zc) uc rfl ?_
           have F:=d.cnt
           simp at F
           have T:=j.cnt
           simp at T
           exact⟨gw (fV.Am o_ o_ o_).symm,yo (yp (p:=fV.ok fN fL s) (yc [_,_,_,_,_,_] _ b) hU) zd⟩
end
end Go.Proofs.YthpnckhjmbbalaaGreatDoor
