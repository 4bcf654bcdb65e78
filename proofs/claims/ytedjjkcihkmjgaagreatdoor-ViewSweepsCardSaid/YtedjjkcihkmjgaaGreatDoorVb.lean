/- Walks through the code, one theorem a function, under what is said of its arguments. -/
import Derived.Test.YtedjjkcihkmjgaaGreatDoorFb
import Derived.Test.YtedjjkcihkmjgaaGreatDoorVa
import Derived.Test.YtedjjkcihkmjgaaGreatDoorFd
import Derived.Test.YtedjjkcihkmjgaaGreatDoorFa
import Derived.Test.YtedjjkcihkmjgaaGreatDoorFc
set_option linter.unusedVariables false
set_option linter.unusedSimpArgs false
set_option maxRecDepth 100000
set_option maxHeartbeats 4000000
namespace Go.Proofs.YtedjjkcihkmjgaaGreatDoor
open Go Go.Sx Tryz
variable(ab tb fN:Nat)(v:Value)(xs:List Int)(s:fW)(x:Int)(w:World)
theorem T7(bv:Value)(A:As)(w:World)(P:Own (Zu ab bv A) w)(I:A.ok)(i:Nat)(r:List Nat)(Q:A.fl=i :: r) :
 CR ya 209 (Zh ab) w (fun r w' => r = .tuple (uW i)/\∃ A2 N,As.ok A2/\(A2.n=A.n/\A2.begun=A.begun/\A2.used=A.used+1)/\(∀ j,A2.ij j↔A.ij j\/j=i)/\fV (Zu ab bv A) w w' (Zu ab N A2)):=by
 have U:=I.n
 have T:=I.le
 have V:=I.used
 obtain⟨S,R,W,J,K⟩:=I.pop Q
 have F:=(I.room J).1
 obtain⟨b,hb⟩:=I.at J
 refine en func209 ntmps209 ?_
 have M:=(yt P).unpack
 have g:=yc [_,_,_] _ M
 refine fR M 10 ?_
 refine cl (v8 ab bv (A.n:Int) (A.begun:Int) (A.used:Int) A.last A.ps A.sl w (ye g 0 rfl)) ?_
 rintro _ s ⟨rfl,ht⟩
 have h:=(yi g ht)
 have k:=yc [_,_,_] _ h
 refine fK h 9 ?_
 refine cl (Uw ab bv A s (ye k 0 rfl) I i K) ?_
 rintro _ t ⟨rfl,ht⟩
 have c:=(yi k ht)
 refine fK c 25 ?_
 refine cmp rfl rfl rfl (r7 K.symm) ?_
 have l:=yc [_,_,_] _ c
 refine fK c 7 ?_
 refine cl (AF ab bv (A.n:Int) (A.begun:Int) (A.used:Int) A.last A.ps A.sl t (ye l 0 rfl) i o_ b hb) ?_
 rintro _ B ⟨rfl,ht⟩
 have d:=(yi l ht)
 refine fK d 1 ?_
 refine fa (o' := i%64*3+1) rfl rfl pO rfl gq (by simp only[lJ];rfl) (ld rfl rfl yg rfl (Bz d (i:=2) rfl f_ d_ (by first|exact F|(simp only[gB];exact F)) hb rfl) (gC d 9 fun u y=>?_))
 have m:=yc [_,_,_] _ y
 refine cl (AF ab bv (A.n:Int) (A.begun:Int) (A.used:Int) ((fJ A.sl i).after) A.ps A.sl u (ye m 0 rfl) i o_ b hb) ?_
 rintro _ C ⟨rfl,ht⟩
 have o:=(yi m ht)
 refine fK o 7 ?_
 refine fa (o' := i%64*3+0) rfl rfl pO rfl gq (by simp only[lJ];rfl) (rC (f:=(fun x=>{ x with st:=1 })) (L' := [blk ab 278 (HN ab bv A ((fJ A.sl i).after)),fL iI bv 392 1 A.ps,gN gV.cells 395 64 A.ps (fO A.sl i (fun x=>{ x with st:=1 }))]) 2 rfl rfl rfl rfl gq rfl rfl o rfl f_ d_ (by first|exact F|(simp only[gB];exact F)) hb rfl rfl rfl (fun D p=>fK p 6 ?_))
 refine fa (o' := i%64*3+1) rfl rfl pO rfl gq (by simp only[lJ];rfl) (rC (f:=(fun x=>{ x with after := -1 })) (L' := [blk ab 278 (HN ab bv A ((fJ A.sl i).after)),fL iI bv 392 1 A.ps,gN gV.cells 395 64 A.ps (fO (fO A.sl i (fun x=>{ x with st:=1 })) i (fun x=>{ x with after := -1 }))]) 2 rfl rfl rfl rfl gq rfl rfl p rfl f_ d_ (by first|exact F|(simp only[gB];exact F)) hb rfl rfl rfl (fun E a=>fK a 6 ?_))
 refine fa (o' := i%64*3+2) rfl rfl pO rfl iX (by simp only[lJ];rfl) (ld rfl rfl yo rfl (Bz a (i:=2) rfl f_ d_ (by first|exact F|(simp only[gB];exact F)) hb rfl) (ar (e:=(IntKind.u64.wrap (((fJ (fO (fO A.sl i (fun x=>{ x with st:=1 })) i (fun x=>{ x with after := -1 })) i).times)+1))) rfl rfl rfl rfl rfl (fK a 1 ?_)))
 refine fa (o' := i%64*3+2) rfl rfl pO rfl iX (by simp only[lJ];rfl) (rC (f:=(fun x=>{ x with times:=(IntKind.u64.wrap (((fJ (fO (fO A.sl i (fun x=>{ x with st:=1 })) i (fun x=>{ x with after := -1 })) i).times)+1)) })) (L' := [blk ab 278 (HN ab bv A ((fJ A.sl i).after)),fL iI bv 392 1 A.ps,gN gV.cells 395 64 A.ps (fO (fO (fO A.sl i (fun x=>{ x with st:=1 })) i (fun x=>{ x with after := -1 })) i (fun x=>{ x with times:=(IntKind.u64.wrap (((fJ (fO (fO A.sl i (fun x=>{ x with st:=1 })) i (fun x=>{ x with after := -1 })) i).times)+1)) }))]) 2 rfl rfl rfl rfl iX rfl rfl a rfl f_ d_ (by first|exact F|(simp only[gB];exact F)) hb rfl rfl rfl (fun G q=>fK q 8 ?_))
 refine ar (e:=((A.used+1:Nat):Int)) rfl rfl rfl rfl je (jH q 13 fun H z=>?_)
 refine gZ (v:=(Za i)) (v' := Zc) results209 rfl rfl ?_
 have O:fO (fO (fO A.sl i (fun x=>{ x with st:=1 })) i (fun x=>{ x with after := -1 })) i (fun x=>{ x with times:=(IntKind.u64.wrap (((fJ (fO (fO A.sl i (fun x=>{ x with st:=1 })) i (fun x=>{ x with after := -1 })) i).times)+1)) })=fO A.sl i tk:=LH F (by rw[jS (by rw[gB];exact F),jS F])
 have L:=z
 rw[O]at L
 exact⟨rfl,⟨A.n,A.begun,A.used+1,(fJ A.sl i).after,fO A.sl i tk,r,A.ps⟩,bv,S,⟨rfl,rfl,rfl⟩,R,yj (yc [_,_,_] _ L)⟩
theorem T8(bv:Value)(A:As)(w:World)(hO:Own (Zu ab bv A) w)(hA:A.ok)(hf:A.fl=[])(az:A.begun<A.n) :
 CR ya 209 (Zh ab) w (fun r w' => r = .tuple (uW A.begun)/\∃ A2 aC,As.ok A2/\(A2.n=A.n/\A2.begun=A.begun+1/\A2.used=A.used+1)/\(∀ j,A2.ij j↔A.ij j\/j=A.begun)/\fV (Zu ab bv A) w w' (Zu ab aC A2)):=by
 have aG:=hA.n
 have aF:=hA.le
 have aH:=hA.used
 have hl:A.last = -1:=by have h7:=hA.chain;rw[hf]at h7;exact h7
 refine enter (vs:=(Zf ab)) func209 rfl ntmps209 rfl ?_
 have aB:St _ (AE ab bv A) w:=(yt hO).unpack
 have y:=yc [_,_,_] _ aB
 refine fR aB 10 ?_
 refine jw (vl:=(Zf ab)) rfl rfl eN (v8 ab bv (A.n:Int) (A.begun:Int) (A.used:Int) A.last A.ps A.sl w (kU y (i:=0) rfl)) ?_
 rintro _ z ⟨rfl,ht⟩
 have B:St _ (AE ab bv A) z:=(l7 (R' := (Zu ab bv A)) 0 y rfl ht rfl).unpack
 have C:=yc [_,_,_] _ B
 refine fK B 9 ?_
 refine jw (vl:=(Zf ab)) rfl rfl eN (Ux ab bv A z (kU C (i:=0) rfl) hA hl az) ?_
 rintro _ N ⟨rfl,ht⟩
 have h:St _ (AE ab bv A) N:=(l7 (R' := (Zu ab bv A)) 0 C rfl ht rfl).unpack
 refine fK h 25 ?_
 refine cmp (a:=(A.begun:Int)) (b:=A.last) rfl rfl rfl (tv o_) (fK h 7 ?_)
 refine rem (a:=(A.begun:Int)) (b:=64) (e:=((A.begun%64:Nat):Int)) rfl rfl rfl d_ (Df 64) ?_
 by_cases af:((A.begun%64:Nat):Int)=0
 . refine fK h 10 ?_
   refine iR h (fun d ag ah ai O=>?_)
   refine jW (vs:=(Zf d)) (cs:=(Zf d)) rfl rfl BA Dx rfl (by simp[Value.cells]) rfl rfl rfl O ?_
   intro s P aj ak l
   have l:St _ [row (Z4 s) 392 1 1 ((Zf d)),blk d 395 Np,blk ab 278 (mV ab bv A),fL iI bv 392 1 A.ps,gN gV.cells 395 64 A.ps A.sl] P:=l
   refine lR (cf:=iI) (ys:=A.ps) (zs:=[(some d)]) (LL:=fun g=>(ME (row (.slice (some ⟨s,0,none⟩) 1 1) 392 1 1 ([(.pointer (some ⟨d,0,none⟩))])) d ab bv A g (A.ps++[(some d)]))) 3 rfl rfl rfl BA Dx rfl d_ l rfl (lF l (i:=0) rfl) (fun x hx=>z6.1 (show List.all _ _=true from rfl) x hx) (by have h7:=hA.pM;simp only[zh,zk];omega) (by have h7:=hA.pM;simp only[zh,zk];omega) f_ ?_
   intro g Q t al
   have t:St _ (ME (row (.slice (some ⟨s,0,none⟩) 1 1) 392 1 1 ([(.pointer (some ⟨d,0,none⟩))])) d ab bv A g (A.ps++[(some d)])) Q:=t
   have m:=yf [1,2,3,4] t
   refine fK m 2 ?_
   refine jt 1 m (fun R D=>?_) (hvs:=(cells_one (yv m (i:=2) rfl))) (h1:=(gX (yv m (i:=2) rfl) jV))
   have S:=yf [0,3,1,2] D
   have U:St _ [gN gV.cells 395 64 (A.ps++[(some d)]) (A.sl++List.replicate 64 (⟨0,0,0⟩:gV)),blk ab 278 (mV ab g A),fL iI g 392 1 (A.ps++[(some d)])] R:=St.N2 S hA.sl s_ rfl
   obtain⟨aA,ay,aE,aD,F,c,T⟩:=hA.fresh hf az (ps2:=A.ps++[(some d)]) (sl2:=A.sl++List.replicate 64 (⟨0,0,0⟩:gV)) (b:=d) (.inl ⟨o_,rfl,rfl⟩)
   refine fK D 7 ?_
   refine ar (a:=(A.begun:Int)) (b:=1) (c:=(A.begun:Int)+1) (e:=((A.begun+1:Nat):Int)) rfl rfl rfl rfl (by rw[kP o_];omega) (gC U 9 fun V W=>?_)
   have X:=yf [1,2,0] W
   have E:=yc [_,_,_] _ X
   refine jw (vl:=(tS ab A.begun)) rfl rfl eN (AF ab g (A.n:Int) ((A.begun+1:Nat):Int) (A.used:Int) A.last (A.ps++[(some d)]) (A.sl++List.replicate 64 (⟨0,0,0⟩:gV)) V (kU E (i:=0) rfl) A.begun o_ c T) ?_
   rintro _ Y ⟨rfl,ht⟩
   have G:St _ (ML ab g A ((A.begun+1:Nat):Int) (A.ps++[(some d)]) (A.sl++List.replicate 64 (⟨0,0,0⟩:gV))) Y:=(l7 (R' := (gh (ML ab g A ((A.begun+1:Nat):Int) (A.ps++[(some d)]) (A.sl++List.replicate 64 (⟨0,0,0⟩:gV))))) 0 E rfl ht rfl).unpack
   refine fK G 7 ?_
   refine fa (o:=A.begun%64*3+0) (o' := A.begun%64*3+0) rfl rfl pO rfl gq (by simp only[lJ];rfl) (rC (cf:=gV.cells) (xs:=A.sl++List.replicate 64 (⟨0,0,0⟩:gV)) (k:=A.begun) (off:=0) (f:=(fun x=>{ x with st:=1 })) (u:=pZ) (vs:=xL) (L' := [blk ab 278 (vX ab g A ((A.begun+1:Nat):Int)),fL iI g 392 1 (A.ps++[(some d)]),gN gV.cells 395 64 (A.ps++[(some d)]) (fO (A.sl++List.replicate 64 (⟨0,0,0⟩:gV)) A.begun (fun x=>{ x with st:=1 }))]) 2 rfl rfl rfl rfl gq rfl rfl G rfl f_ d_ (by first|exact F|(simp only[gB];exact F)) T rfl rfl rfl (fun am H=>fK H 6 ?_))
   refine fa (o:=A.begun%64*3+0) (o' := A.begun%64*3+1) rfl rfl pO rfl gq (by simp only[lJ];rfl) (rC (cf:=gV.cells) (xs:=fO (A.sl++List.replicate 64 (⟨0,0,0⟩:gV)) A.begun (fun x=>{ x with st:=1 })) (k:=A.begun) (off:=1) (f:=(fun x=>{ x with after := -1 })) (u:=Zx) (vs:=[Zx]) (L' := [blk ab 278 (vX ab g A ((A.begun+1:Nat):Int)),fL iI g 392 1 (A.ps++[(some d)]),gN gV.cells 395 64 (A.ps++[(some d)]) (fO (fO (A.sl++List.replicate 64 (⟨0,0,0⟩:gV)) A.begun (fun x=>{ x with st:=1 })) A.begun (fun x=>{ x with after := -1 }))]) 2 rfl rfl rfl rfl gq rfl rfl H rfl f_ d_ (by first|exact F|(simp only[gB];exact F)) T rfl rfl rfl (fun an p=>fK p 6 ?_))
   refine fa (o:=A.begun%64*3+0) (o' := A.begun%64*3+2) rfl rfl pO rfl iX (by simp only[lJ];rfl) (ld (a:=⟨c,A.begun%64*3+2,none⟩) (v:=(.int .u64 ((fJ (fO (fO (A.sl++List.replicate 64 (⟨0,0,0⟩:gV)) A.begun (fun x=>{ x with st:=1 })) A.begun (fun x=>{ x with after := -1 })) A.begun).times))) rfl rfl yo rfl (Bz p (i:=2) rfl f_ d_ (by first|exact F|(simp only[gB];exact F)) T rfl) (ar (a:=(fJ (fO (fO (A.sl++List.replicate 64 (⟨0,0,0⟩:gV)) A.begun (fun x=>{ x with st:=1 })) A.begun (fun x=>{ x with after := -1 })) A.begun).times) (b:=1) (c:=((fJ (fO (fO (A.sl++List.replicate 64 (⟨0,0,0⟩:gV)) A.begun (fun x=>{ x with st:=1 })) A.begun (fun x=>{ x with after := -1 })) A.begun).times)+1) (e:=(IntKind.u64.wrap (((fJ (fO (fO (A.sl++List.replicate 64 (⟨0,0,0⟩:gV)) A.begun (fun x=>{ x with st:=1 })) A.begun (fun x=>{ x with after := -1 })) A.begun).times)+1))) rfl rfl rfl rfl rfl (fK p 1 ?_)))
   refine fa (o:=A.begun%64*3+0) (o' := A.begun%64*3+2) rfl rfl pO rfl iX (by simp only[lJ];rfl) (rC (cf:=gV.cells) (xs:=fO (fO (A.sl++List.replicate 64 (⟨0,0,0⟩:gV)) A.begun (fun x=>{ x with st:=1 })) A.begun (fun x=>{ x with after := -1 })) (k:=A.begun) (off:=2) (f:=(fun x=>{ x with times:=(IntKind.u64.wrap (((fJ (fO (fO (A.sl++List.replicate 64 (⟨0,0,0⟩:gV)) A.begun (fun x=>{ x with st:=1 })) A.begun (fun x=>{ x with after := -1 })) A.begun).times)+1)) })) (u:=(.int .u64 (IntKind.u64.wrap (((fJ (fO (fO (A.sl++List.replicate 64 (⟨0,0,0⟩:gV)) A.begun (fun x=>{ x with st:=1 })) A.begun (fun x=>{ x with after := -1 })) A.begun).times)+1)))) (vs:=[(.int .u64 (IntKind.u64.wrap (((fJ (fO (fO (A.sl++List.replicate 64 (⟨0,0,0⟩:gV)) A.begun (fun x=>{ x with st:=1 })) A.begun (fun x=>{ x with after := -1 })) A.begun).times)+1)))]) (L' := [blk ab 278 (vX ab g A ((A.begun+1:Nat):Int)),fL iI g 392 1 (A.ps++[(some d)]),gN gV.cells 395 64 (A.ps++[(some d)]) (fO (fO (fO (A.sl++List.replicate 64 (⟨0,0,0⟩:gV)) A.begun (fun x=>{ x with st:=1 })) A.begun (fun x=>{ x with after := -1 })) A.begun (fun x=>{ x with times:=(IntKind.u64.wrap (((fJ (fO (fO (A.sl++List.replicate 64 (⟨0,0,0⟩:gV)) A.begun (fun x=>{ x with st:=1 })) A.begun (fun x=>{ x with after := -1 })) A.begun).times)+1)) }))]) 2 rfl rfl rfl rfl iX rfl rfl p rfl f_ d_ (by first|exact F|(simp only[gB];exact F)) T rfl rfl rfl (fun ao I=>fK I 8 ?_))
   refine ar (a:=(A.used:Int)) (b:=1) (c:=(A.used:Int)+1) (e:=((A.used+1:Nat):Int)) rfl rfl rfl rfl (by rw[kP o_];omega) (jH I 13 fun ap Z=>?_)
   refine gZ (v:=(Za A.begun)) (v' := Zc) results209 rfl rfl ?_
   have e9:fO (fO (fO (A.sl++List.replicate 64 (⟨0,0,0⟩:gV)) A.begun (fun x=>{ x with st:=1 })) A.begun (fun x=>{ x with after := -1 })) A.begun (fun x=>{ x with times:=(IntKind.u64.wrap (((fJ (fO (fO (A.sl++List.replicate 64 (⟨0,0,0⟩:gV)) A.begun (fun x=>{ x with st:=1 })) A.begun (fun x=>{ x with after := -1 })) A.begun).times)+1)) })=fO (A.sl++List.replicate 64 (⟨0,0,0⟩:gV)) A.begun tk:=LH F (by rw[jS (by rw[gB];exact F),jS F])
   have ax:=Z
   rw[e9]at ax
   exact⟨rfl,⟨A.n,A.begun+1,A.used+1,A.last,fO (A.sl++List.replicate 64 (⟨0,0,0⟩:gV)) A.begun tk,[],A.ps++[(some d)]⟩,g,aA,⟨rfl,rfl,rfl⟩,ay,ym (R' := (Nn ab g ((⟨A.n,A.begun+1,A.used+1,A.last,fO (A.sl++List.replicate 64 (⟨0,0,0⟩:gV)) A.begun tk,[],A.ps++[(some d)]⟩:As).n:Int) ((⟨A.n,A.begun+1,A.used+1,A.last,fO (A.sl++List.replicate 64 (⟨0,0,0⟩:gV)) A.begun tk,[],A.ps++[(some d)]⟩:As).begun:Int) ((⟨A.n,A.begun+1,A.used+1,A.last,fO (A.sl++List.replicate 64 (⟨0,0,0⟩:gV)) A.begun tk,[],A.ps++[(some d)]⟩:As).used:Int) (⟨A.n,A.begun+1,A.used+1,A.last,fO (A.sl++List.replicate 64 (⟨0,0,0⟩:gV)) A.begun tk,[],A.ps++[(some d)]⟩:As))) (yc [_,_,_] _ ax) zd⟩
 . obtain⟨aA,ay,aE,aD,F,c,T⟩:=hA.fresh hf az (ps2:=A.ps) (sl2:=A.sl) (b:=0) (.inr ⟨o_,rfl,rfl⟩)
   refine fK h 11 ?_
   refine ar (a:=(A.begun:Int)) (b:=1) (c:=(A.begun:Int)+1) (e:=((A.begun+1:Nat):Int)) rfl rfl rfl rfl (by rw[kP o_];omega) (gC h 9 fun aa ac=>?_)
   have J:=yc [_,_,_] _ ac
   refine jw (vl:=(tS ab A.begun)) rfl rfl eN (AF ab bv (A.n:Int) ((A.begun+1:Nat):Int) (A.used:Int) A.last A.ps A.sl aa (kU J (i:=0) rfl) A.begun o_ c T) ?_
   rintro _ ad ⟨rfl,ht⟩
   have K:St _ (MK ab bv A ((A.begun+1:Nat):Int)) ad:=(l7 (R' := (gh (MK ab bv A ((A.begun+1:Nat):Int)))) 0 J rfl ht rfl).unpack
   refine fK K 7 ?_
   refine fa (o:=A.begun%64*3+0) (o' := A.begun%64*3+0) rfl rfl pO rfl gq (by simp only[lJ];rfl) (rC (cf:=gV.cells) (xs:=A.sl) (k:=A.begun) (off:=0) (f:=(fun x=>{ x with st:=1 })) (u:=pZ) (vs:=xL) (L' := [blk ab 278 (vX ab bv A ((A.begun+1:Nat):Int)),fL iI bv 392 1 A.ps,gN gV.cells 395 64 A.ps (fO A.sl A.begun (fun x=>{ x with st:=1 }))]) 2 rfl rfl rfl rfl gq rfl rfl K rfl f_ d_ (by first|exact F|(simp only[gB];exact F)) T rfl rfl rfl (fun aq L=>fK L 6 ?_))
   refine fa (o:=A.begun%64*3+0) (o' := A.begun%64*3+1) rfl rfl pO rfl gq (by simp only[lJ];rfl) (rC (cf:=gV.cells) (xs:=fO A.sl A.begun (fun x=>{ x with st:=1 })) (k:=A.begun) (off:=1) (f:=(fun x=>{ x with after := -1 })) (u:=Zx) (vs:=[Zx]) (L' := [blk ab 278 (vX ab bv A ((A.begun+1:Nat):Int)),fL iI bv 392 1 A.ps,gN gV.cells 395 64 A.ps (fO (fO A.sl A.begun (fun x=>{ x with st:=1 })) A.begun (fun x=>{ x with after := -1 }))]) 2 rfl rfl rfl rfl gq rfl rfl L rfl f_ d_ (by first|exact F|(simp only[gB];exact F)) T rfl rfl rfl (fun au q=>fK q 6 ?_))
   refine fa (o:=A.begun%64*3+0) (o' := A.begun%64*3+2) rfl rfl pO rfl iX (by simp only[lJ];rfl) (ld (a:=⟨c,A.begun%64*3+2,none⟩) (v:=(.int .u64 ((fJ (fO (fO A.sl A.begun (fun x=>{ x with st:=1 })) A.begun (fun x=>{ x with after := -1 })) A.begun).times))) rfl rfl yo rfl (Bz q (i:=2) rfl f_ d_ (by first|exact F|(simp only[gB];exact F)) T rfl) (ar (a:=(fJ (fO (fO A.sl A.begun (fun x=>{ x with st:=1 })) A.begun (fun x=>{ x with after := -1 })) A.begun).times) (b:=1) (c:=((fJ (fO (fO A.sl A.begun (fun x=>{ x with st:=1 })) A.begun (fun x=>{ x with after := -1 })) A.begun).times)+1) (e:=(IntKind.u64.wrap (((fJ (fO (fO A.sl A.begun (fun x=>{ x with st:=1 })) A.begun (fun x=>{ x with after := -1 })) A.begun).times)+1))) rfl rfl rfl rfl rfl (fK q 1 ?_)))
   refine fa (o:=A.begun%64*3+0) (o' := A.begun%64*3+2) rfl rfl pO rfl iX (by simp only[lJ];rfl) (rC (cf:=gV.cells) (xs:=fO (fO A.sl A.begun (fun x=>{ x with st:=1 })) A.begun (fun x=>{ x with after := -1 })) (k:=A.begun) (off:=2) (f:=(fun x=>{ x with times:=(IntKind.u64.wrap (((fJ (fO (fO A.sl A.begun (fun x=>{ x with st:=1 })) A.begun (fun x=>{ x with after := -1 })) A.begun).times)+1)) })) (u:=(.int .u64 (IntKind.u64.wrap (((fJ (fO (fO A.sl A.begun (fun x=>{ x with st:=1 })) A.begun (fun x=>{ x with after := -1 })) A.begun).times)+1)))) (vs:=[(.int .u64 (IntKind.u64.wrap (((fJ (fO (fO A.sl A.begun (fun x=>{ x with st:=1 })) A.begun (fun x=>{ x with after := -1 })) A.begun).times)+1)))]) (L' := [blk ab 278 (vX ab bv A ((A.begun+1:Nat):Int)),fL iI bv 392 1 A.ps,gN gV.cells 395 64 A.ps (fO (fO (fO A.sl A.begun (fun x=>{ x with st:=1 })) A.begun (fun x=>{ x with after := -1 })) A.begun (fun x=>{ x with times:=(IntKind.u64.wrap (((fJ (fO (fO A.sl A.begun (fun x=>{ x with st:=1 })) A.begun (fun x=>{ x with after := -1 })) A.begun).times)+1)) }))]) 2 rfl rfl rfl rfl iX rfl rfl q rfl f_ d_ (by first|exact F|(simp only[gB];exact F)) T rfl rfl rfl (fun av M=>fK M 8 ?_))
   refine ar (a:=(A.used:Int)) (b:=1) (c:=(A.used:Int)+1) (e:=((A.used+1:Nat):Int)) rfl rfl rfl rfl (by rw[kP o_];omega) (jH M 13 fun aw ae=>?_)
   refine gZ (v:=(Za A.begun)) (v' := Zc) results209 rfl rfl ?_
   have e9:fO (fO (fO A.sl A.begun (fun x=>{ x with st:=1 })) A.begun (fun x=>{ x with after := -1 })) A.begun (fun x=>{ x with times:=(IntKind.u64.wrap (((fJ (fO (fO A.sl A.begun (fun x=>{ x with st:=1 })) A.begun (fun x=>{ x with after := -1 })) A.begun).times)+1)) })=fO A.sl A.begun tk:=LH F (by rw[jS (by rw[gB];exact F),jS F])
   have ax:=ae
   rw[e9]at ax
   exact⟨rfl,⟨A.n,A.begun+1,A.used+1,A.last,fO A.sl A.begun tk,[],A.ps⟩,bv,aA,⟨rfl,rfl,rfl⟩,ay,ym (R' := (Nn ab bv ((⟨A.n,A.begun+1,A.used+1,A.last,fO A.sl A.begun tk,[],A.ps⟩:As).n:Int) ((⟨A.n,A.begun+1,A.used+1,A.last,fO A.sl A.begun tk,[],A.ps⟩:As).begun:Int) ((⟨A.n,A.begun+1,A.used+1,A.last,fO A.sl A.begun tk,[],A.ps⟩:As).used:Int) (⟨A.n,A.begun+1,A.used+1,A.last,fO A.sl A.begun tk,[],A.ps⟩:As))) (yc [_,_,_] _ ax) zd⟩
theorem Um(bv:Value)(A:As)(w:World)(G:Own (Zu ab bv A) w)(C:A.ok)(i:Nat)(hi:A.ij i) :
 CR ya 128 (Zm ab i) w (fun r w' => r = .int .i64 0/\∃ A2,As.ok A2/\(A2.n=A.n/\A2.begun=A.begun/\A2.used=A.used-1)/\(∀ j,A2.ij j↔A.ij j/\j≠i)/\fV (Zu ab bv A) w w' (Zu ab bv A2)):=by
 have J:=C.n
 have I:=C.le
 have K:=C.used
 have D:=hi.1
 have H:=hi.2
 have E:=(C.room D).1
 obtain⟨b,hb⟩:=C.at D
 have L:=(C.free hi rfl).2.2
 refine en func128 ntmps128 ?_
 have F:=(yt G).unpack
 have c:=yc [_,_,_] _ F
 refine fR F 9 ?_
 refine cl (v8 ab bv (A.n:Int) (A.begun:Int) (A.used:Int) A.last A.ps A.sl w (ye c 0 rfl)) ?_
 rintro _ m ⟨rfl,ht⟩
 have a:=(yi c ht)
 refine fK a 10 ?_
 refine cmp rfl rfl rfl (kG o_) (fK a 6 ?_)
 refine cmp rfl rfl rfl (oS o_) ?_
 have d:=yc [_,_,_] _ a
 refine fK a 11 ?_
 refine cl (NG ab bv A m (ye d 0 rfl) C i o_) ?_
 rintro _ o ⟨rfl,ht⟩
 have g:=(yi d ht)
 refine cmp rfl rfl rfl (qa (by rw[if_pos D,C.st i D,if_neg H])) ?_
 have h:=yc [_,_,_] _ g
 refine fK g 9 ?_
 refine cl (AF ab bv (A.n:Int) (A.begun:Int) (A.used:Int) A.last A.ps A.sl o (ye h 0 rfl) i o_ b hb) ?_
 rintro _ t ⟨rfl,ht⟩
 have k:=(yi h ht)
 refine fK k 7 ?_
 refine fa (o' := i%64*3+0) rfl rfl pO rfl gq (by simp only[lJ];rfl) (rC (f:=(fun x=>{ x with st:=2 })) (L' := [blk ab 278 (mV ab bv A),fL iI bv 392 1 A.ps,gN gV.cells 395 64 A.ps (fO A.sl i (fun x=>{ x with st:=2 }))]) 2 rfl rfl rfl rfl gq rfl rfl k rfl f_ d_ (by first|exact E|(simp only[gB];exact E)) hb rfl rfl rfl (fun u l=>fK l 10 ?_))
 refine fa (o' := i%64*3+1) rfl rfl pO rfl gq (by simp only[lJ];rfl) (rC (f:=(fun x=>{ x with after:=A.last })) (L' := [blk ab 278 (mV ab bv A),fL iI bv 392 1 A.ps,gN gV.cells 395 64 A.ps (fO (fO A.sl i (fun x=>{ x with st:=2 })) i (fun x=>{ x with after:=A.last }))]) 2 rfl rfl rfl rfl gq rfl rfl l rfl f_ d_ (by first|exact E|(simp only[gB];exact E)) hb rfl rfl rfl (fun y p=>gC p 17 fun z q=>?_))
 refine ar (e:=((A.used-1:Nat):Int)) rfl rfl rfl rfl je (jH q 11 fun B s=>?_)
 refine gf (v:=Zc) results128 rfl ?_
 exact⟨rfl,⟨A.n,A.begun,A.used-1,(i:Int),fO (fO A.sl i (fun x=>{ x with st:=2 })) i (fun x=>{ x with after:=A.last }),i :: A.fl,A.ps⟩,(C.free hi rfl).1,⟨rfl,rfl,rfl⟩,(C.free hi rfl).2.1,yj (yc [_,_,_] _ s)⟩
theorem Up(bv:Value)(A:As)(w:World)(P:Own (Zu ab bv A) w)(L:A.ok) :
 CR ya 84 (Zh ab) w (fun r w' => ∃ lv,r=lv/\fV (Zu ab bv A) w w' (gh (MJ ab bv A lv (gy (A.list A.begun))))):=by
 have R:=L.n
 have Q:=L.le
 have S:=L.used
 refine en func84 ntmps84 ?_
 have N:=(yt P).unpack
 have e:=yc [_,_,_] _ N
 refine fR N 9 ?_
 refine cl (v8 ab bv (A.n:Int) (A.begun:Int) (A.used:Int) A.last A.ps A.sl w (ye e 0 rfl)) ?_
 rintro _ x ⟨rfl,ht⟩
 have f:=(yi e ht)
 refine fK f 12 ?_
 refine j4 (m:=0) (c:=A.used) rfl (gm o_) rfl yd gq rfl o_ o_ o_ f ?_
 intro o y z B p
 have g:=St.Td (i:=0) (m:=0) (c:=A.used) (sz:=1) p rfl s_ o_ (by simp only[maxLen];omega)
 have q:=yf [1,2,3,0] g
 refine gF g 14 ?_
 refine lp (α:=Nat×Value) (fun(k,lv)=>[(0,(Zb ab)),(3,lv),(16,(Za A.begun)),(17,(Za k))]) (fun(k,lv) w1=>St [(w,(Zu ab bv A).gJ)] (MJ ab bv A lv (gy (A.list k))) w1/\k<=A.begun) (fun(k,lv)=>A.begun-k) (0,(Es o A.used)) ⟨rfl,rfl,rfl,gm rO,trivial⟩ (⟨q,o_⟩) ?_
 rintro⟨k,lv⟩ C s ⟨F,T⟩
 refine fR F 2 ?_
 by_cases D:(k:Int)<(A.begun:Int)
 . have M:k<A.begun:=by omega
   have h:=yc [_,_,_] _ F
   refine fK F 19 ?_
   refine cl (NG ab bv A s (ye h 0 rfl) L k o_) ?_
   rintro _ E ⟨rfl,ht⟩
   have a:=(yi h ht)
   by_cases b:((if k<A.begun then(fJ A.sl k).st else 0):Int)=1
   . refine fK a 1 ?_
     rw[if_pos M]at b
     refine fK a 6 ?_
     refine jW (vs:=(Ze k)) (cs:=(Ze k)) rfl rfl yd gq rfl (by simp[Value.cells]) rfl rfl rfl a (fun t G H I j=>vZ (k:=.i64) (ys:=gy (A.list k)) (zs:=[(k:Int)]) (LL:=fun d=>[iz .i64 (Z4 t) 3 ([(k:Int)]),blk ab 278 (mV ab bv A),fL iI bv 392 1 A.ps,gN gV.cells 395 64 A.ps A.sl,iz .i64 d 3 ((gy (A.list k))++([(k:Int)]))]) 4 rfl rfl rfl yd gq rfl j rfl (lF j (i:=0) rfl) (by have O:=A.PO k;simp only[gy,zu,zh,zk];omega) (by have O:=A.PO k;simp only[gy,zu,zh,zk];omega) f_ ?_)
     intro d J u K
     have l:=yf [1,2,3,4] u
     refine fP l 8 ?_
     refine tN (?_)
     exact again ((k+1),d) ⟨rfl,rfl,rfl,gm rO,trivial⟩ (⟨by rw[As.PS,if_pos b];rw[gy,nt];exact l,o_⟩) (by show (A.begun-(k+1):Nat)<A.begun-k;omega)
   . refine fK a 1 ?_
     rw[if_pos M]at b
     refine fP a 10 ?_
     refine tN (?_)
     exact again ((k+1),lv) ⟨rfl,rfl,rfl,gm rO,trivial⟩ (⟨by rw[As.PS,if_neg b];exact a,o_⟩) (by show (A.begun-(k+1):Nat)<A.begun-k;omega)
 . refine fP F 17 ?_
   refine gf (v:=lv) results84 rfl ?_
   obtain rfl:k=A.begun:=by omega
   exact⟨lv,rfl,yj (yc [_,_,_,_] _ F)⟩
theorem Uv(n:Nat)(w:World)(l:n<=65536) :
 CR ya 218 (Z2 n) w (fun r w' => ∃ ab,r = .tuple (Zz ab)/\fV (gh []) w w' (gh [blk ab 278 [(Zb ab),Zi,(Za ((As.new n).n:Int)),(Za ((As.new n).begun:Int)),(Za ((As.new n).used:Int)),(Za ((As.new n).last))],fL iI Zi 392 1 ((As.new n).ps),gN gV.cells 395 64 ((As.new n).ps) ((As.new n).sl)])):=by
 refine en func218 ntmps218 ?_
 have h:=yu w
 refine fR h 10 ?_
 refine cmp rfl rfl rfl (kG o_) (fK h 2 ?_)
 refine cmp rfl rfl rfl (nN o_) (fK h 9 ?_)
 refine iU (pvs:=[(2,(Za n)),(5,Zx)]) (v:=.agg #[Zp,Zi,(Za n),Zc,Zc,Zx]) rfl rfl (jj [(2,(Ze n)),(5,[Zx])] GL QT rfl ⟨rfl,rfl,rfl,rfl,trivial⟩ rfl) (ir h (fun a e f g b=>?_))
 refine jH b 20 fun c d=>?_
 refine gZ (v:=(Zb a)) (v' := Zc) results218 rfl rfl ?_
 have i:=qJ d 392 1
 have j:St _ (Mr a n) c:=St.E4 i 0
 have k:=mP j (HF (Mr a n)).symm
 exact⟨a,rfl,mD (yc [_,_,_] [] k)⟩
theorem Ub(bv:Value)(A:As)(w:World)(hO:Own (Zu ab bv A) w)(T:A.ok) :
 CR ya 204 (Zh ab) w (fun r w' => ∃ ag al F,r = .pointer (some ⟨ag,0,none⟩)/\As.ok { A with ps:=F }/\fV (Zu ab bv A) w w' (No ab bv A ag al F)):=by
 have ap:=T.n
 have ao:=T.le
 have aq:=T.used
 have au:=T.pM
 refine enter (vs:=(Zf ab)) func204 rfl ntmps204 rfl ?_
 have ak:=(yt hO).unpack
 have h:=yc [_,_,_] _ ak
 refine fR ak 9 ?_
 refine jw (vl:=(Zf ab)) rfl rfl eN (v8 ab bv (A.n:Int) (A.begun:Int) (A.used:Int) A.last A.ps A.sl w (ye h 0 rfl)) ?_
 rintro _ K ⟨rfl,ht⟩
 have s:=(l7 (R' := (Zu ab bv A)) 0 h rfl ht rfl).unpack
 refine gC s 24 fun L t=>?_
 refine iU (pvs:=[(2,(Za A.n)),(3,(Za A.begun)),(4,(Za A.used)),(5,(Za A.last))]) (v:=.agg #[Zp,Zi,(Za A.n),(Za A.begun),(Za A.used),(Za A.last)]) rfl rfl (jj [(2,(Ze A.n)),(3,(Ze A.begun)),(4,(Ze A.used)),(5,(Ze A.last))] GL QT rfl ⟨rfl,rfl,rfl,rfl,rfl,rfl,rfl,rfl,trivial⟩ rfl) (ir t (fun c M N O u=>?_))
 refine gC u 15 fun j y=>?_
 have z:St _ [fL iI Zi 392 1 ([]),blk c 278 (Nc c A),blk ab 278 (mV ab bv A),fL iI bv 392 1 A.ps,gN gV.cells 395 64 A.ps A.sl] j:=qJ y 392 1
 have f:St _ [gN gV.cells 395 64 ([]) (A.sl.take (64*0)),fL iI Zi 392 1 ([]),blk c 278 (Nc c A),blk ab 278 (mV ab bv A),fL iI bv 392 1 A.ps,gN gV.cells 395 64 A.ps A.sl] j:=St.E4 z 0
 refine fK f 4 ?_
 refine iV (m:=A.ps.length) 4 rfl rfl BA f rfl ?_
 have B:=yf [3,4,5,2,1,0] f
 refine gF f 4 ?_
 refine lp (α:=Nat×Value×List (Option Nat)) (fun(k,v2,F)=>[(3,(Zb c)),(35,bv),(36,(Za A.ps.length)),(37,(Za k))]) (fun(k,v2,F) w1=>St [(w,(Zu ab bv A).gJ)] [blk ab 278 (mV ab bv A),fL iI bv 392 1 A.ps,gN gV.cells 395 64 A.ps A.sl,blk c 278 (mV c v2 A),fL iI v2 392 1 F,gN gV.cells 395 64 F (A.sl.take (64*k))] w1/\k<=A.ps.length/\xx F k) (fun(k,v2,F)=>A.ps.length-k) (0,Zi,[]) ⟨rfl,rfl,rfl,gm rO,trivial⟩ (⟨B,o_,xx.start⟩) ?_
 rintro⟨k,v2,F⟩ P Q ⟨ae,ar,hC⟩
 have an:=hC.len
 refine fR ae 2 ?_
 by_cases R:(k:Int)<(A.ps.length:Int)
 . have hk:k<A.ps.length:=by omega
   obtain⟨bq,ah⟩:=T.ps k hk
   refine fK ae 19 ?_
   refine wN (a:=⟨bq,0,none⟩) rfl (Bi (iS ah)) ?_
   have af:(((A.sl.drop (64*k)).take 64).flatMap gV.cells).length=192:=N6 (cf:=gV.cells) (sz:=3) f_ T.sl hk
   refine wF (b:=bq) (o:=0) (cs:=(((A.sl.drop (64*k)).take 64).flatMap gV.cells)) rfl rfl underlying395 rfl LA af (St.N0 ae (i:=2) rfl ((gz hk).trans (congrArg some (iS ah)))) (iR ae (fun d S U V C=>?_))
   refine Gz (v:=.agg (((A.sl.drop (64*k)).take 64).flatMap gV.cells).toArray) (vs:=(((A.sl.drop (64*k)).take 64).flatMap gV.cells)) (L' := [blk d 395 (((A.sl.drop (64*k)).take 64).flatMap gV.cells),blk ab 278 (mV ab bv A),fL iI bv 392 1 A.ps,gN gV.cells 395 64 A.ps A.sl,blk c 278 (mV c v2 A),fL iI v2 392 1 F,gN gV.cells 395 64 F (A.sl.take (64*k))]) 0 rfl rfl rfl rfl LA af (z6.2 (xY f_ _)) C rfl (by rw[af];decide) (RF (by rw[af];rfl)) rfl (fun W l X=>fK l 8 ?_)
   refine jW (vs:=(Zf d)) (cs:=(Zf d)) rfl rfl BA Dx rfl (by simp[Value.cells]) rfl rfl rfl l (fun D Y Z aa p=>lR (cf:=iI) (ys:=F) (zs:=[(some d)]) (LL:=fun e=>[row (Z4 D) 392 1 1 ((Zf d)),blk d 395 (((A.sl.drop (64*k)).take 64).flatMap gV.cells),blk ab 278 (mV ab bv A),fL iI bv 392 1 A.ps,gN gV.cells 395 64 A.ps A.sl,blk c 278 (mV c v2 A),fL iI e 392 1 (F++[(some d)]),gN gV.cells 395 64 F (A.sl.take (64*k))]) 6 rfl rfl rfl BA Dx rfl d_ p rfl (lF p (i:=0) rfl) (fun x hx=>z6.1 (show List.all _ _=true from rfl) x hx) (by have h7:=T.pM;simp only[zh,zk];omega) (by have h7:=T.pM;simp only[zh,zk];omega) f_ ?_)
   intro e ac E ad
   have g:=yf [1,2,3,4,5,6,7] E
   refine fK g 2 ?_
   refine jt 4 g (fun G q=>?_) (hvs:=(cells_one (yv g (i:=5) rfl))) (h1:=(gX (yv g (i:=5) rfl) jV))
   refine fP q 7 ?_
   refine tN (?_)
   have H:=yf [0,6,1,2,3,4,5] q
   have ai:=Vs T.sl hk
   have I:St [(w,(Zu ab bv A).gJ)] [gN gV.cells 395 64 (F++[(some d)]) (A.sl.take (64*(k+1))),blk ab 278 (mV ab bv A),fL iI bv 392 1 A.ps,gN gV.cells 395 64 A.ps A.sl,blk c 278 (mV c e A),fL iI e 392 1 (F++[(some d)])] G:=by rw[<-aef];exact St.N2 H (by rw[ai.2,an]) ai.1 rfl
   have J:=yf [1,2,3,4,5,0] I
   exact again ((k+1),e,F++[(some d)]) ⟨rfl,rfl,rfl,gm rO,trivial⟩ (⟨J,o_,hC.next⟩) (by show (A.ps.length-(k+1):Nat)<A.ps.length-k;omega)
 . refine fP ae 17 ?_
   refine gf (v:=(Zb c)) results204 rfl ?_
   have am:k=A.ps.length:=by omega
   have aj:=ae
   rw[vF (show A.sl.length<=64*k by rw[am];exact DX T.sl)]at aj
   exact⟨c,v2,F,rfl,T.copy o_ hC.all,ym (R' := (No ab bv A c v2 F)) (yc [_,_,_,_,_,_] _ aj) zd⟩
def AW.R(ab:Nat)(v:AW):fT:=lq v.A.ok (Zu ab v.bv v.A)
abbrev xG(a:fW):=(AW.R a.jg a.aw:fT)
abbrev H8(a b:Nat)(c:TW):=([blk a 302 (pH a b c),fL gQ c.iv 39 1 c.ids,fL fU c.cv 3 1 c.cs,AW.R b c.w]:List fT)
abbrev MM(a b:Nat)(c:TW) d e f g:=([blk a 302 (pH a b c),fL gQ c.iv 39 1 c.ids,fL fU c.cv 3 1 c.cs,AW.R b c.w,fL fU d 3 1 e,fL gQ f 39 1 g]:List fT)
abbrev Ia(a:Nat) b (c d:Nat) (e:TW) f g h i:=([iz .u64 (Z4 a) 39 b,blk c 302 (pH c d e),fL gQ e.iv 39 1 e.ids,fL fU e.cv 3 1 e.cs,AW.R d e.w,fL fU f 3 1 g,fL gQ h 39 1 i]:List fT)
theorem G1(v:AW)(w:World)(a:Own (AW.R ab v) w) :
 CR ya 104 (Zh ab) w (fun r w' => r = .int .i64 (v.A.used:Int)/\fV (AW.R ab v) w w' (AW.R ab v)):=by
 exact CR.mono (Uo ab v.bv v.A w a.un a.fact) fun r w' ⟨b,ht⟩=>⟨b,ht.rD a.fact⟩
theorem Tu(v:AW)(w:World)(g:Own (AW.R ab v) w)(o:v.A.used<v.A.n) :
 CR ya 209 (Zh ab) w (fun r w' => ∃ i v2,r = .tuple (uW ((i:Nat):Int))/\AW.put v.A v2.A i/\fV (AW.R ab v) w w' (AW.R ab v2)):=by
 have a:=g.fact
 rcases a.full o with ⟨i,l,b⟩|⟨b,m⟩
 . have hp:=a.pop b
   exact CR.mono (T7 ab v.bv v.A w g.un a i l b) fun r w' ⟨f,A2,c,k,⟨e1,d,e⟩,j,ht⟩=>⟨i,⟨c,A2⟩,f,⟨e1,e,j,hp.2.2.1,.inl ⟨hp.2.2.2.1,d⟩⟩,ht.rD k⟩
 . exact CR.mono (T8 ab v.bv v.A w g.un a b m) fun r w' ⟨f,A2,c,k,⟨e1,d,e⟩,j,ht⟩=>⟨v.A.begun,⟨c,A2⟩,f,⟨e1,e,j,fun h=>Nat.lt_irrefl _ h.1,.inr ⟨rfl,d⟩⟩,ht.rD k⟩
theorem Ty(v:AW)(w:World)(a:Own (AW.R ab v) w)(i:Nat)(hi:v.A.ij i) :
 CR ya 128 (Zm ab i) w (fun r w' => ∃ v2,r = .int .i64 0/\AW.del v.A v2.A i/\fV (AW.R ab v) w w' (AW.R ab v2)):=by
 exact CR.mono (Um ab v.bv v.A w a.un a.fact i hi) fun r w' ⟨d,A2,f,⟨e1,b,c⟩,e,ht⟩=>⟨⟨v.bv,A2⟩,d,⟨e1,b,c,(a.fact.free hi rfl).2.2,e⟩,ht.rD f⟩
theorem TE(n:Nat)(w:World)(a:n<=65536) :
 CR ya 218 (Z2 n) w (fun r w' => ∃ ab v,r = .tuple (Zz ab)/\v.A=As.new n/\fV (gh []) w w' (AW.R ab v)):=by
 exact CR.mono (Uv n w a) fun r w' ⟨ab,b,ht⟩=>⟨ab,⟨.slice none 0 0,As.new n⟩,b,rfl,ht.LU (As.uk a)⟩
theorem Tx(v:AW)(w:World)(d:Own (AW.R ab v) w) :
 CR ya 204 (Zh ab) w (fun r w' => ∃ a v2,r = .pointer (some ⟨a,0,none⟩)/\(∃ b,v2.A={ v.A with ps:=b })/\fV (AW.R ab v) w w' (gh [AW.R ab v,AW.R a v2])):=by
 refine CR.mono (Ub ab v.bv v.A w d.un d.fact) fun r w' ⟨a,c,b,f,g,ht⟩=>⟨a,⟨c,{ v.A with ps:=b }⟩,f,⟨b,rfl⟩,(fV.Fi (A:=(AE ab v.bv v.A)) (B:=[blk a 278 (mV a c v.A),fL iI c 392 1 b,gN gV.cells 395 64 b v.A.sl]) ht).LP.CS rfl (fun h=>?_)⟩
 intro Q e
 simp only[zg,nr,or_false]at e
 rcases e with rfl|rfl
 . exact⟨d.fact,h _ s_⟩
 . exact⟨g,h _ s_⟩
def TW.R(tb ab:Nat)(t:TW):fT:=lq t.ok (gh [blk tb 302 (pH tb ab t),fL gQ t.iv 39 1 t.ids,fL fU t.cv 3 1 t.cs,(AW.R ab t.w)])
abbrev Ax(a:fW) b:=(TW.R a.tb a.ab b:fT)
abbrev xH(a:fW):=(TW.R a.tb a.ab a.t:fT)
abbrev MH(a:Nat)(b c:Int)(d:fW) e:=([blk a 174 (pY b c d e),fL Lv.cells d.lv 43 7 d.live,ia d.mb .u64 p_ d.im,jF 3 d.im,AW.R d.jg d.aw,TW.R d.tb d.ab d.t]:List fT)
abbrev MG(a:Nat)(b c:Int)(d:fW) e f g h i:=([blk a 174 (pY b c d e),fL Lv.cells d.lv 43 7 d.live,ia d.mb .u64 p_ d.im,jF 3 d.im,AW.R d.jg d.aw,TW.R d.tb d.ab d.t,fL fU f 3 1 g,fL Lv.cells h 43 7 i]:List fT)
abbrev HX a (b:Nat) (c d:Int) (e:fW) f g h i j:=([a,blk b 174 (pY c d e f),fL Lv.cells e.lv 43 7 e.live,ia e.mb .u64 p_ e.im,jF 3 e.im,AW.R e.jg e.aw,TW.R e.tb e.ab e.t,fL fU g 3 1 h,fL Lv.cells i 43 7 j]:List fT)
abbrev Mu a (b:Nat) (c:Lv) (d:Nat) (e f:Int) (g:fW) h i j (k:Nat):=([jF 3 a,blk b 43 (oh c),blk d 174 (pY e f g h),fL Lv.cells g.lv 43 7 i,ia g.mb .u64 p_ a,AW.R g.jg j,TW.R g.tb g.ab g.t,blk k 43 oQ]:List fT)
abbrev M3 a b c (d:Nat) (e:Lv) (f:Nat) (g h:Int) (i:fW) j k l m (n:Nat):=([iz .i64 a 3 b,jF 3 c,blk d 43 (oh e),blk f 174 (pY g h i j),fL Lv.cells i.lv 43 7 k,ia i.mb .u64 p_ l,AW.R i.jg m,TW.R i.tb i.ab i.t,blk n 43 oQ]:List fT)
abbrev M6 a b c d (e:Nat) (f g:Int) (h:fW) i j k (l m n:Nat) o p q r s t (u:Nat) v:=([fL fU a 3 1 b,fL fU c 3 1 b,jF 3 d,blk e 174 (pY f g h i),fL Lv.cells h.lv 43 7 h.live,j,jF 3 k,AW.R h.jg h.aw,TW.R h.tb h.ab h.t,blk l 174 (EC f g h.last m n o p),fL Lv.cells o 43 7 h.live,ia q .u64 p_ r,jF 3 s,AW.R m t,TW.R n u v]:List fT)
abbrev Mt a (b:Nat) (c d:Int) (e:Lv) (f:Nat) (g h:Int) (i:fW) j k l m n (o p:Nat):=([jF 3 a,blk b 43 (qT c d e),blk f 174 (EP g h d i j k),fL Lv.cells j 43 7 l,ia i.mb .u64 p_ a,AW.R i.jg m,TW.R i.tb i.ab n,blk o 43 oQ,blk p 41 (qU e)]:List fT)
abbrev Ms a (b:Nat) (c d:Int) (e:Lv) (f:Nat) (g h:Int) (i:fW) j k l m (n o:Nat):=([jF 3 a,blk b 43 (qT c d e),blk f 174 (Co g h d i j),fL Lv.cells i.lv 43 7 k,ia i.mb .u64 p_ a,AW.R i.jg l,TW.R i.tb i.ab m,blk n 43 oQ,blk o 41 (qU e)]:List fT)
abbrev M1 a b c (d:Nat) (e f:Int) (g:Lv) (h:Nat) (i j:Int) (k:fW) l m n o p q (r s:Nat):=([iz .i64 a 3 b,jF 3 c,blk d 43 (qT e f g),blk h 174 (EP i j f k l m),fL Lv.cells l 43 7 n,ia k.mb .u64 p_ o,AW.R k.jg p,TW.R k.tb k.ab q,blk r 43 oQ,blk s 41 (qU g)]:List fT)
abbrev M0 a b c (d:Nat) (e f:Int) (g:Lv) (h:Nat) (i j:Int) (k:fW) l m n o p (q r:Nat):=([iz .i64 a 3 b,jF 3 c,blk d 43 (qT e f g),blk h 174 (Co i j f k l),fL Lv.cells k.lv 43 7 m,ia k.mb .u64 p_ n,AW.R k.jg o,TW.R k.tb k.ab p,blk q 43 oQ,blk r 41 (qU g)]:List fT)
theorem Sp(t:TW)(w:World)(f:Own (Z1 ab tb t) w)(d:TW.Sz t.n)(id:Int) :
 CR ya 277 (Z7 ab id) w (fun r w' => r = .int .i64 ((kX t.n id:Nat):Int)/\fV (Z1 ab tb t) w w' (Z1 ab tb t)):=by
 have j:t.cs.length=t.n:=rfl
 have h:=d.two
 have k:=d.top
 have g:0<t.n:=by omega
 have i:=xZ (id:=id) g
 refine en func277 ntmps277 ?_
 have c:=Own.of f
 refine fR c 9 ?_
 refine shr (a:=id) (b:=33) (e:=(id.fdiv (2 ^ 33))) rfl rfl rfl d_ rfl (bi (a:=id) (b:=(id.fdiv (2 ^ 33))) (e:=(lD id)) rfl rfl rfl (L4 _) (fK c 6 ?_))
 refine ar (e:=(mM 18397679294719823053 (lD id))) rfl rfl rfl rfl rfl (fK c 7 ?_)
 refine shr (a:=(mM 18397679294719823053 (lD id))) (b:=33) (e:=((mM 18397679294719823053 (lD id)).fdiv (2 ^ 33))) rfl rfl rfl d_ rfl (bi (a:=(mM 18397679294719823053 (lD id))) (b:=((mM 18397679294719823053 (lD id)).fdiv (2 ^ 33))) (e:=(lD (mM 18397679294719823053 (lD id)))) rfl rfl rfl (L4 _) (fK c 6 ?_))
 refine ar (e:=(mM 14181476777654086739 (lD (mM 18397679294719823053 (lD id))))) rfl rfl rfl rfl rfl (fK c 7 ?_)
 refine shr (a:=(mM 14181476777654086739 (lD (mM 18397679294719823053 (lD id))))) (b:=33) (e:=((mM 14181476777654086739 (lD (mM 18397679294719823053 (lD id)))).fdiv (2 ^ 33))) rfl rfl rfl d_ rfl (bi (a:=(mM 14181476777654086739 (lD (mM 18397679294719823053 (lD id))))) (b:=((mM 14181476777654086739 (lD (mM 18397679294719823053 (lD id)))).fdiv (2 ^ 33))) (e:=(lD (mM 14181476777654086739 (lD (mM 18397679294719823053 (lD id)))))) rfl rfl rfl (L4 _) (fK c 10 ?_))
 refine iV (m:=t.cs.length) 2 rfl rfl yd c rfl (fK c 2 ?_)
 refine bi (a:=(lD (mM 14181476777654086739 (lD (mM 18397679294719823053 (lD id)))))) (b:=(t.cs.length:Int)-1) (e:=((kX t.n id:Nat):Int)) rfl rfl rfl (d.p2.home id) (fP c 5 ?_)
 refine gf (v:=(Za ((kX t.n id:Nat):Int))) results277 rfl ?_
 exact⟨rfl,yj (yc [_,_,_] _ c)⟩
theorem aeM(id:Int)(w:World) :
 CR ya 276 (Z7 ab id) w (fun r w' => ∃ m n,r = .func (.func 326) #[] (AD m n)/\fV (gh []) w w' (gh [blk m 171 (Zf ab),blk n 39 (Zt id)])):=by
 refine en func276 ntmps276 ?_
 have l:=yu w
 refine fR l 2 ?_
 refine ir l (fun a f g h d=>?_)
 refine ir d (fun b i j k c=>?_)
 refine fK c 5 ?_
 refine mX (vf:=[]) (vc:=(sY a b)) rfl rfl rfl (fP c 4 ?_)
 refine gf (v:=(.func (.func 326) #[] (AD a b))) results276 rfl ?_
 have e:=yf [1,0] c
 exact⟨a,b,rfl,mD (yc [_,_] _ e)⟩
theorem aeL{γ:Type}(A:γ->fT)(D:γ->Nat->Nat->Prop)(I:γ->Prop)(z0:γ)(l B C tb ab:Nat)(t:TW)(id:Int)(w:World)(Q:∀ (z:γ) (k c:Nat) (bs:List (World×List Nat)) (L:List fT) (w:World),k<t.n->c<t.n->D z k c->St bs (A z :: (B8 tb ab t)++L) w->YR ya l (Zr c ((fJ t.cs c:Nat):Int)) w (fun v w' => ∃ H b,v = .bool b/\(b=true->D H (k+1) (iD t.n c))/\(b=false->I H)/\St bs (A H :: (B8 tb ab t)++L) w'))(F:t.ok)(R:D z0 0 (kX t.n id))(M:Own (Er (A z0) tb ab t B C id) w) :
 CR ya 326 (MB (.func (.yield l) #[] #[]) B C) w (fun r w' => ∃ z,((∃ c,D z t.n c)\/I z)/\r = .tuple #[]/\fV (Er (A z0) tb ab t B C id) w w' (Er (A z) tb ab t B C id)):=by
 have U:t.cs.length=t.n:=rfl
 have S:=F.two
 have V:=F.top
 have P:0<t.n:=by omega
 refine en func326 ntmps326 ?_
 have K:=Own.of M
 have j:=yf [1,2,3,0,4,5] K
 have g:=yc [_,_,_] _ j
 refine fR K 4 ?_
 refine cl (Sp tb ab t w (ye g 0 rfl) F.sz id) ?_
 rintro _ q ⟨rfl,ht⟩
 have f:=(yi g ht)
 refine fK f 9 ?_
 refine iV (m:=t.cs.length) 2 rfl rfl yd f rfl ?_
 have o:=yf [3,0,1,2,4,5] f
 refine gF f 4 ?_
 refine lp (α:=γ×Nat×Nat) (fun(z,k,c)=>[(0,(.func (.yield l) #[] #[])),(1,(Zb B)),(2,(Zb C)),(4,(Za c)),(12,(Za t.cs.length)),(13,(Za k))]) (fun(z,k,c) w1=>St [(w,(Er (A z0) tb ab t B C id).gJ)] [(A z),blk tb 302 (pH tb ab t),fL gQ t.iv 39 1 t.ids,fL fU t.cv 3 1 t.cs,blk B 171 (Zf tb),blk C 39 (Zt id)] w1/\k<=t.n/\c<t.n/\D z k c) (fun(z,k,c)=>t.n-k) (z0,0,(kX t.n id)) ⟨rfl,rfl,rfl,gm rO,rfl,gm rO,trivial⟩ (⟨o,o_,xZ P,R⟩) ?_
 rintro⟨z,k,c⟩ s u ⟨E,T,G,J⟩
 refine fR E 2 ?_
 by_cases x:(k:Int)<(t.cs.length:Int)
 . refine fK E 21 ?_
   refine yl (vl:=(Zr c (((fJ t.cs c):Nat):Int))) rfl rfl rfl (Q z k c _ _ _ o_ G J E) ?_
   rintro _ y ⟨h,p,rfl,O,N,d⟩
   refine gF d 3 ?_
   cases i:(p:Bool)
   . skip
     subst i
     refine iT d 7 ?_
     refine Bm results326 ?_
     exact⟨h,.inr (N rfl),rfl,yj (yc [_,_,_,_,_,_] _ d)⟩
   . skip
     subst i
     refine fR d 10 ?_
     refine iV (m:=t.cs.length) 3 rfl rfl yd d rfl (fK d 1 ?_)
     refine bi (a:=(c:Int)+1) (b:=(t.cs.length:Int)-1) (e:=((iD t.n c:Nat):Int)) rfl rfl rfl (F.p2.nx G) (fP d 8 ?_)
     refine tN (?_)
     exact again (h,(k+1),(iD t.n c)) ⟨rfl,rfl,rfl,gm rO,rfl,gm rO,trivial⟩ (⟨d,o_,Kl G,O rfl⟩) (by show t.n-(k+1)<t.n-k;omega)
 . refine fP E 9 ?_
   refine jc results326 ?_
   obtain rfl:k=t.n:=by omega
   exact⟨z,.inl ⟨c,J⟩,rfl,yj (yc [_,_,_,_,_,_] _ E)⟩
theorem aei(t:TW)(w:World)(hO:Own (Z1 ab tb t) w)(T:t.ok)(id:Int) :
 CR ya 201 (Z7 ab id) w (fun r w' => r = .tuple (Z9 ((t.find id).1:Int) ((t.find id).2))/\fV (Z1 ab tb t) w w' (Z1 ab tb t)):=by
 have aQ:t.cs.length=t.n:=rfl
 have aM:=T.two
 have aS:=T.top
 have aR:0<t.n:=by omega
 refine AR (vs:=[(Zb ab),(Zl id)]) func201 rfl ntmps201 rfl ?_
 have aF:=Own.of hO
 refine fR aF 2 ?_
 refine ir aF (fun d S U V A=>?_)
 refine ir A (fun f W X Y B=>?_)
 refine iR B (fun g Z aa ac C=>?_)
 refine iR C (fun i D ad ae s=>?_)
 refine fK s 7 ?_
 refine cl (aeM ab id D) ?_
 rintro _ af ⟨m,o,rfl,ht⟩
 have u:=yy (jm s ht)
 have E:=yf [3,2,5,4,6,7,8,0,1] u
 refine gF u 3 ?_
 refine rfx (α:=Bool×Int×Bool) (ps:=[11,12]) (fi:=[]) (ca:=(sY m o)) (fun(sp,a,b)=>[blk g 3 (Ze a),blk i 4 [(.bool b)],blk d 171 (Zf ab),blk f 39 (Zt id),blk ab 302 (pH ab tb t),fL gQ t.iv 39 1 t.ids,fL fU t.cv 3 1 t.cs,blk m 171 (Zf ab),blk o 39 (Zt id)]) (fun(sp,a,b)=>(sp=false/\t.find id=(0,false))\/(sp=true/\a=((t.find id).1:Int)/\b=(t.find id).2)) (fun(sp,a,b)=>sp) E rfl eN ?_ ?_ ?_
 . intro fn dd l wl rc aA aK
   have G:=yf [0,2,3,4,5,6,7,8,9,10,1] aK
   have aG:=yc [iw l rc,blk g 3 [Zc],blk i 4 [Zn],blk d 171 (Zf ab),blk f 39 (Zt id)] [blk ab 302 (pH ab tb t),fL gQ t.iv 39 1 t.ids,fL fU t.cv 3 1 t.cs,blk m 171 (Zf ab),blk o 39 (Zt id),j6 dd (some [])] G
   have aE:rc.state = .ready:=by rw[aA]
   have aH:rc.pending=none:=by rw[aA]
   have aI:∀ (z:Bool×Int×Bool) (k c:Nat) (bs:List (World×List Nat)) (L:List fT) (w:World),k<t.n->c<t.n->(fun(z:Bool×Int×Bool) k c=>z.1=false/\t.rest id k c) z k c->St bs ((fun((sp,a,b):Bool×Int×Bool)=>gh (HY (iw l (yR sp rc)) g a i b d ab f id)) z :: (B8 ab tb t)++L) w->YR ya l (Zr c ((fJ t.cs c:Nat):Int)) w (fun v w' => ∃ z2 b,v = .bool b/\(b=true->(fun(z:Bool×Int×Bool) k c=>z.1=false/\t.rest id k c) z2 (k+1) (iD t.n c))/\(b=false->(fun(z:Bool×Int×Bool)=>z.1=true/\z.2.1=((t.find id).1:Int)/\z.2.2=(t.find id).2) z2)/\St bs ((fun((sp,a,b):Bool×Int×Bool)=>gh (HY (iw l (yR sp rc)) g a i b d ab f id)) z2 :: (B8 ab tb t)++L) w'):=by
    rintro⟨sp,a,b⟩ k c bs LT wr hk hc ⟨rfl,az⟩ aw
    have aw:=aw.unpack
    refine yU (vl:=(Zr c ((fJ t.cs c:Nat):Int))) 0 aA aw rfl rfl rfl (iT aw 8 ?_)
    refine tN (?_)
    refine AH 0 aw rfl aE rfl (fun ag p=>fR p 5 ?_)
    by_cases ah:((fJ t.cs c:Nat):Int)=0
    . have aN:fJ t.cs c=0:=by omega
      refine fK p 1 ?_
      skip
      skip
      skip
      refine jH p 13 fun ai H=>?_
      refine Oq 0 H rfl rfl ?_
      intro aj I
      have av:t.find id=(c,false):=TW.aci az hk o_
      exact⟨_,rfl,(true,(c:Int),false),false,rfl,fun h=>(by cases h),fun _=>⟨rfl,by rw[av],by rw[av]⟩,yc [_,_,_,_,_] _ I⟩
    . obtain⟨j,hj⟩:∃ j,fJ t.cs c=j+1:=⟨fJ t.cs c-1,o_⟩
      have aC:=T.val hc hj
      have aO:j<t.ids.length:=aC.2.2.1
      have aP:j<65536:=oJ aC.2.2.2 T.an
      refine gC p 13 fun ak q=>?_
      refine ar (e:=((j:Nat):Int)) rfl rfl rfl rfl je (fK q 3 ?_)
      by_cases x:((fJ t.ids j):Int)=(id:Int)
      . have ay:fJ t.ids j=id:=by have h7:=x;omega
        refine jH q 13 fun al J=>?_
        refine Oq 0 J rfl rfl ?_
        intro am K
        have av:t.find id=(c,true):=TW.acf az hk hj ay
        exact⟨_,rfl,(true,(c:Int),true),false,rfl,fun h=>(by cases h),fun _=>⟨rfl,by rw[av],by rw[av]⟩,yc [_,_,_,_,_] _ K⟩
      . have ay:fJ t.ids j≠id:=by have h7:=x;omega
        refine fP q 6 ?_
        refine u9 0 q rfl aE aH rfl ?_
        intro ao M
        exact⟨_,rfl,(false,a,b),true,rfl,fun _=>⟨rfl,TW.acg az hk hj ay⟩,fun h=>(by cases h),yc [_,_,_,_,_] _ M⟩
   have aD:=yc [_,_,_,_,_,_] _ aG
   refine CR.mono (aeL (fun((sp,a,b):Bool×Int×Bool)=>gh (HY (iw l (yR sp rc)) g a i b d ab f id)) (fun(z:Bool×Int×Bool) k c=>z.1=false/\t.rest id k c) (fun(z:Bool×Int×Bool)=>z.1=true/\z.2.1=((t.find id).1:Int)/\z.2.2=(t.find id).2) (false,0,false) l m o ab tb t id wl aI T ⟨rfl,TW.ach t id⟩ (ye aD 0 rfl)) ?_
   rintro _ w9 ⟨⟨sp,a,b⟩,hz,-,aL⟩
   have aJ:=(yi aD aL).unpack
   have N:=yf [0,10,1,2,3,4,5,6,7,8,9] aJ
   refine⟨(sp,a,b),?_,N⟩
   rcases hz with ⟨c,h1,h2⟩|h1
   . exact .inl ⟨h1,TW.ace h2⟩
   . exact .inr h1
 . rintro⟨sp,a,b⟩ dd ap hC aB O
   have hf:t.find id=(0,false):=hC.elim (fun h=>h.2) (fun h=>absurd (h.1.symm.trans aB) d_)
   refine sQQ tt none O 9 fun aq P=>?_
   refine yC 0 P rfl rfl ?_
   intro w8 F
   have Q:=yf [5,6,7,0,1,2,3,4,8,9] F
   have ax:fV (Z1 ab tb t) w w8 (Z1 ab tb t):=yj (yc [_,_,_] _ Q)
   exact⟨_,KD results201 (Bq rfl yg rfl (St.bc F 1 rfl rfl)) (Bq rfl mC rfl (St.bc F 2 rfl rfl)),_,rfl,by rw[hf];rfl,ax⟩
 . rintro⟨sp,a,b⟩ dd au hC aB y
   have hf:a=((t.find id).1:Int)/\b=(t.find id).2:=hC.elim (fun h=>absurd (h.1.symm.trans aB) d_) (fun h=>h.2)
   refine wR tt none y 2 ?_
   refine yC 0 y rfl rfl ?_
   intro w8 F
   have R:=yf [5,6,7,0,1,2,3,4,8,9] F
   have ax:fV (Z1 ab tb t) w w8 (Z1 ab tb t):=yj (yc [_,_,_] _ R)
   exact⟨_,KD results201 (Bq rfl yg rfl (St.bc F 1 rfl rfl)) (Bq rfl mC rfl (St.bc F 2 rfl rfl)),_,rfl,by rw[hf.1,hf.2],ax⟩
theorem Dq(t:TW)(w:World)(a:Own (Z1 ab tb t) w)(c:t.ok)(id:Int)(p:Nat)(b:Bool)(d:t.find id=(p,b)) :
 CR ya 201 (Z7 ab id) w (fun r w' => r = .tuple (Z9 p b)/\fV (Z1 ab tb t) w w' (Z1 ab tb t)):=by
 have h:=aei ab tb t w a c id
 rw[d]at h
 exact h
theorem w6(t:TW)(w:World)(d:Own (Z1 ab tb t) w)(e:t.ok) :
 CR ya 179 (Zh ab) w (fun r w' => r = .bool true/\fV (Z1 ab tb t) w w' (Z1 ab tb t)):=by
 refine en func179 ntmps179 ?_
 have b:=Own.of d
 refine fR b 8 ?_
 refine lI (a:=some ⟨ab,0,none⟩) (c:=true) rfl rfl rfl underlying171 rfl (fK b 6 ?_)
 refine xV (a:=⟨ab,0,none⟩) rfl rfl rfl underlying171 GM (fP b 5 ?_)
 refine gf (v:=Zg) results179 rfl ?_
 exact⟨rfl,yj (yc [_,_,_] _ b)⟩
theorem ael(t:TW)(w:World)(h:Own (TW.R ab tb t) w)(id:Int)(i:Nat)(hi:t.A.ij i)(o:fJ t.ids i=id) :
 CR ya 203 (Z7 ab id) w (fun r w' => r = .tuple (Ao i)/\fV (TW.R ab tb t) w w' (TW.R ab tb t)):=by
 have x:t.cs.length=t.n:=rfl
 have y:=h.fact.top
 obtain⟨p,hp,k,l⟩:=h.fact.Jd hi
 rw[o]at l
 have q:=(h.fact.val hp k).2.2.2
 have u:i<65536:=oJ q h.fact.an
 have s:=(h.fact.val hp k).2.2.1
 refine en func203 ntmps203 ?_
 have m:=Own.of h.un
 have j:t.ok:=h.fact
 have b:=yc [_,_,_] _ m
 refine fR m 10 ?_
 refine cl (w6 ab tb t w (ye b 0 rfl) j) ?_
 rintro _ f ⟨rfl,ht⟩
 have c:=(yi b ht)
 have d:=yc [_,_,_] _ c
 refine fK c 10 ?_
 refine cl (Dq ab tb t f (ye d 0 rfl) j id p true l) ?_
 rintro _ g ⟨rfl,ht⟩
 have a:=(yi d ht)
 refine fK a 26 ?_
 refine ar (e:=((i:Nat):Int)) rfl rfl rfl rfl je (fP a 5 ?_)
 refine gZ (v:=(Za ((i:Nat):Int))) (v' := Zg) results203 rfl rfl ?_
 exact⟨rfl,ym (yn (p:=(t:TW).ok) (yc [_,_,_,_] _ a) j) zd⟩
theorem aek(t:TW)(w:World)(g:Own (TW.R ab tb t) w)(id:Int)(k:¬ t.mem id) :
 CR ya 203 (Z7 ab id) w (fun r w' => r = .tuple Cd/\fV (TW.R ab tb t) w w' (TW.R ab tb t)):=by
 have m:t.cs.length=t.n:=rfl
 have o:=g.fact.top
 obtain⟨p,hp,j,l,q⟩:=g.fact.OO k
 refine en func203 ntmps203 ?_
 have i:=Own.of g.un
 have h:t.ok:=g.fact
 have a:=yc [_,_,_] _ i
 refine fR i 10 ?_
 refine cl (w6 ab tb t w (ye a 0 rfl) h) ?_
 rintro _ e ⟨rfl,ht⟩
 have b:=(yi a ht)
 have c:=yc [_,_,_] _ b
 refine fK b 10 ?_
 refine cl (Dq ab tb t e (ye c 0 rfl) h id p false j) ?_
 rintro _ f ⟨rfl,ht⟩
 have d:=(yi c ht)
 refine fP d 23 ?_
 refine gZ (v:=Zc) (v' := Zn) results203 rfl rfl ?_
 exact⟨rfl,ym (yn (p:=(t:TW).ok) (yc [_,_,_,_] _ d) h) zd⟩
theorem GD(t:TW)(w:World)(d:Own (TW.R ab tb t) w)(id:Int) :
 CR ya 203 (Z7 ab id) w (fun r w' => ∃ (z:Nat) (b:Bool),r = .tuple (Z9 z b)/\TW.mR t id z b/\fV (TW.R ab tb t) w w' (TW.R ab tb t)):=by
 by_cases hm:t.mem id
 . obtain⟨i,hi,e⟩:=hm
   exact CR.mono (ael ab tb t w d id i hi e) fun r w' ⟨a,c⟩=>⟨i,true,a,.inl ⟨rfl,hi,e⟩,c⟩
 . exact CR.mono (aek ab tb t w d id hm) fun r w' ⟨a,c⟩=>⟨0,false,a,.inr ⟨rfl,rfl,hm⟩,c⟩
theorem S9(t:TW)(w:World)(f:Own (TW.R ab tb t) w) :
 CR ya 103 (Zh ab) w (fun r w' => r = .int .i64 (t.A.used:Int)/\fV (TW.R ab tb t) w w' (TW.R ab tb t)):=by
 have g:=f.fact
 refine en func103 ntmps103 ?_
 have h:=Own.of f.un
 have g:t.ok:=f.fact
 have b:=yc [_,_,_] _ h
 refine fR h 9 ?_
 refine cl (w6 ab tb t w (ye b 0 rfl) g) ?_
 rintro _ d ⟨rfl,ht⟩
 have a:=(yi b ht)
 refine fK a 12 ?_
 refine cl (G1 tb t.w d (ye a 3 rfl)) ?_
 rintro _ e ⟨rfl,ht⟩
 have c:=yh 3 a ht
 refine fP c 4 ?_
 refine gf (v:=(Za t.A.used)) results103 rfl ?_
 exact⟨rfl,ym (yn (p:=(t:TW).ok) (yc [_,_,_,_] _ c) g) zd⟩
theorem aeO(t:TW)(w:World)(h:Own (TW.R ab tb t) w)(id:Int)(i:Nat)(hi:t.A.ij i)(o:fJ t.ids i=id) :
 CR ya 210 (Z7 ab id) w (fun r w' => r = .tuple #[.int .i64 (i:Int),.bool false,.int .i64 0]/\fV (TW.R ab tb t) w w' (TW.R ab tb t)):=by
 have x:t.cs.length=t.n:=rfl
 have y:=h.fact.top
 obtain⟨p,hp,k,l⟩:=h.fact.Jd hi
 rw[o]at l
 have q:=(h.fact.val hp k).2.2.2
 have u:i<65536:=oJ q h.fact.an
 have s:=(h.fact.val hp k).2.2.1
 refine en func210 ntmps210 ?_
 have m:=Own.of h.un
 have j:t.ok:=h.fact
 have b:=yc [_,_,_] _ m
 refine fR m 11 ?_
 refine cl (w6 ab tb t w (ye b 0 rfl) j) ?_
 rintro _ f ⟨rfl,ht⟩
 have c:=(yi b ht)
 have d:=yc [_,_,_] _ c
 refine fK c 10 ?_
 refine cl (Dq ab tb t f (ye d 0 rfl) j id p true l) ?_
 rintro _ g ⟨rfl,ht⟩
 have a:=(yi d ht)
 refine fK a 23 ?_
 refine ar (e:=((i:Nat):Int)) rfl rfl rfl rfl je (fP a 7 ?_)
 refine rq (v:=(Za ((i:Nat):Int))) (v' := Zn) (v'' := Zc) results210 rfl rfl rfl ?_
 exact⟨rfl,ym (yn (p:=(t:TW).ok) (yc [_,_,_,_] _ a) j) zd⟩
theorem aeN(t:TW)(w:World)(F:Own (TW.R ab tb t) w)(id:Int)(V:¬ t.mem id)(Y:gU .u64 id)(hu:t.A.used<t.A.n) :
 CR ya 210 (Z7 ab id) w (fun r w' => ∃ (i:Nat) (t2:TW),r = .tuple #[.int .i64 (i:Int),.bool true,.int .i64 0]/\((∀ x,t2.mem x↔t.mem x\/x=id)/\t2.A.n=t.A.n/\t2.A.used=t.A.used+1/\TW.Kp t t2)/\fV (TW.R ab tb t) w w' (TW.R ab tb t2)):=by
 have ah:t.cs.length=t.n:=rfl
 have ai:=F.fact.top
 obtain⟨p,hp,hf,W,hw⟩:=F.fact.OO V
 have af:t.ids.length=t.w.A.begun:=F.fact.uc
 have ag:(t.ids++[0]).length=t.ids.length+1:=by simp
 have ac:t.w.A.begun<=t.w.A.n:=F.fact.pI
 have aa:t.w.A.n<=65536:=F.fact.an
 refine en func210 ntmps210 ?_
 have Z:=Own.of F.un
 have T:t.ok:=F.fact
 have j:=yc [_,_,_] _ Z
 refine fR Z 11 ?_
 refine cl (w6 ab tb t w (ye j 0 rfl) T) ?_
 rintro _ B ⟨rfl,ht⟩
 have k:=(yi j ht)
 have l:=yc [_,_,_] _ k
 refine fK k 10 ?_
 refine cl (Dq ab tb t B (ye l 0 rfl) T id p false hf) ?_
 rintro _ C ⟨rfl,ht⟩
 have h:=(yi l ht)
 refine fK h 22 ?_
 refine cl (Tu tb t.w C (ye h 3 rfl) hu) ?_
 rintro _ G ⟨a,d,rfl,b,ht⟩
 have c:=yh 3 h ht
 have X:=(y9 c (i:=3) rfl:d.A.ok)
 have ad:a<=t.ids.length:=by rcases b.pI with h9|h9<;>omega
 have ae:a<=65536:=by omega
 refine fK c 25 ?_
 refine iV (m:=t.ids.length) 1 rfl rfl yw c rfl ?_
 by_cases H:((a:Nat):Int)=(t.ids.length:Int)
 . refine fK c 10 ?_
   refine jW (vs:=uT) (cs:=uT) rfl rfl yw iX rfl (by simp[Value.cells]) rfl rfl rfl c (fun D I J K o=>lR (cf:=gQ) (ys:=t.ids) (zs:=[0]) (LL:=fun e=>[iz .u64 (Z4 D) 39 ([0]),blk ab 302 (pH ab tb t),fL gQ e 39 1 (t.ids++[0]),fL fU t.cv 3 1 t.cs,(AW.R tb d)]) 2 rfl rfl rfl yw iX rfl d_ o rfl (lF o (i:=0) rfl) (fun x hx=>z6.1 (show List.all _ _=true from rfl) x hx) (by simp only[zh,zk,maxLen];omega) (by simp only[zh,zk,maxLen];omega) f_ ?_)
   intro e L E M
   have g:=yf [1,2,3,4] E
   refine fK g 2 ?_
   refine jt 0 g (fun N q=>?_) (hvs:=(cells_one (yv g (i:=1) rfl))) (h1:=(gX (yv g (i:=1) rfl) jV))
   refine fK q 11 ?_
   refine iQ (f:=(fun _=>id)) 1 q (fun O s=>?_)
   refine fK s 12 ?_
   refine iQ (f:=(fun _=>(a+1))) 2 s (fun P u=>?_)
   refine fP u 11 ?_
   refine rq (v:=(Za ((a:Nat):Int))) (v' := Zg) (v'' := Zc) results210 rfl rfl rfl ?_
   have U:=T.put V Y X b hp W hw e t.cv (is2:=fO (t.ids++[0]) a (fun _=>id)) (cs2:=fO t.cs p (fun _=>(a+1))) (by unfold uq;rw[if_pos o_]) rfl
   exact⟨a,⟨e,t.cv,d,fO (t.ids++[0]) a (fun _=>id),fO t.cs p (fun _=>(a+1))⟩,rfl,⟨U.2,b.n,b.used,T.Rc b (by unfold uq;rw[if_pos o_])⟩,ym (yn (p:=(⟨e,t.cv,d,fO (t.ids++[0]) a (fun _=>id),fO t.cs p (fun _=>(a+1))⟩:TW).ok) (yc [_,_,_,_] _ u) U.1) zd⟩
 . refine fK c 15 ?_
   refine iQ (f:=(fun _=>id)) 1 c (fun Q y=>?_)
   refine fK y 12 ?_
   refine iQ (f:=(fun _=>(a+1))) 2 y (fun S z=>?_)
   refine fP z 11 ?_
   refine rq (v:=(Za ((a:Nat):Int))) (v' := Zg) (v'' := Zc) results210 rfl rfl rfl ?_
   have U:=T.put V Y X b hp W hw t.iv t.cv (is2:=fO t.ids a (fun _=>id)) (cs2:=fO t.cs p (fun _=>(a+1))) (by unfold uq;rw[if_neg o_]) rfl
   exact⟨a,⟨t.iv,t.cv,d,fO t.ids a (fun _=>id),fO t.cs p (fun _=>(a+1))⟩,rfl,⟨U.2,b.n,b.used,T.Rc b (by unfold uq;rw[if_neg o_])⟩,ym (yn (p:=(⟨t.iv,t.cv,d,fO t.ids a (fun _=>id),fO t.cs p (fun _=>(a+1))⟩:TW).ok) (yc [_,_,_,_] _ z) U.1) zd⟩
theorem aem(t:TW)(cs2:List Nat)(d:cs2.length=t.n)(w:World)(b:Own (EE ab tb t cs2) w)(c:TW.Sz t.n)(id:Int) :
 CR ya 277 (Z7 ab id) w (fun r w' => r = .int .i64 ((kX t.n id:Nat):Int)/\fV (EE ab tb t cs2) w w' (EE ab tb t cs2)):=by
 have a:TW.n ⟨t.iv,t.cv,t.w,t.ids,cs2⟩=t.n:=d
 have h:=Sp ab tb ⟨t.iv,t.cv,t.w,t.ids,cs2⟩ w b (by rw[a];exact c) id
 rw[a]at h
 exact h
theorem aeg(t:TW)(w:World)(P:Own (Z1 ab tb t) w)(A:t.ok)(p i:Nat)(hp:p<t.n)(hc:fJ t.cs p=i+1) :
 CR ya 202 (Zm ab ((p:Nat):Int)) w (fun r w' => r = .tuple #[]/\∃ D,D.length=t.n/\(rL t.n D (fun j=>kX t.n (fJ t.ids j))/\(∀ p q,p<t.n->q<t.n->fJ D p≠0->fJ D p=fJ D q->p=q)/\(∀ K,(∃ p,p<t.n/\fJ D p=K+1)↔K≠i/\∃ p,p<t.n/\fJ t.cs p=K+1))/\fV (Z1 ab tb t) w w' (EE ab tb t D)):=by
 have ad:t.cs.length=t.n:=rfl
 have X:=A.two
 have ae:=A.top
 have M:0<t.n:=by omega
 obtain⟨z,V,W⟩:=A.zero
 have O:pU t.n (fun j=>kX t.n (fJ t.ids j)) i t.cs t.cs p p z:=pU.start A.Ga rfl hp hc V W (fun q j _ _=>xZ M) A.inj
 refine en func202 ntmps202 ?_
 have G:=Own.of P
 refine fR G 7 ?_
 refine iV (m:=t.cs.length) 2 rfl rfl yd G rfl (gF G 15 ?_)
 refine lp (α:=List Nat×Nat×Nat) (fun(cs,hole,c)=>[(0,(Zb ab)),(1,(Za ((hole:Nat):Int))),(4,(Za ((t.cs.length:Int)-1))),(5,(Za ((c:Nat):Int)))]) (fun(cs,hole,c) w1=>St [(w,(Z1 ab tb t).gJ)] [blk ab 302 (pH ab tb t),fL gQ t.iv 39 1 t.ids,fL fU t.cv 3 1 cs] w1/\pU t.n (fun j=>kX t.n (fJ t.ids j)) i t.cs cs hole c z) (fun(cs,hole,c)=>dst t.n c z) (t.cs,p,p) ⟨rfl,gm rO,rfl,gm rO,trivial⟩ (⟨G,O⟩) ?_
 rintro⟨cs,hole,c⟩ u s ⟨C,B⟩
 have F:=B.next
 have J:iD t.n c<t.n:=F.1
 have T:=B.wm
 have Q:=B.Oa
 have ac:=B.len
 refine fR C 6 ?_
 refine bi (a:=((c:Nat):Int)+1) (b:=(t.cs.length:Int)-1) (e:=((iD t.n c:Nat):Int)) rfl rfl rfl (A.p2.nx Q) (fK C 19 ?_)
 by_cases g:(((fJ cs (iD t.n c)):Nat):Int)=0
 . have N:fJ cs (iD t.n c)=0:=by have H:=@g;omega
   refine fK C 17 ?_
   refine iQ (f:=(fun _=>0)) (cf:=fU) 2 C (fun v h=>?_)
   refine fP h 2 ?_
   refine jc results202 ?_
   exact⟨rfl,fO cs hole (fun _=>0),by rw[gB];exact B.len,B.done N ⟨p,hp,hc⟩,yj (yc [_,_,_] _ h)⟩
 . obtain⟨j,E⟩:∃ j,fJ cs (iD t.n c)=j+1:=⟨fJ cs (iD t.n c)-1,by have H:=@g;omega⟩
   obtain⟨Y,q9,U,R⟩:=(B.mem j).1 ⟨iD t.n c,J,F.2.1,E⟩
   have L:=A.val U R
   have Z:j<t.ids.length:=L.2.2.1
   have aa:j<65536:=oJ L.2.2.2 A.an
   have S:=xZ (id:=fJ t.ids j) M
   refine fK C 1 ?_
   rw[E]
   refine fK C 15 ?_
   refine ar (e:=((j:Nat):Int)) rfl rfl rfl rfl je ?_
   have k:=yc [_,_,_] _ C
   refine fK C 2 ?_
   refine cl (aem ab tb t cs B.len s (ye k 0 rfl) A.sz (fJ t.ids j)) ?_
   rintro _ x ⟨rfl,ht⟩
   have d:=(yi k ht)
   refine fK d 2 ?_
   refine bi (a:=((iD t.n c:Nat):Int)-((kX t.n (fJ t.ids j):Nat):Int)) (b:=(t.cs.length:Int)-1) (e:=((dst t.n (kX t.n (fJ t.ids j)) (iD t.n c):Nat):Int)) rfl rfl rfl (A.p2.dst S J) (fK d 4 ?_)
   refine bi (a:=((iD t.n c:Nat):Int)-((hole:Nat):Int)) (b:=(t.cs.length:Int)-1) (e:=((dst t.n hole (iD t.n c):Nat):Int)) rfl rfl rfl (A.p2.dst T J) ?_
   by_cases l:((dst t.n (kX t.n (fJ t.ids j)) (iD t.n c):Nat):Int)<((dst t.n hole (iD t.n c):Nat):Int)
   . have I:(dst t.n (kX t.n (fJ t.ids j)) (iD t.n c)<dst t.n hole (iD t.n c)):=by have H:=l;omega
     refine fP d 7 ?_
     refine tN (?_)
     exact again (cs,hole,(iD t.n c)) ⟨rfl,rfl,rfl,gm rO,trivial⟩ (⟨d,B.skip E I⟩) (by show dst t.n (iD t.n c) z<dst t.n c z;exact F.2.2.2.2)
   . have I:¬ (dst t.n (kX t.n (fJ t.ids j)) (iD t.n c)<dst t.n hole (iD t.n c)):=by have H:=l;omega
     refine fK d 15 ?_
     refine iQ (f:=(fun _=>(j+1))) 2 d (fun y o=>?_)
     refine fP o 7 ?_
     refine tN (?_)
     exact again (fO cs hole (fun _=>(j+1)),(iD t.n c),(iD t.n c)) ⟨rfl,gm rO,rfl,gm rO,trivial⟩ (⟨o,B.move E I⟩) (by show dst t.n (iD t.n c) z<dst t.n c z;exact F.2.2.2.2)
theorem Lm(t:TW)(w:World)(B:Own (TW.R ab tb t) w)(id:Int)(i:Nat)(hi:t.A.ij i)(F:fJ t.ids i=id) :
 CR ya 131 (Z7 ab id) w (fun r w' => ∃ (t2:TW),r = .int .i64 0/\((∀ x,t2.mem x↔t.mem x/\x≠id)/\t2.A.n=t.A.n/\t2.A.used=t.A.used-1/\0<t.A.used/\TW.Kp t t2)/\fV (TW.R ab tb t) w w' (TW.R ab tb t2)):=by
 have O:t.cs.length=t.n:=rfl
 have P:=B.fact.top
 obtain⟨p,hp,E,G⟩:=B.fact.Jd hi
 rw[F]at G
 have K:=(B.fact.val hp E).2.2.2
 have N:i<65536:=oJ K B.fact.an
 have M:=(B.fact.val hp E).2.2.1
 refine en func131 ntmps131 ?_
 have H:=Own.of B.un
 have C:t.ok:=B.fact
 have g:=yc [_,_,_] _ H
 refine fR H 9 ?_
 refine cl (w6 ab tb t w (ye g 0 rfl) C) ?_
 rintro _ q ⟨rfl,ht⟩
 have h:=(yi g ht)
 have j:=yc [_,_,_] _ h
 refine fK h 10 ?_
 refine cl (Dq ab tb t q (ye j 0 rfl) C id p true G) ?_
 rintro _ s ⟨rfl,ht⟩
 have b:=(yi j ht)
 refine fK b 26 ?_
 refine ar (e:=((i:Nat):Int)) rfl rfl rfl rfl je (fK b 11 ?_)
 refine cl (Ty tb t.w s (ye b 3 rfl) i hi) ?_
 rintro _ u ⟨c,rfl,a,ht⟩
 have d:=yh 3 b ht
 have I:=(y9 d (i:=3) rfl:c.A.ok)
 have k:=yc [_,_,_] _ d
 refine fK d 16 ?_
 refine cl (aeg ab tb t u (ye k 0 rfl) C p i hp E) ?_
 rintro _ y ⟨rfl,l,L,J,ht⟩
 have m:=(yi k ht)
 refine fK m 10 ?_
 refine iQ (f:=(fun _=>0)) (cf:=gQ) 1 m (fun z o=>?_)
 refine fP o 8 ?_
 refine gf (v:=Zc) results131 rfl ?_
 have D:=C.del hi I a L J t.iv t.cv (is2:=fO t.ids i (fun _=>0)) rfl
 rw[F]at D
 exact⟨⟨t.iv,t.cv,c,fO t.ids i (fun _=>0),l⟩,rfl,⟨D.2,a.n,a.used,a.pos,C.Wm hi a rfl (by rw[F];exact D.2)⟩,ym (yn (p:=(⟨t.iv,t.cv,c,fO t.ids i (fun _=>0),l⟩:TW).ok) (yc [_,_,_,_] _ o) D.1) zd⟩
theorem VB(hv:gY 1 gQ (fun _=>True) w v xs)(m:xs.length<=1000000) :
 CR ya 278 #[v] w (fun r w' => qy 1 gQ w w' r 39 xs/\gx [] w w'):=by
 refine en func278 ntmps278 ?_
 have l:=yu w
 refine fR l 9 ?_
 refine CC (v:=v) rfl rfl rfl yw hv (gF l 2 ?_)
 cases e:(wM v:Bool)
 . skip
   refine fR l 5 ?_
   refine jW (vs:=[]) (cs:=[]) rfl rfl yw iX rfl (by intro v hv;simp at hv) rfl rfl rfl l ?_
   intro f g h i c
   have d:=c
   refine fK c 1 ?_
   refine lR (cf:=gQ) (ys:=[]) (zs:=xs) (LL:=fun a=>[fL gQ a 39 1 xs]) 0 rfl rfl rfl yw iX rfl d_ d rfl (gY.src (yz d s_ d_ hv) f_) (xY f_ _) (by simp only[zk];omega) (by simp only[zk];omega) f_ (fun a j b k=>fP b 4 ?_)
   refine gf (v:=a) results278 rfl ?_
   exact⟨DE b s_,b.gA s_⟩
 . skip
   refine iT l 8 ?_
   refine gf (v:=Zi) results278 rfl ?_
   obtain rfl:=C1 e hv
   exact⟨qy.C0, l.gA s_⟩
theorem IS(xs:List Nat)(w:World)(hv:gY 1 fU (fun _=>True) w v xs)(m:xs.length<=1000000) :
 CR ya 82 #[v] w (fun r w' => qy 1 fU w w' r 3 xs/\gx [] w w'):=by
 refine en func82 ntmps82 ?_
 have l:=yu w
 refine fR l 9 ?_
 refine CC (v:=v) rfl rfl rfl yd hv (gF l 2 ?_)
 cases e:(wM v:Bool)
 . skip
   refine fR l 5 ?_
   refine jW (vs:=[]) (cs:=[]) rfl rfl yd gq rfl (by intro v hv;simp at hv) rfl rfl rfl l ?_
   intro f g h i c
   have d:=c
   refine fK c 1 ?_
   refine lR (cf:=fU) (ys:=[]) (zs:=xs) (LL:=fun a=>[fL fU a 3 1 xs]) 0 rfl rfl rfl yd gq rfl d_ d rfl (gY.src (yz d s_ d_ hv) f_) (xY f_ _) (by simp only[zk];omega) (by simp only[zk];omega) f_ (fun a j b k=>fP b 4 ?_)
   refine gf (v:=a) results82 rfl ?_
   exact⟨DE b s_,b.gA s_⟩
 . skip
   refine iT l 8 ?_
   refine gf (v:=Zi) results82 rfl ?_
   obtain rfl:=C1 e hv
   exact⟨qy.C0, l.gA s_⟩
theorem aeh(t:TW)(w:World)(F:Own (TW.R ab tb t) w) :
 CR ya 205 (Zh ab) w (fun r w' => ∃ (O P:Nat) (t2:TW),r = .pointer (some ⟨O,0,none⟩)/\((∀ x,t2.mem x↔t.mem x)/\t2.A.n=t.A.n/\t2.A.used=t.A.used)/\fV (TW.R ab tb t) w w' (gh [(TW.R ab tb t),(TW.R O P t2)])):=by
 have X:t.cs.length=t.n:=rfl
 have Y:=F.fact.top
 have W:t.ids.length=t.w.A.begun:=F.fact.uc
 have V:t.w.A.begun<=t.w.A.n:=F.fact.pI
 have U:t.w.A.n<=65536:=F.fact.an
 refine en func205 ntmps205 ?_
 have N:=Own.of F.un
 have K:t.ok:=F.fact
 have j:=yc [_,_,_] _ N
 refine fR N 9 ?_
 refine cl (w6 ab tb t w (ye j 0 rfl) K) ?_
 rintro _ D ⟨rfl,ht⟩
 have k:=(yi j ht)
 refine gF k 7 ?_
 refine kq mixed [([0,1,2,3,5,6,7,8,10,11,12,13,4],[8,13]),([9],[13])] [14,15,16,17] k (fun o e=>jx ?_)
 refine fK e 12 ?_
 refine cl (Tx tb t.w o (ye e 3 rfl)) ?_
 rintro _ q ⟨c,d,rfl,s,ht⟩
 have u:=yf [3,0,1,2] e
 have f:=yy (yh 0 u ht)
 refine fP f 1 ?_
 refine jZ (jx ?_)
 refine cl (VB t.iv t.ids q (iN f 3 rfl).any (by first|omega|(simp;omega))) ?_
 rintro a l J
 have g:St _ [fL gQ a 39 1 t.ids,(AW.R tb t.w),(AW.R c d),blk ab 302 (pH ab tb t),fL gQ t.iv 39 1 t.ids,fL fU t.cv 3 1 t.cs] l:=zR f J.2 J.1
 refine fP g 1 ?_
 refine jZ (kE ?_)
 refine cl (IS t.cv t.cs l (iN g 5 rfl).any (by first|omega|(simp;omega))) ?_
 rintro b y J
 have h:St _ [fL fU b 3 1 t.cs,fL gQ a 39 1 t.ids,(AW.R tb t.w),(AW.R c d),blk ab 302 (pH ab tb t),fL gQ t.iv 39 1 t.ids,fL fU t.cv 3 1 t.cs] y:=zR g J.2 J.1
 refine iU (pvs:=[(1,(Zb c)),(2,a),(3,b)]) (v:=.agg #[Zp,(Zb c),a,b]) rfl rfl (jj [(1,(Zf c)),(2,[a]),(3,[b])] GM QU rfl ⟨rfl,rfl,rfl,(cells_one (yv h (i:=1) rfl)),rfl,(cells_one (yv h (i:=0) rfl)),trivial⟩ rfl) (ir h (fun m E G H z=>?_))
 refine jH z 19 fun I B=>?_
 refine gf (v:=(Zb m)) results205 rfl ?_
 have C:=yf [5,6,7,3,0,2,1,4] B
 obtain⟨Z,L⟩:=s
 have M:=K.copy L a b
 have T:=yn (p:=t.ok) (yc [_,_,_,_] _ C) K
 have Q:=yn (p:=(⟨a,b,d,t.ids,t.cs⟩:TW).ok) (yc [_,_,_,_] _ (mP T (qM (l₁:=[_]) (l₂:=[_,_,_,_]) |>.append_right _))) M.1
 have S:=mP Q (List.Perm.swap _ _ _)
 exact⟨m,c,⟨a,b,d,t.ids,t.cs⟩,rfl,⟨M.2,by rw[show TW.A ⟨a,b,d,t.ids,t.cs⟩=_ from L],by rw[show TW.A ⟨a,b,d,t.ids,t.cs⟩=_ from L]⟩,yj (yc [_,_] _ S)⟩
theorem aeK(m:Nat)(w:World)(hm:m<=65536) :
 CR ya 219 (Z2 ((m:Nat):Int)) w (fun r w' => ∃ (tb ab:Nat) (t:TW),r = .tuple (Zz tb)/\((∀ x,¬ t.mem x)/\t.A.n=m/\t.A.used=0)/\fV (gh []) w w' (TW.R tb ab t)):=by
 refine en func219 ntmps219 ?_
 have N:=yu w
 refine fR N 9 ?_
 refine cl (TE m w hm) ?_
 rintro _ z ⟨b,d,rfl,g,ht⟩
 have h:=(jm N ht)
 refine gF h 24 ?_
 refine lp (α:=Nat) (fun k=>[(0,(Za ((m:Nat):Int))),(2,Zp),(3,Zc),(4,(Zb b)),(5,Zc),(6,(Za ((k:Nat):Int)))]) (fun k w1=>St [(w,[])] [(AW.R b d)] w1/\P2 k/\2<=k/\(k=2\/k<4*m)) (fun k=>4*m-k) 2 ⟨rfl,rfl,rfl,rfl,rfl,gm rO,trivial⟩ (⟨h,P2.two,o_,.inl rfl⟩) ?_
 rintro k B C ⟨F,L,O,P⟩
 have Q:k<=262144:=by omega
 refine fR F 6 ?_
 by_cases D:((k:Nat):Int)<(2*((m:Nat):Int):Int)
 . refine fK F 9 ?_
   refine ar (e:=((k*2:Nat):Int)) rfl rfl rfl rfl je (fP F 3 ?_)
   refine tN (?_)
   exact again (k*2) ⟨rfl,rfl,rfl,rfl,rfl,gm rO,trivial⟩ (⟨F,L.Wk o_,o_,o_⟩) o_
 . refine fK F 13 ?_
   refine lN (cf:=fU) (z0:=0) (m:=k) (c:=k) rfl rfl rfl yd gq rfl f_ d_ (zm _) o_ o_ F (fun a E G H j=>iU (pvs:=[(1,(Zb b)),(3,(Zd a k))]) (v:=.agg #[Zp,(Zb b),Zi,(Zd a k)]) rfl rfl (jj [(1,(Zf b)),(3,(Z5 a k))] GM QU rfl ⟨rfl,rfl,rfl,rfl,trivial⟩ rfl) (ir j (fun f I J K l=>?_)))
   refine jH l 20 fun o q=>?_
   refine gZ (v:=(Zb f)) (v' := Zc) results219 rfl rfl ?_
   have s:=lZ (cf:=fU) q (i:=1) rfl f_ (zm _) (by simp only[maxLen];omega)
   have u:St _ [fL gQ Zi 39 1 ([]),blk f 302 [(Zb f),(Zb b),Zi,(Zd a k)],fL fU (Zd a k) 3 1 (List.replicate k 0),(AW.R b d)] o:=qJ s 39 1
   have y:=yf [1,0,2,3] u
   have M:=TW.uk g hm L O o_ o_ Zi (Zd a k)
   exact⟨f,b,⟨.slice none 0 0,(Zd a k),d,[],List.replicate k 0⟩,rfl,⟨M.2,by rw[show TW.A ⟨.slice none 0 0,(Zd a k),d,[],List.replicate k 0⟩=_ from g];rfl,by rw[show TW.A ⟨.slice none 0 0,(Zd a k),d,[],List.replicate k 0⟩=_ from g];rfl⟩,uE (yn (p:=(⟨.slice none 0 0,(Zd a k),d,[],List.replicate k 0⟩:TW).ok) (yc [_,_,_,_] _ y) M.1) s_⟩
theorem PM(y:Int)(w:World) :
 CR ya 187 (uS x y) w (fun r w' => r = .bool (decide (x<y))/\gx [] w w'):=by
 refine en func187 ntmps187 ?_
 have e:=yu w
 refine fR e 8 ?_
 refine cl (aau x w) ?_
 rintro _ c ⟨rfl,b⟩
 have a:=yr e b
 refine fK a 8 ?_
 by_cases d:(x:Int)<(y:Int)
 . refine fP a 6 ?_
   refine gf (v:=Zg) results187 rfl ?_
   exact⟨congrArg Value.bool (decide_eq_true o_).symm,a.gA s_⟩
 . refine fP a 6 ?_
   refine gf (v:=Zn) results187 rfl ?_
   exact⟨congrArg Value.bool (decide_eq_false o_).symm,a.gA s_⟩
theorem X6(J:Own (Z8 v xs) w)(M:xs.length<=1000000) :
 CR ya 345 #[v,Zc,(Za xs.length)] w (fun r w' => ∃ ys:List Int,r = .tuple #[]/\(ys.Perm xs/\qS ys ys.length)/\fV (Z8 v xs) w w' (Z8 v ys)):=by
 refine en func345 ntmps345 ?_
 have H:=yt J
 refine rm H 8 ?_
 refine lp (α:=Nat×List Int) (fun(i,ys)=>[(0,v),(1,Zc),(2,(Za xs.length)),(6,(Za i))]) (fun(i,ys) w1=>St [(w,(Z8 v xs).gJ)] [fL gQ v 39 1 ys] w1/\ys.Perm xs/\qS ys i/\1<=i) (fun(i,ys)=>xs.length+1-i) (1,xs) ⟨rfl,rfl,rfl,gm rO,trivial⟩ (⟨H,List.Perm.refl _,qS.zero,o_⟩) ?_
 rintro⟨i,ys⟩ m n ⟨B,E,F,hi⟩
 have N:=E.length_eq
 refine fR B 5 ?_
 by_cases o:(i:Int)<(xs.length:Int)
 . refine gF B 15 ?_
   refine lp (α:=Nat×List Int) (fun(j,zs)=>[(0,v),(1,Zc),(2,(Za xs.length)),(6,(Za i)),(7,(Za j))]) (fun(j,zs) w1=>St [(w,(Z8 v xs).gJ)] [fL gQ v 39 1 zs] w1/\zs.Perm xs/\uO zs i j/\j<=i) (fun(j,zs)=>j) (i,ys) ⟨rfl,rfl,rfl,rfl,gm rO,trivial⟩ (⟨B,E,F.at,o_⟩) ?_
   rintro⟨j,zs⟩ s t ⟨K,D,C,G⟩
   have O:=D.length_eq
   refine ry K 5 fun h a=>?_
   by_cases u:(j:Int)>0
   . refine fK a 9 ?_
     refine iY (cf:=gQ) (k:=(j-1)) (i:=(j:Int)-1) rfl rfl rfl yw iX (iN a 0 rfl) o_ o_ (gz om) (fK a 1 ?_)
     refine cl (PM (fJ zs j) (fJ zs (j-1)) h) ?_
     rintro _ x ⟨rfl,l⟩
     have b:=yr a l
     refine gF b 3 ?_
     cases d:(decide ((fJ zs j)<(fJ zs (j-1))):Bool)
     . skip
       refine iT b 12 ?_
       refine tN (?_)
       exact again ((i+1),zs) ⟨rfl,rfl,rfl,gm rO,trivial⟩ (⟨b,D,C.done o_ G (of_decide_eq_false d),o_⟩) (by show (xs.length+1-(i+1):Nat)<xs.length+1-i;omega)
     . skip
       refine ry b 14 fun y c=>?_
       refine iY (cf:=gQ) (k:=(j-1)) (i:=(j:Int)-1) rfl rfl rfl yw iX (iN c 0 rfl) o_ o_ (gz om) (fK c 6 ?_)
       refine iQ (f:=(fun _=>(fJ zs (j-1)))) 0 c (fun z e=>?_)
       refine iY (cf:=gQ) (k:=(j-1)) (i:=(j:Int)-1) rfl rfl rfl yw iX (iN e 0 rfl) o_ o_ (gz om) (iQ (f:=(fun _=>(fJ zs j))) 0 e (fun A g=>?_))
       refine fP g 8 ?_
       refine tN (?_)
       exact again ((j-1),fO (fO zs j (fun _=>(fJ zs (j-1)))) (j-1) (fun _=>(fJ zs j))) ⟨rfl,rfl,rfl,rfl,gm rO,trivial⟩ (⟨g,(ad7 o_ o_).trans D,C.swap o_ G o_ (of_decide_eq_true d),o_⟩) (by show ((j-1):Nat)<j;omega)
   . refine fP a 27 ?_
     refine tN (?_)
     exact again ((i+1),zs) ⟨rfl,rfl,rfl,gm rO,trivial⟩ (⟨a,D,(by rw[show j=0 by omega]at C;exact C.Wt),o_⟩) (by show (xs.length+1-(i+1):Nat)<xs.length+1-i;omega)
 . refine fP B 8 ?_
   refine jc results345 ?_
   exact⟨ys,rfl,⟨E,fun p q I L=>F p q I o_⟩,yj B⟩
theorem UZ(n:Nat)(w:World)(h:n<=12) :
 CR ya 163 (xE n) w (fun r w' => ∃ z,r = .int .i64 z/\gx [] w w'):=by
 refine en func163 ntmps163 ?_
 have c:=yu w
 refine fR c 9 ?_
 refine cmp rfl rfl rfl (oS o_) (fK c 9 ?_)
 refine cmp rfl rfl rfl (oS o_) (fK c 9 ?_)
 refine cmp rfl rfl rfl (oS o_) (fK c 10 ?_)
 refine XS 256 rfl rfl rfl underlying9 rfl o_ o_ fun a b=>(fP c 6 ?_)
 refine gf (v:=(Za (0+(a.toNat:Int)))) results163 rfl ?_
 exact⟨0+(a.toNat:Int),rfl,c.gA s_⟩
theorem NM(n:Nat)(w:World)(h:n<=12) :
 CR ya 92 (xE n) w (fun r w' => ∃ z,r = .int .i64 z/\gx [] w w'):=by
 refine en func92 ntmps92 ?_
 have e:=yu w
 refine fR e 12 ?_
 refine cl (UZ n w o_) ?_
 rintro _ d ⟨a,rfl,c⟩
 have b:=yr e c
 refine fP b 4 ?_
 refine gf (v:=(Za a)) results92 rfl ?_
 exact⟨a,rfl,b.gA s_⟩
theorem abd(i:Own (Z8 v xs) w)(z:Int)(j:xs.length<=12) :
 CR ya 328 #[v,Zc,(Za xs.length),(Za z)] w (fun r w' => ∃ ys:List Int,r = .tuple #[]/\(ys.Perm xs/\qS ys ys.length)/\fV (Z8 v xs) w w' (Z8 v ys)):=by
 refine en func328 ntmps328 ?_
 have h:=yt i
 refine rm h 11 ?_
 refine lp (α:=Nat) (fun k=>[(0,v),(1,Zc),(2,(Za xs.length)),(3,(Za z)),(8,Zg),(9,Zg)]) (fun k w1=>St [(w,(Z8 v xs).gJ)] [fL gQ v 39 1 xs] w1) (fun k=>0) 0 ⟨rfl,rfl,rfl,rfl,rfl,rfl,trivial⟩ h ?_
 rintro k e b g
 refine fR g 13 ?_
 refine cmp rfl rfl rfl (xO o_) (fK g 8 ?_)
 refine cl (X6 v xs b (ye g 0 rfl) o_) ?_
 rintro _ f ⟨c,rfl,d,ht⟩
 have a:=yh 0 g ht
 refine fP a 7 ?_
 refine Bm results328 ?_
 exact⟨c,rfl,d,yj a⟩
theorem adE(j:Own (Z8 v xs) w)(k:xs.length<=12) :
 CR ya 289 #[v] w (fun r w' => ∃ ys:List Int,r = .tuple #[]/\(ys.Perm xs/\qS ys ys.length)/\fV (Z8 v xs) w w' (Z8 v ys)):=by
 refine en func289 ntmps289 ?_
 have i:=yt j
 refine fR i 3 ?_
 refine iV (m:=xs.length) 0 rfl rfl yw i rfl (fK i 8 ?_)
 refine cl (NM xs.length w o_) ?_
 rintro _ c ⟨d,rfl,e⟩
 have a:=yr i e
 refine cl (abd v xs c (ye a 0 rfl) d k) ?_
 rintro _ h ⟨f,rfl,g,ht⟩
 have b:=yh 0 a ht
 refine fP b 1 ?_
 refine jc results289 ?_
 exact⟨f,rfl,g,yj b⟩
theorem aav :
 CR ya 188 (xE x) w (fun r w' => r = .bool false/\gx [] w w'):=by
 refine en func188 ntmps188 ?_
 have a:=yu w
 refine iT a 14 ?_
 refine gf (v:=Zn) results188 rfl ?_
 exact⟨rfl,a.gA s_⟩
theorem U2(hv:gY 1 gQ (fun _=>True) w v xs)(hs:xs.Pairwise fun a b=>a<b)(F:xs.length<=1000000) :
 CR ya 112 #[v,(Zl x)] w (fun r w' => ∃ b:Bool,r = .tuple (Z9 (gP xs x:Int) b)/\gx [] w w'):=by
 refine en func112 ntmps112 ?_
 have C:=yu w
 refine fR C 9 ?_
 refine jY (v:=v) rfl rfl yw hv (gF C 12 ?_)
 refine lp (α:=Nat×Nat) (fun(i,j)=>[(0,v),(1,(Zl x)),(6,(Za xs.length)),(7,(Za i)),(8,(Za j))]) (fun(i,j) w1=>St [(w,[])] [] w1/\pq xs x i j/\i<=j/\j<=xs.length) (fun(i,j)=>j-i) (0,xs.length) ⟨rfl,rfl,rfl,gm rO,gm rO,trivial⟩ (⟨C,pq.start,o_,o_⟩) ?_
 rintro⟨i,j⟩ o d ⟨z,A,D,E⟩
 refine fR z 5 ?_
 by_cases p:(i:Int)<(j:Int)
 . refine fK z 13 ?_
   refine shr (a:=(i:Int)+(j:Int)) (b:=1) (e:=(((i+j) / 2:Nat):Int)) rfl rfl rfl d_ (W8 (i+j) 1 64 d_) ?_
   obtain⟨f,g⟩:=oW (show ((i+j) / 2)<xs.length by omega)
   refine fK z 11 ?_
   refine cl (PM f x d) ?_
   rintro _ q ⟨rfl,m⟩
   have c:=yr z m
   refine gF c 2 ?_
   cases h:(decide (f<x):Bool)
   . skip
     refine iT c 6 ?_
     refine tN (?_)
     exact again (i,((i+j) / 2)) ⟨rfl,rfl,rfl,rfl,gm rO,trivial⟩ (⟨c,A.down hs (by rw[iS g];exact of_decide_eq_false h),o_,o_⟩) (by show (((i+j) / 2)-i:Nat)<j-i;omega)
   . skip
     refine iT c 7 ?_
     refine tN (?_)
     exact again (((i+j) / 2+1),j) ⟨rfl,rfl,rfl,gm rO,rfl,trivial⟩ (⟨c,A.up hs o_ (by rw[iS g];exact of_decide_eq_true h),o_,o_⟩) (by show (j-((i+j) / 2+1):Nat)<j-i;omega)
 . refine fK z 14 ?_
   by_cases s:(i:Int)<(xs.length:Int)
   . obtain⟨k,t⟩:=oW (show i<xs.length by omega)
     refine fK z 7 ?_
     by_cases u:(k:Int)=(x:Int)
     . refine fP z 18 ?_
       refine gZ (v:=(Za i)) (v' := Zg) results112 rfl rfl ?_
       have B:i=gP xs x:=pq.gP (by rw[show j=i by omega]at A;exact A) o_
       exact⟨true,by rw[B],z.gA s_⟩
     . refine fK z 6 ?_
       refine cl (aav k d) ?_
       rintro _ y ⟨rfl,n⟩
       have l:=yr z n
       refine fP l 11 ?_
       refine gZ (v:=(Za i)) (v' := Zn) results112 rfl rfl ?_
       have B:i=gP xs x:=pq.gP (by rw[show j=i by omega]at A;exact A) o_
       exact⟨false,by rw[B],l.gA s_⟩
   . refine fP z 25 ?_
     refine gZ (v:=(Za i)) (v' := Zn) results112 rfl rfl ?_
     have B:i=gP xs x:=pq.gP (by rw[show j=i by omega]at A;exact A) o_
     exact⟨false,by rw[B],z.gA s_⟩
def fW.R(fN fM ub:Nat)(s:fW):fT:=lq (s.ok fN fM) (gh [blk ub 174 (pY fN fM s (some s.mb)),fL Lv.cells s.lv 43 7 s.live,ia s.mb .u64 p_ s.im,jF 3 s.im,(AW.R s.jg s.aw),(TW.R s.tb s.ab s.t)])
abbrev HO(a b c:Nat) d e f:=(gh [fW.R a b c d,fL Lv.cells e 43 7 f]:fT)
theorem xd(d:Own (fW.R ab tb fN s) w) :
 CR ya 83 (Zh fN) w (fun r w' => r = .bool true/\fV (fW.R ab tb fN s) w w' (fW.R ab tb fN s)):=by
 refine en func83 ntmps83 ?_
 have b:=Own.of d.un
 have e:s.ok ab tb:=d.fact
 refine fR b 8 ?_
 refine lI (a:=some ⟨fN,0,none⟩) (c:=true) rfl rfl rfl underlying114 rfl (fK b 5 ?_)
 refine Qk (a:=some s.mb) (c:=true) rfl rfl rfl y0 rfl (fP b 5 ?_)
 refine gf (v:=Zg) results83 rfl ?_
 exact⟨rfl,ym (yn (p:=fW.ok ab tb s) (yc [_,_,_,_,_,_] _ b) e) zd⟩
theorem GX(ub fM fN:Nat)(s:fW)(w:World)(k:Own (fW.R ub fM fN s) w)(id:Int) :
 CR ya 140 (Z7 fN id) w (fun r w' => ∃ (z:Nat) (b:Bool),r = .tuple (Z9 z b)/\s.t.mR id z b/\fV (fW.R ub fM fN s) w w' (fW.R ub fM fN s)):=by
 refine en func140 ntmps140 ?_
 have m:=Own.of k.un
 have l:s.ok ub fM:=k.fact
 have c:=yn (p:=s.ok ub fM) (yc [_,_,_,_,_,_] _ m) l
 refine fR m 10 ?_
 refine cl (xd ub fM fN s w (ye c 0 rfl)) ?_
 rintro _ g ⟨rfl,ht⟩
 have h:=yh 0 c ht
 have a:=(jM h).unpack
 refine fK a 13 ?_
 refine cl (GD s.tb s.ab s.t g (ye a 5 rfl) id) ?_
 rintro _ j ⟨d,e,rfl,i,ht⟩
 have f:=yh 5 a ht
 refine fP f 7 ?_
 refine gZ (v:=(Za d)) (v' := (.bool e)) results140 rfl rfl ?_
 exact⟨d,e,rfl,i,ym (yn (p:=fW.ok ub fM s) (yc [_,_,_,_,_,_] _ f) l) zd⟩
theorem LO(ub fM fN:Nat)(s:fW)(w:World)(hO:Own (fW.R ub fM fN s) w)(x:Lv) :
 CR ya 134 (xF fN x) w (fun r w' => r = .int .i64 (s.gN ub fM x.u x.v)/\fV (fW.R ub fM fN s) w w' (fW.R ub fM fN s)):=by
 have ak:s.t.A.used<=s.t.A.n:=hO.fact.tok.ul
 have ah:=hO.fact.n
 have ai:=hO.fact.tn
 have ag:=hO.fact.en
 have aj:=hO.fact.vn
 have af:s.A.used<=s.A.begun:=by have h7:=hO.fact.kV.used;omega
 have ae:=hO.fact.kV.le
 refine en func134 ntmps134 ?_
 have ad:=Own.of hO.un
 have hU:s.ok ub fM:=hO.fact
 refine fR ad 2 ?_
 refine ir ad (fun L B M N l=>?_)
 have C:=yf [1,2,3,4,5,6,0] l
 have m:=yn (p:=s.ok ub fM) (yc [_,_,_,_,_,_] _ C) hU
 refine fK l 7 ?_
 refine cl (xd ub fM fN s B (ye m 0 rfl)) ?_
 rintro _ O ⟨rfl,ht⟩
 have D:=yh 0 m ht
 have g:=(jM D).unpack
 refine fK g 13 ?_
 by_cases P:(x.u:Int)=(x.v:Int)
 . refine fP g 11 ?_
   refine gf (v:=AA) uD rfl ?_
   exact⟨gm (fW.N5 o_).symm,ym (yn (p:=fW.ok ub fM s) (yc [_,_,_,_,_,_] _ g) hU) zd⟩
 . refine gF g 8 ?_
   refine kq mixed [([0,1,2,3,5,6,7,8,4],[8])] [9] g (fun E k=>jx ?_)
   refine fK k 8 ?_
   refine cl (G1 s.jg s.aw E (ye k 4 rfl)) ?_
   rintro _ G ⟨rfl,ht⟩
   have e:=yh 4 k ht
   refine fP e 1 ?_
   refine jZ (kE ?_)
   by_cases Q:(s.A.used:Int)≥(fM:Int)
   . refine fP e 11 ?_
     refine gf (v:=(.int .i64 12)) uD rfl ?_
     exact⟨gm (fW.N4 o_ o_).symm,ym (yn (p:=fW.ok ub fM s) (yc [_,_,_,_,_,_] _ e) hU) zd⟩
   . refine fK e 12 ?_
     refine cl (S9 s.tb s.ab s.t G (ye e 5 rfl)) ?_
     rintro _ H ⟨rfl,ht⟩
     have f:=yh 5 e ht
     refine fK f 10 ?_
     refine iU (pvs:=[(0,(Zl x.u)),(1,(Zl x.v))]) (v:=.agg (uS x.u x.v)) rfl rfl (tY [(0,(Zt x.u)),(1,(Zt x.v))] uA y8 iX rfl ⟨rfl,rfl,rfl,rfl,trivial⟩ rfl s_) (gF f 4 ?_)
     refine qq 3 (iB (fR f 13 ?_))
     refine mw (i:=0) rfl rfl rfl y8 yo rfl iX d_ rfl (fK f 10 ?_)
     refine cl (GD s.tb s.ab s.t H (ye f 5 rfl) x.u) ?_
     rintro _ o ⟨S,I,rfl,d,ht⟩
     have c:=yh 5 f ht
     refine gF c 13 ?_
     cases q:(I:Bool)
     . skip
       subst q
       refine iT c 12 ?_
       refine tN (?_)
       refine iB (fR c 13 ?_)
       refine mw (i:=1) rfl rfl rfl y8 yo rfl iX d_ rfl (fK c 10 ?_)
       refine cl (GD s.tb s.ab s.t o (ye c 5 rfl) x.v) ?_
       rintro _ U ⟨V,J,rfl,h,ht⟩
       have a:=yh 5 c ht
       refine gF a 13 ?_
       cases y:(J:Bool)
       . skip
         subst y
         refine iT a 12 ?_
         refine tN (?_)
         refine iB (fR a 20 ?_)
         by_cases W:(((s.t.A.used:Int)+1)+1:Int)>(ub:Int)
         . refine fP a 11 ?_
           refine gf (v:=(.int .i64 11)) uD rfl ?_
           have F:=d.cnt
           simp at F
           have T:=h.cnt
           simp at T
           exact⟨gm (fW.CA o_ o_ o_).symm,ym (yn (p:=fW.ok ub fM s) (yc [_,_,_,_,_,_] _ a) hU) zd⟩
         . refine fP a 12 ?_
           refine gf (v:=Zc) uD rfl ?_
           have F:=d.cnt
           simp at F
           have T:=h.cnt
           simp at T
           exact⟨gm (fW.AJ o_ o_ o_).symm,ym (yn (p:=fW.ok ub fM s) (yc [_,_,_,_,_,_] _ a) hU) zd⟩
       . skip
         subst y
         refine iT a 8 ?_
         refine tN (?_)
         refine iB (fR a 20 ?_)
         by_cases X:((s.t.A.used:Int)+1:Int)>(ub:Int)
         . refine fP a 11 ?_
           refine gf (v:=(.int .i64 11)) uD rfl ?_
           have F:=d.cnt
           simp at F
           have T:=h.cnt
           simp at T
           exact⟨gm (fW.CA o_ o_ o_).symm,ym (yn (p:=fW.ok ub fM s) (yc [_,_,_,_,_,_] _ a) hU) zd⟩
         . refine fP a 12 ?_
           refine gf (v:=Zc) uD rfl ?_
           have F:=d.cnt
           simp at F
           have T:=h.cnt
           simp at T
           exact⟨gm (fW.AJ o_ o_ o_).symm,ym (yn (p:=fW.ok ub fM s) (yc [_,_,_,_,_,_] _ a) hU) zd⟩
     . skip
       subst q
       refine iT c 8 ?_
       refine tN (?_)
       refine iB (fR c 13 ?_)
       refine mw (i:=1) rfl rfl rfl y8 yo rfl iX d_ rfl (fK c 10 ?_)
       refine cl (GD s.tb s.ab s.t o (ye c 5 rfl) x.v) ?_
       rintro _ Y ⟨Z,K,rfl,j,ht⟩
       have b:=yh 5 c ht
       refine gF b 13 ?_
       cases z:(K:Bool)
       . skip
         subst z
         refine iT b 12 ?_
         refine tN (?_)
         refine iB (fR b 20 ?_)
         by_cases aa:((s.t.A.used:Int)+1:Int)>(ub:Int)
         . refine fP b 11 ?_
           refine gf (v:=(.int .i64 11)) uD rfl ?_
           have F:=d.cnt
           simp at F
           have T:=j.cnt
           simp at T
           exact⟨gm (fW.CA o_ o_ o_).symm,ym (yn (p:=fW.ok ub fM s) (yc [_,_,_,_,_,_] _ b) hU) zd⟩
         . refine fP b 12 ?_
           refine gf (v:=Zc) uD rfl ?_
           have F:=d.cnt
           simp at F
           have T:=j.cnt
           simp at T
           exact⟨gm (fW.AJ o_ o_ o_).symm,ym (yn (p:=fW.ok ub fM s) (yc [_,_,_,_,_,_] _ b) hU) zd⟩
       . skip
         subst z
         refine iT b 8 ?_
         refine tN (?_)
         refine iB (fR b 20 ?_)
         by_cases ac:(s.t.A.used:Int)>(ub:Int)
         . refine fP b 11 ?_
           refine gf (v:=(.int .i64 11)) uD rfl ?_
           have F:=d.cnt
           simp at F
           have T:=j.cnt
           simp at T
           exact⟨gm (fW.CA o_ o_ o_).symm,ym (yn (p:=fW.ok ub fM s) (yc [_,_,_,_,_,_] _ b) hU) zd⟩
         . refine fP b 12 ?_
           refine gf (v:=Zc) uD rfl ?_
           have F:=d.cnt
           simp at F
           have T:=j.cnt
           simp at T
           exact⟨gm (fW.AJ o_ o_ o_).symm,ym (yn (p:=fW.ok ub fM s) (yc [_,_,_,_,_,_] _ b) hU) zd⟩
theorem ae0(a:Own (fW.R ab tb fN s) w)(x:Lv)(hc:s.gN ab tb x.u x.v=0) :
 CR ya 134 (xF fN x) w (fun r w' => r = .int .i64 0/\fV (fW.R ab tb fN s) w w' (fW.R ab tb fN s)):=by
 have h:=LO ab tb fN s w a x
 rw[hc]at h
 exact h
theorem GS(t:TW)(w:World)(e:Own (TW.R ab tb t) w)(id:Int)(m:t.mem id\/t.A.used<t.A.n)(l:gU .u64 id) :
 CR ya 210 (Z7 ab id) w (fun r w' => ∃ (z:Nat) (b:Bool) (t2:TW),r = .tuple #[.int .i64 (z:Int),.bool b,.int .i64 0]/\TW.Af t t2 id/\TW.Kp t t2/\fV (TW.R ab tb t) w w' (TW.R ab tb t2)):=by
 by_cases hm:t.mem id
 . obtain⟨i,hi,d⟩:=hm
   exact CR.mono (aeO ab tb t w e id i hi d) fun r w' ⟨a,c⟩=>⟨i,false,t,a,⟨fun x=>⟨.inl,fun h=>h.elim (fun h=>h) (fun h=>h▸⟨i,hi,d⟩)⟩,rfl,by rw[TW.AK ⟨i,hi,d⟩];rfl⟩,TW.Kp.refl _,c⟩
 . exact CR.mono (aeN ab tb t w e id hm l (m.resolve_left hm)) fun r w' ⟨i,t2,a,⟨c,f,g,k⟩,j⟩=>⟨i,true,t2,a,⟨c,f,by rw[TW.tZ hm];exact g⟩,k,j⟩
theorem ae6(ub fM fN:Nat)(s:fW)(w:World)(hO:Own (fW.R ub fM fN s) w)(x:Lv)(T:x.ok)(hc:s.gN ub fM x.u x.v=0)(cz:s.last<=9000000000000000000) :
 CR ya 139 #[(Zb fN),(MV x),(Za x.exp)] w (fun r w' => ∃ (i:Nat) (s2:fW),r = .tuple #[(Ii i (s.last+1) x),.int .i64 0]/\((∀ y,s2.has y↔s.has y\/y=⟨(i:Int),s.last+1,x.u,x.v,x.wt,x.t,x.exp⟩)/\s2.last=s.last+1/\TW.Kp s.t s2.t)/\fV (fW.R ub fM fN s) w w' (fW.R ub fM fN s2)):=by
 have cC:s.t.A.used<=s.t.A.n:=hO.fact.tok.ul
 have ct:=hO.fact.n
 have cu:=hO.fact.tn
 have cr:=hO.fact.en
 have cv:=hO.fact.vn
 have cn:s.A.used<=s.A.begun:=by have h7:=hO.fact.kV.used;omega
 have cm:=hO.fact.kV.le
 have co:s.aw.A.used=s.A.used:=rfl
 have cp:s.aw.A.n=s.A.n:=rfl
 have cq:s.aw.A.begun=s.A.begun:=rfl
 have cA:(s.live++[(⟨0,0,0,0,0,0,0⟩:Lv)]).length=s.live.length+1:=by simp
 have bk:=fW.E5 hc
 have cy:=hO.fact.tB
 have cB:=hO.fact.ll
 have F:∀ id,(fS s.im id).2.length<=65536:=fun id=>hO.fact.Jv id
 refine en func139 ntmps139 ?_
 have cg:=Own.of hO.un
 have hU:s.ok ub fM:=hO.fact
 refine fR cg 2 ?_
 refine ir cg (fun j bd be bf aI=>?_)
 refine iR aI (fun l aJ bg bh aq=>?_)
 have aK:=yf [2,3,4,5,6,7,0,1] aq
 have ar:=yn (p:=s.ok ub fM) (yc [_,_,_,_,_,_] _ aK) hU
 refine fK aq 8 ?_
 refine cl (ae0 ub fM fN s aJ (ye ar 0 rfl) x hc) ?_
 rintro _ aL ⟨rfl,ht⟩
 have aM:=yh 0 ar ht
 have ad:=(jM aM).unpack
 refine fK ad 18 ?_
 refine cl (Tu s.jg s.aw aL (ye ad 4 rfl) o_) ?_
 rintro _ bi ⟨b,h,rfl,ae,ht⟩
 have au:=yh 4 ad ht
 have ce:=(y9 au (i:=4) rfl:h.A.ok)
 have cw:b<=s.live.length:=by rcases ae.pI with h9|h9<;>omega
 have cx:b<=65536:=by omega
 refine ux au 30 fun bj aN=>?_
 refine kq mixed [([0,1,2,3,4,5,6,7,8],[4,5])] [9] aN (fun bl av=>jx ?_)
 refine fK av 7 ?_
 refine iU (pvs:=[(0,(Za ((b:Nat):Int))),(1,(Zl (s.last+1))),(2,(MV x)),(3,(Za x.exp))]) (v:=.agg #[(Za ((b:Nat):Int)),(Zl (s.last+1)),(Zl x.u),(Zl x.v),(Za x.wt),(Za x.t),(Za x.exp)]) rfl rfl (jj [(0,(Ze ((b:Nat):Int))),(1,(Zt (s.last+1))),(2,(qU x)),(3,(Ze x.exp))] o8 Kt rfl ⟨rfl,rfl,rfl,rfl,rfl,rfl,rfl,rfl,trivial⟩ rfl) (iR av (fun q bm bn bo af=>?_))
 refine fP af 1 ?_
 refine pe (kZ rfl oE (kZ rfl (qo (wG (cs:=(qU x)) rfl underlying41 rfl zG rfl (mO af (i:=8) (o:=0) (vs:=(qU x)) rfl rfl)) rfl rfl) (trivial))) (kE ?_)
 refine ux af 5 fun bp H=>?_
 refine qq 3 (iB (fR H 7 ?_))
 refine iV (m:=s.live.length) 2 rfl rfl sK H rfl (fK H 1 ?_)
 by_cases bq:(s.live.length:Int)<=((b:Nat):Int)
 . refine fK H 13 ?_
   refine iU (pvs:=[]) (v:=.agg HU) rfl rfl (jj [] o8 Kt rfl trivial rfl) (jW (vs:=[(.agg HU)]) (cs:=oQ) rfl rfl sK o8 rfl (by simp[Value.cells]) rfl rfl rfl H (fun aO br bs bt ax=>lR (cf:=Lv.cells) (ys:=s.live) (zs:=[(⟨0,0,0,0,0,0,0⟩:Lv)]) (LL:=fun B=>[row (Z4 aO) 43 7 1 (oQ),blk q 43 (qT ((b:Nat):Int) (s.last+1) x),blk fN 174 (Co ub fM (s.last+1) s (some s.mb)),fL Lv.cells B 43 7 (s.live++[(⟨0,0,0,0,0,0,0⟩:Lv)]),ia s.mb .u64 p_ s.im,jF 3 s.im,(AW.R s.jg h),(xH s),blk l 43 oQ,blk j 41 (qU x)]) 3 rfl rfl rfl sK o8 rfl d_ ax rfl (lF ax (i:=0) rfl) (fun x hx=>z6.1 (show List.all _ _=true from rfl) x hx) (by simp only[zo,zh,zk,maxLen];omega) (by simp only[zo,zh,zk,maxLen];omega) f_ ?_))
   intro B bu aP bv
   have P:=yf [1,2,3,4,5,6,7,8,9] aP
   refine fK P 2 ?_
   refine jt 1 P (fun bw K=>?_) (hvs:=(cells_one (yv P (i:=2) rfl))) (h1:=(gX (yv P (i:=2) rfl) jV))
   refine fP K 2 ?_
   refine tN (?_)
   refine iB (fR K 7 ?_)
   refine iV (m:=(s.live++[(⟨0,0,0,0,0,0,0⟩:Lv)]).length) 2 rfl rfl sK K rfl (fK K 1 ?_)
   refine cmp rfl rfl rfl (NY (by simp only[zo,zh,zk];omega)) (gC K 17 fun bx aQ=>?_)
   refine iQ (f:=(fun _=>(⟨((b:Nat):Int),s.last+1,x.u,x.v,x.wt,x.t,x.exp⟩:Lv))) 2 aQ (fun aR C=>?_)
   refine fK C 6 ?_
   refine ld rfl rfl yo rfl (St.bc C 8 rfl rfl) (fK C 1 ?_)
   refine ld rfl rfl yo rfl (St.bc C 8 rfl rfl) (iU (pvs:=[(0,(Zl x.u)),(1,(Zl x.v))]) (v:=.agg (uS x.u x.v)) rfl rfl (tY [(0,(Zt x.u)),(1,(Zt x.v))] uA y8 iX rfl ⟨rfl,rfl,rfl,rfl,trivial⟩ rfl s_) (gF C 4 ?_))
   refine qq 3 (iB (fR C 13 ?_))
   refine mw (i:=0) rfl rfl rfl y8 yo rfl iX d_ rfl (fK C 10 ?_)
   refine cl (GS s.tb s.ab s.t aR (ye C 6 rfl) x.u (TW.Rt o_) T.u) ?_
   rintro _ bz ⟨bA,bB,L,rfl,Q,ch,ht⟩
   have ag:=yh 6 C ht
   have cc:=(y9 ag (i:=6) rfl:L.ok)
   refine gF ag 2 ?_
   have aS:=yf [4,0,1,2,3,5,6,7,8] ag
   have aT:=zS x.u aS
   refine kq mixed [([0,1,2,3,4,5,6,7,8,9,10,11,12],[3,8,10]),([13],[3])] [14] aT (fun bC S=>jx ?_)
   refine fK S 10 ?_
   refine qh (a:=x.u) (mm:=s.im) (enc:=p_) (k:=.u64) 5 rfl rfl rfl y0 yo kz rfl S rfl (fK S 1 ?_)
   refine jW (vs:=(Ze ((b:Nat):Int))) (cs:=(Ze ((b:Nat):Int))) rfl rfl yd gq rfl (by simp[Value.cells]) rfl rfl rfl S (fun aU bD bE bF U=>fP U 1 ?_)
   refine pe (kZ rfl oE (kZ rfl oE (kZ rfl (qo (yG (a:=x.u) (mm:=s.im) (enc:=p_) (k:=.u64) 6 rfl rfl y0 yo kz rfl U rfl) rfl rfl) (trivial)))) (jx ?_)
   refine vZ (k:=.i64) (ys:=gy (fS s.im x.u).2) (zs:=[((b:Nat):Int)]) (LL:=fun d=>[iz .i64 (Z4 aU) 3 ([((b:Nat):Int)]),iz .i64 d 3 ((gy (fS s.im x.u).2)++([((b:Nat):Int)])),jF 3 (iL s.im x.u),blk q 43 (qT ((b:Nat):Int) (s.last+1) x),blk fN 174 (EP ub fM (s.last+1) s B (some s.mb)),fL Lv.cells B 43 7 (fO (s.live++[(⟨0,0,0,0,0,0,0⟩:Lv)]) b (fun _=>(⟨((b:Nat):Int),s.last+1,x.u,x.v,x.wt,x.t,x.exp⟩:Lv))),ia s.mb .u64 p_ s.im,(AW.R s.jg h),(Ax s L),blk l 43 oQ,blk j 41 (qU x)]) 1 rfl rfl rfl yd gq rfl U rfl (lF U (i:=0) rfl) (by simp only[zo,zh,zk,gy,zu,maxLen];have h7:=F x.u;have h8:=F x.v;first|omega|(rw[uh bk.1];omega)) (by simp only[zo,zh,zk,gy,zu,maxLen];have h7:=F x.u;have h8:=F x.v;first|omega|(rw[uh bk.1];omega)) f_ ?_
   intro d bG aV bH
   have ay:=yf [1,2,3,4,5,6,7,8,9,10] aV
   refine fP ay 1 ?_
   refine jZ (kE ?_)
   refine qD (a:=x.u) (c:=(d,(fS s.im x.u).2++[b])) (mm:=s.im) (enc:=p_) (k:=.u64) (L' := (M1 d ((gy (fS s.im x.u).2)++([((b:Nat):Int)])) (iL s.im x.u) q ((b:Nat):Int) (s.last+1) x fN ub fM s B (some s.mb) (fO (s.live++[(⟨0,0,0,0,0,0,0⟩:Lv)]) b (fun _=>(⟨((b:Nat):Int),s.last+1,x.u,x.v,x.wt,x.t,x.exp⟩:Lv))) (gr s.im x.u (d,(fS s.im x.u).2++[b])) h L l j)) 5 rfl rfl rfl rfl y0 yo ay rfl rfl (fun az aA=>fP aA 1 ?_)
   have M:St _ (Mt (gr s.im x.u (d,(fS s.im x.u).2++[b])) q ((b:Nat):Int) (s.last+1) x fN ub fM s B (some s.mb) (fO (s.live++[(⟨0,0,0,0,0,0,0⟩:Lv)]) b (fun _=>(⟨((b:Nat):Int),s.last+1,x.u,x.v,x.wt,x.t,x.exp⟩:Lv))) h L l j) az:=zP (by have h9:=aA;rw[<-CX]at h9;exact h9)
   refine wR tt none M 6 ?_
   refine tN (?_)
   refine iB (fR M 13 ?_)
   refine mw (i:=1) rfl rfl rfl y8 yo rfl iX d_ rfl (fK M 10 ?_)
   refine cl (GS s.tb s.ab L az (ye M 6 rfl) x.v (Q.room o_) T.v) ?_
   rintro _ bI ⟨bJ,bK,I,rfl,ah,ci,ht⟩
   have ai:=yh 6 M ht
   have cc:=(y9 ai (i:=6) rfl:I.ok)
   refine gF ai 2 ?_
   have aW:=zS x.v ai
   refine kq mixed [([0,1,2,3,4,5,6,7,8,9,10,11,12],[3,8,10]),([13],[3])] [14] aW (fun bL V=>jx ?_)
   refine fK V 10 ?_
   refine qh (a:=x.v) (mm:=(gr s.im x.u (d,(fS s.im x.u).2++[b]))) (enc:=p_) (k:=.u64) 5 rfl rfl rfl y0 yo kz rfl V rfl (fK V 1 ?_)
   refine jW (vs:=(Ze ((b:Nat):Int))) (cs:=(Ze ((b:Nat):Int))) rfl rfl yd gq rfl (by simp[Value.cells]) rfl rfl rfl V (fun aX bM bN bO W=>fP W 1 ?_)
   refine pe (kZ rfl oE (kZ rfl oE (kZ rfl (qo (yG (a:=x.v) (mm:=(gr s.im x.u (d,(fS s.im x.u).2++[b]))) (enc:=p_) (k:=.u64) 6 rfl rfl y0 yo kz rfl W rfl) rfl rfl) (trivial)))) (jx ?_)
   refine vZ (k:=.i64) (ys:=gy (fS (gr s.im x.u (d,(fS s.im x.u).2++[b])) x.v).2) (zs:=[((b:Nat):Int)]) (LL:=fun D=>[iz .i64 (Z4 aX) 3 ([((b:Nat):Int)]),iz .i64 D 3 ((gy (fS (gr s.im x.u (d,(fS s.im x.u).2++[b])) x.v).2)++([((b:Nat):Int)])),jF 3 (iL (gr s.im x.u (d,(fS s.im x.u).2++[b])) x.v),blk q 43 (qT ((b:Nat):Int) (s.last+1) x),blk fN 174 (EP ub fM (s.last+1) s B (some s.mb)),fL Lv.cells B 43 7 (fO (s.live++[(⟨0,0,0,0,0,0,0⟩:Lv)]) b (fun _=>(⟨((b:Nat):Int),s.last+1,x.u,x.v,x.wt,x.t,x.exp⟩:Lv))),ia s.mb .u64 p_ (gr s.im x.u (d,(fS s.im x.u).2++[b])),(AW.R s.jg h),(Ax s I),blk l 43 oQ,blk j 41 (qU x)]) 1 rfl rfl rfl yd gq rfl W rfl (lF W (i:=0) rfl) (by simp only[zo,zh,zk,gy,zu,maxLen];have h7:=F x.u;have h8:=F x.v;first|omega|(rw[uh bk.1];omega)) (by simp only[zo,zh,zk,gy,zu,maxLen];have h7:=F x.u;have h8:=F x.v;first|omega|(rw[uh bk.1];omega)) f_ ?_
   intro D bP aY bQ
   have aB:=yf [1,2,3,4,5,6,7,8,9,10] aY
   refine fP aB 1 ?_
   refine jZ (kE ?_)
   refine qD (a:=x.v) (c:=(D,(fS (gr s.im x.u (d,(fS s.im x.u).2++[b])) x.v).2++[b])) (mm:=(gr s.im x.u (d,(fS s.im x.u).2++[b]))) (enc:=p_) (k:=.u64) (L' := (M1 D ((gy (fS (gr s.im x.u (d,(fS s.im x.u).2++[b])) x.v).2)++([((b:Nat):Int)])) (iL (gr s.im x.u (d,(fS s.im x.u).2++[b])) x.v) q ((b:Nat):Int) (s.last+1) x fN ub fM s B (some s.mb) (fO (s.live++[(⟨0,0,0,0,0,0,0⟩:Lv)]) b (fun _=>(⟨((b:Nat):Int),s.last+1,x.u,x.v,x.wt,x.t,x.exp⟩:Lv))) (gr (gr s.im x.u (d,(fS s.im x.u).2++[b])) x.v (D,(fS (gr s.im x.u (d,(fS s.im x.u).2++[b])) x.v).2++[b])) h I l j)) 5 rfl rfl rfl rfl y0 yo aB rfl rfl (fun aZ aC=>fP aC 1 ?_)
   have aj:St _ (Mt (gr (gr s.im x.u (d,(fS s.im x.u).2++[b])) x.v (D,(fS (gr s.im x.u (d,(fS s.im x.u).2++[b])) x.v).2++[b])) q ((b:Nat):Int) (s.last+1) x fN ub fM s B (some s.mb) (fO (s.live++[(⟨0,0,0,0,0,0,0⟩:Lv)]) b (fun _=>(⟨((b:Nat):Int),s.last+1,x.u,x.v,x.wt,x.t,x.exp⟩:Lv))) h I l j) aZ:=zP (by have h9:=aC;rw[<-CX]at h9;exact h9)
   refine wR tt none aj 6 ?_
   refine tN (?_)
   refine iB (fR aj 15 ?_)
   refine jt 7 aj (fun bR ak=>?_)
   refine fP ak 4 ?_
   refine o7 (v:=(Ii ((b:Nat):Int) (s.last+1) x)) (v' := Zc) results139 (nX (cs:=(qT ((b:Nat):Int) (s.last+1) x)) rfl xm rfl o8 rfl (mO ak (i:=7) (o:=0) (vs:=(qT ((b:Nat):Int) (s.last+1) x)) rfl rfl)) (pN rfl) ?_
   have a0:=yf [2,3,4,0,5,6,1,7,8] ak
   have cd:=hU.ins (e:=(⟨(b:Int),s.last+1,x.u,x.v,x.wt,x.t,x.exp⟩:Lv)) ae ce cc rfl rfl ⟨kY (by show _/\_;dsimp only;omega),pJ (by show _/\_;dsimp only;omega),T.u,T.v,T.wt,T.t,T.exp⟩ bk.1 (fun z=>by rw[ah.mem,Q.mem]) (by rw[ah.n,Q.n]) (lv2:=B) (ls:=fO (s.live++[(⟨0,0,0,0,0,0,0⟩:Lv)]) b (fun _=>(⟨((b:Nat):Int),s.last+1,x.u,x.v,x.wt,x.t,x.exp⟩:Lv))) (by unfold yO;rw[if_pos o_]<;>rfl) (im2:=(gr (gr s.im x.u (d,(fS s.im x.u).2++[b])) x.v (D,(fS (gr s.im x.u (d,(fS s.im x.u).2++[b])) x.v).2++[b]))) (by rw[uh bk.1];rfl)
   exact⟨b,(⟨s.jg,s.tb,s.ab,s.mb,B,s.last+1,h,I,fO (s.live++[(⟨0,0,0,0,0,0,0⟩:Lv)]) b (fun _=>(⟨((b:Nat):Int),s.last+1,x.u,x.v,x.wt,x.t,x.exp⟩:Lv)),(gr (gr s.im x.u (d,(fS s.im x.u).2++[b])) x.v (D,(fS (gr s.im x.u (d,(fS s.im x.u).2++[b])) x.v).2++[b]))⟩:fW),rfl,⟨cd.2,rfl,Q.yA ah ch ci⟩,ym (yn (p:=fW.ok ub fM (⟨s.jg,s.tb,s.ab,s.mb,B,s.last+1,h,I,fO (s.live++[(⟨0,0,0,0,0,0,0⟩:Lv)]) b (fun _=>(⟨((b:Nat):Int),s.last+1,x.u,x.v,x.wt,x.t,x.exp⟩:Lv)),(gr (gr s.im x.u (d,(fS s.im x.u).2++[b])) x.v (D,(fS (gr s.im x.u (d,(fS s.im x.u).2++[b])) x.v).2++[b]))⟩:fW)) (yc [_,_,_,_,_,_] _ a0) cd.1) zd⟩
 . refine gC H 18 fun bS a1=>?_
   refine iQ (f:=(fun _=>(⟨((b:Nat):Int),s.last+1,x.u,x.v,x.wt,x.t,x.exp⟩:Lv))) 2 a1 (fun a2 E=>?_)
   refine fK E 6 ?_
   refine ld rfl rfl yo rfl (St.bc E 8 rfl rfl) (fK E 1 ?_)
   refine ld rfl rfl yo rfl (St.bc E 8 rfl rfl) (iU (pvs:=[(0,(Zl x.u)),(1,(Zl x.v))]) (v:=.agg (uS x.u x.v)) rfl rfl (tY [(0,(Zt x.u)),(1,(Zt x.v))] uA y8 iX rfl ⟨rfl,rfl,rfl,rfl,trivial⟩ rfl s_) (gF E 4 ?_))
   refine qq 3 (iB (fR E 13 ?_))
   refine mw (i:=0) rfl rfl rfl y8 yo rfl iX d_ rfl (fK E 10 ?_)
   refine cl (GS s.tb s.ab s.t a2 (ye E 6 rfl) x.u (TW.Rt o_) T.u) ?_
   rintro _ bT ⟨bU,bV,N,rfl,X,cj,ht⟩
   have al:=yh 6 E ht
   have cc:=(y9 al (i:=6) rfl:N.ok)
   refine gF al 2 ?_
   have a3:=yf [4,0,1,2,3,5,6,7,8] al
   have a4:=zS x.u a3
   refine kq mixed [([0,1,2,3,4,5,6,7,8,9,10,11,12],[3,8,10]),([13],[3])] [14] a4 (fun bW Y=>jx ?_)
   refine fK Y 10 ?_
   refine qh (a:=x.u) (mm:=s.im) (enc:=p_) (k:=.u64) 5 rfl rfl rfl y0 yo kz rfl Y rfl (fK Y 1 ?_)
   refine jW (vs:=(Ze ((b:Nat):Int))) (cs:=(Ze ((b:Nat):Int))) rfl rfl yd gq rfl (by simp[Value.cells]) rfl rfl rfl Y (fun a5 bX bY bZ Z=>fP Z 1 ?_)
   refine pe (kZ rfl oE (kZ rfl oE (kZ rfl (qo (yG (a:=x.u) (mm:=s.im) (enc:=p_) (k:=.u64) 6 rfl rfl y0 yo kz rfl Z rfl) rfl rfl) (trivial)))) (jx ?_)
   refine vZ (k:=.i64) (ys:=gy (fS s.im x.u).2) (zs:=[((b:Nat):Int)]) (LL:=fun g=>[iz .i64 (Z4 a5) 3 ([((b:Nat):Int)]),iz .i64 g 3 ((gy (fS s.im x.u).2)++([((b:Nat):Int)])),jF 3 (iL s.im x.u),blk q 43 (qT ((b:Nat):Int) (s.last+1) x),blk fN 174 (Co ub fM (s.last+1) s (some s.mb)),fL Lv.cells s.lv 43 7 (fO s.live b (fun _=>(⟨((b:Nat):Int),s.last+1,x.u,x.v,x.wt,x.t,x.exp⟩:Lv))),ia s.mb .u64 p_ s.im,(AW.R s.jg h),(Ax s N),blk l 43 oQ,blk j 41 (qU x)]) 1 rfl rfl rfl yd gq rfl Z rfl (lF Z (i:=0) rfl) (by simp only[zo,zh,zk,gy,zu,maxLen];have h7:=F x.u;have h8:=F x.v;first|omega|(rw[uh bk.1];omega)) (by simp only[zo,zh,zk,gy,zu,maxLen];have h7:=F x.u;have h8:=F x.v;first|omega|(rw[uh bk.1];omega)) f_ ?_
   intro g b0 a6 b1
   have aD:=yf [1,2,3,4,5,6,7,8,9,10] a6
   refine fP aD 1 ?_
   refine jZ (kE ?_)
   refine qD (a:=x.u) (c:=(g,(fS s.im x.u).2++[b])) (mm:=s.im) (enc:=p_) (k:=.u64) (L' := (M0 g ((gy (fS s.im x.u).2)++([((b:Nat):Int)])) (iL s.im x.u) q ((b:Nat):Int) (s.last+1) x fN ub fM s (some s.mb) (fO s.live b (fun _=>(⟨((b:Nat):Int),s.last+1,x.u,x.v,x.wt,x.t,x.exp⟩:Lv))) (gr s.im x.u (g,(fS s.im x.u).2++[b])) h N l j)) 5 rfl rfl rfl rfl y0 yo aD rfl rfl (fun aE aF=>fP aF 1 ?_)
   have O:St _ (Ms (gr s.im x.u (g,(fS s.im x.u).2++[b])) q ((b:Nat):Int) (s.last+1) x fN ub fM s (some s.mb) (fO s.live b (fun _=>(⟨((b:Nat):Int),s.last+1,x.u,x.v,x.wt,x.t,x.exp⟩:Lv))) h N l j) aE:=zP (by have h9:=aF;rw[<-CX]at h9;exact h9)
   refine wR tt none O 6 ?_
   refine tN (?_)
   refine iB (fR O 13 ?_)
   refine mw (i:=1) rfl rfl rfl y8 yo rfl iX d_ rfl (fK O 10 ?_)
   refine cl (GS s.tb s.ab N aE (ye O 6 rfl) x.v (X.room o_) T.v) ?_
   rintro _ b2 ⟨b3,b4,J,rfl,am,ck,ht⟩
   have an:=yh 6 O ht
   have cc:=(y9 an (i:=6) rfl:J.ok)
   refine gF an 2 ?_
   have a7:=zS x.v an
   refine kq mixed [([0,1,2,3,4,5,6,7,8,9,10,11,12],[3,8,10]),([13],[3])] [14] a7 (fun b5 aa=>jx ?_)
   refine fK aa 10 ?_
   refine qh (a:=x.v) (mm:=(gr s.im x.u (g,(fS s.im x.u).2++[b]))) (enc:=p_) (k:=.u64) 5 rfl rfl rfl y0 yo kz rfl aa rfl (fK aa 1 ?_)
   refine jW (vs:=(Ze ((b:Nat):Int))) (cs:=(Ze ((b:Nat):Int))) rfl rfl yd gq rfl (by simp[Value.cells]) rfl rfl rfl aa (fun a8 b6 b7 b8 ac=>fP ac 1 ?_)
   refine pe (kZ rfl oE (kZ rfl oE (kZ rfl (qo (yG (a:=x.v) (mm:=(gr s.im x.u (g,(fS s.im x.u).2++[b]))) (enc:=p_) (k:=.u64) 6 rfl rfl y0 yo kz rfl ac rfl) rfl rfl) (trivial)))) (jx ?_)
   refine vZ (k:=.i64) (ys:=gy (fS (gr s.im x.u (g,(fS s.im x.u).2++[b])) x.v).2) (zs:=[((b:Nat):Int)]) (LL:=fun G=>[iz .i64 (Z4 a8) 3 ([((b:Nat):Int)]),iz .i64 G 3 ((gy (fS (gr s.im x.u (g,(fS s.im x.u).2++[b])) x.v).2)++([((b:Nat):Int)])),jF 3 (iL (gr s.im x.u (g,(fS s.im x.u).2++[b])) x.v),blk q 43 (qT ((b:Nat):Int) (s.last+1) x),blk fN 174 (Co ub fM (s.last+1) s (some s.mb)),fL Lv.cells s.lv 43 7 (fO s.live b (fun _=>(⟨((b:Nat):Int),s.last+1,x.u,x.v,x.wt,x.t,x.exp⟩:Lv))),ia s.mb .u64 p_ (gr s.im x.u (g,(fS s.im x.u).2++[b])),(AW.R s.jg h),(Ax s J),blk l 43 oQ,blk j 41 (qU x)]) 1 rfl rfl rfl yd gq rfl ac rfl (lF ac (i:=0) rfl) (by simp only[zo,zh,zk,gy,zu,maxLen];have h7:=F x.u;have h8:=F x.v;first|omega|(rw[uh bk.1];omega)) (by simp only[zo,zh,zk,gy,zu,maxLen];have h7:=F x.u;have h8:=F x.v;first|omega|(rw[uh bk.1];omega)) f_ ?_
   intro G b9 a9 ca
   have aG:=yf [1,2,3,4,5,6,7,8,9,10] a9
   refine fP aG 1 ?_
   refine jZ (kE ?_)
   refine qD (a:=x.v) (c:=(G,(fS (gr s.im x.u (g,(fS s.im x.u).2++[b])) x.v).2++[b])) (mm:=(gr s.im x.u (g,(fS s.im x.u).2++[b]))) (enc:=p_) (k:=.u64) (L' := (M0 G ((gy (fS (gr s.im x.u (g,(fS s.im x.u).2++[b])) x.v).2)++([((b:Nat):Int)])) (iL (gr s.im x.u (g,(fS s.im x.u).2++[b])) x.v) q ((b:Nat):Int) (s.last+1) x fN ub fM s (some s.mb) (fO s.live b (fun _=>(⟨((b:Nat):Int),s.last+1,x.u,x.v,x.wt,x.t,x.exp⟩:Lv))) (gr (gr s.im x.u (g,(fS s.im x.u).2++[b])) x.v (G,(fS (gr s.im x.u (g,(fS s.im x.u).2++[b])) x.v).2++[b])) h J l j)) 5 rfl rfl rfl rfl y0 yo aG rfl rfl (fun ba aH=>fP aH 1 ?_)
   have ao:St _ (Ms (gr (gr s.im x.u (g,(fS s.im x.u).2++[b])) x.v (G,(fS (gr s.im x.u (g,(fS s.im x.u).2++[b])) x.v).2++[b])) q ((b:Nat):Int) (s.last+1) x fN ub fM s (some s.mb) (fO s.live b (fun _=>(⟨((b:Nat):Int),s.last+1,x.u,x.v,x.wt,x.t,x.exp⟩:Lv))) h J l j) ba:=zP (by have h9:=aH;rw[<-CX]at h9;exact h9)
   refine wR tt none ao 6 ?_
   refine tN (?_)
   refine iB (fR ao 15 ?_)
   refine jt 7 ao (fun cb ap=>?_)
   refine fP ap 4 ?_
   refine o7 (v:=(Ii ((b:Nat):Int) (s.last+1) x)) (v' := Zc) results139 (nX (cs:=(qT ((b:Nat):Int) (s.last+1) x)) rfl xm rfl o8 rfl (mO ap (i:=7) (o:=0) (vs:=(qT ((b:Nat):Int) (s.last+1) x)) rfl rfl)) (pN rfl) ?_
   have bb:=yf [2,3,4,0,5,6,1,7,8] ap
   have cd:=hU.ins (e:=(⟨(b:Int),s.last+1,x.u,x.v,x.wt,x.t,x.exp⟩:Lv)) ae ce cc rfl rfl ⟨kY (by show _/\_;dsimp only;omega),pJ (by show _/\_;dsimp only;omega),T.u,T.v,T.wt,T.t,T.exp⟩ bk.1 (fun z=>by rw[am.mem,X.mem]) (by rw[am.n,X.n]) (lv2:=s.lv) (ls:=fO s.live b (fun _=>(⟨((b:Nat):Int),s.last+1,x.u,x.v,x.wt,x.t,x.exp⟩:Lv))) (by unfold yO;rw[if_neg o_]<;>rfl) (im2:=(gr (gr s.im x.u (g,(fS s.im x.u).2++[b])) x.v (G,(fS (gr s.im x.u (g,(fS s.im x.u).2++[b])) x.v).2++[b]))) (by rw[uh bk.1];rfl)
   exact⟨b,(⟨s.jg,s.tb,s.ab,s.mb,s.lv,s.last+1,h,J,fO s.live b (fun _=>(⟨((b:Nat):Int),s.last+1,x.u,x.v,x.wt,x.t,x.exp⟩:Lv)),(gr (gr s.im x.u (g,(fS s.im x.u).2++[b])) x.v (G,(fS (gr s.im x.u (g,(fS s.im x.u).2++[b])) x.v).2++[b]))⟩:fW),rfl,⟨cd.2,rfl,X.yA am cj ck⟩,ym (yn (p:=fW.ok ub fM (⟨s.jg,s.tb,s.ab,s.mb,s.lv,s.last+1,h,J,fO s.live b (fun _=>(⟨((b:Nat):Int),s.last+1,x.u,x.v,x.wt,x.t,x.exp⟩:Lv)),(gr (gr s.im x.u (g,(fS s.im x.u).2++[b])) x.v (G,(fS (gr s.im x.u (g,(fS s.im x.u).2++[b])) x.v).2++[b]))⟩:fW)) (yc [_,_,_,_,_,_] _ bb) cd.1) zd⟩
end Go.Proofs.YtedjjkcihkmjgaaGreatDoor
