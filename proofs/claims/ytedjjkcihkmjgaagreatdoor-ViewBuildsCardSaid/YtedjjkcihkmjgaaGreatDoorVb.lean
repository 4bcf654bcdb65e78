/- Walks through code, under what is said of arguments. -/
import Derived.Test.YtedjjkcihkmjgaaGreatDoorVa
set_option linter.unusedVariables false
set_option linter.unusedSimpArgs false
set_option maxRecDepth 100000
set_option maxHeartbeats 4000000
namespace Go.Proofs.YtedjjkcihkmjgaaGreatDoor
open Go Go.Sx Go.Proofs.Tryz
variable(ab tb de:Nat)(v:Value)(xs:List Int)(s:fR)(x:Int)(w:World)
theorem VM(bv:Value)(A:As)(w:World)(M:Own (Zt ab bv A) w)(k:A.ok)(i:Nat)(r:List Nat)(N:A.fl=i :: r) :
 CR ya 209 (Zg ab) w (fun r w' => r = .tuple (uL i)/\∃ l K,As.ok l/\(l.n=A.n/\l.begun=A.begun/\l.used=A.used+1)/\(∀ j,l.iw j↔A.iw j\/j=i)/\fP (Zt ab bv A) w w' (Zt ab K l)):=by
 have R:=k.n
 have Q:=k.le
 have S:=k.used
 obtain⟨P,O,T,m,F⟩:=k.pop N
 have g:=(k.room m).1
 obtain⟨b,hb⟩:=k.at m
 refine gj func209 ?_
 have J:=(yy M).unpack
 refine fM J 10 ?_
 refine gy (wY ab bv (A.n:Int) (A.begun:Int) (A.used:Int) A.last A.ps A.sl w ·) J fun s h=>cH h 9 ?_
 refine gy (V7 ab bv A s · k i F) h fun t c=>cH c 25 ?_
 refine gz rfl (sW F.symm) (cH c 7 ?_)
 refine gy (Bv ab bv (A.n:Int) (A.begun:Int) (A.used:Int) A.last A.ps A.sl t · i o_ b hb) c fun B d=>cH d 1 ?_
 refine fa (o' := i%64*3+1) rfl rfl qp rfl fU (by simp only[lW];rfl) (ld rfl rfl yf rfl (CC d (i:=2) rfl f_ d_ (by first|exact g|(simp only[gd];exact g)) hb rfl) (gh d 9 fun u y=>?_))
 refine gy (Bv ab bv (A.n:Int) (A.begun:Int) (A.used:Int) ((cE A.sl i).after) A.ps A.sl u · i o_ b hb) y fun C o=>cH o 7 ?_
 refine fa (o' := i%64*3+0) rfl rfl qp rfl fU (by simp only[lW];rfl) (r9 (f:=(fun x=>{ x with st:=1 })) (L' := [blk ab 278 (I4 ab bv A ((cE A.sl i).after)),cL iT bv 392 1 A.ps,gO gW.cells 395 64 A.ps (cO A.sl i (fun x=>{ x with st:=1 }))]) 2 rfl rfl rfl rfl fU rfl rfl o rfl f_ d_ (by first|exact g|(simp only[gd];exact g)) hb rfl rfl rfl (fun D p=>cH p 6 ?_))
 refine fa (o' := i%64*3+1) rfl rfl qp rfl fU (by simp only[lW];rfl) (r9 (f:=(fun x=>{ x with after := -1 })) (L' := [blk ab 278 (I4 ab bv A ((cE A.sl i).after)),cL iT bv 392 1 A.ps,gO gW.cells 395 64 A.ps (cO (cO A.sl i (fun x=>{ x with st:=1 })) i (fun x=>{ x with after := -1 }))]) 2 rfl rfl rfl rfl fU rfl rfl p rfl f_ d_ (by first|exact g|(simp only[gd];exact g)) hb rfl rfl rfl (fun E a=>cH a 6 ?_))
 refine fa (o' := i%64*3+2) rfl rfl qp rfl jm (by simp only[lW];rfl) (ld rfl rfl ym rfl (CC a (i:=2) rfl f_ d_ (by first|exact g|(simp only[gd];exact g)) hb rfl) (gL (e:=(IntKind.u64.wrap (((cE (cO (cO A.sl i (fun x=>{ x with st:=1 })) i (fun x=>{ x with after := -1 })) i).times)+1))) rfl rfl (cH a 1 ?_)))
 refine fa (o' := i%64*3+2) rfl rfl qp rfl jm (by simp only[lW];rfl) (r9 (f:=(fun x=>{ x with times:=(IntKind.u64.wrap (((cE (cO (cO A.sl i (fun x=>{ x with st:=1 })) i (fun x=>{ x with after := -1 })) i).times)+1)) })) (L' := [blk ab 278 (I4 ab bv A ((cE A.sl i).after)),cL iT bv 392 1 A.ps,gO gW.cells 395 64 A.ps (cO (cO (cO A.sl i (fun x=>{ x with st:=1 })) i (fun x=>{ x with after := -1 })) i (fun x=>{ x with times:=(IntKind.u64.wrap (((cE (cO (cO A.sl i (fun x=>{ x with st:=1 })) i (fun x=>{ x with after := -1 })) i).times)+1)) }))]) 2 rfl rfl rfl rfl jm rfl rfl a rfl f_ d_ (by first|exact g|(simp only[gd];exact g)) hb rfl rfl rfl (fun G q=>cH q 8 ?_))
 refine gL (e:=((A.used+1:Nat):Int)) rfl iX (jI q 13 fun H z=>?_)
 refine kC (v:=(Za i)) (v' := Zc) results209 rfl rfl ?_
 have L:cO (cO (cO A.sl i (fun x=>{ x with st:=1 })) i (fun x=>{ x with after := -1 })) i (fun x=>{ x with times:=(IntKind.u64.wrap (((cE (cO (cO A.sl i (fun x=>{ x with st:=1 })) i (fun x=>{ x with after := -1 })) i).times)+1)) })=cO A.sl i tk:=MT g (by rw[jQ (by rw[gd];exact g),jQ g])
 have I:=z
 rw[L]at I
 exact⟨rfl,⟨A.n,A.begun,A.used+1,(cE A.sl i).after,cO A.sl i tk,r,A.ps⟩,bv,P,⟨rfl,rfl,rfl⟩,O,yk I⟩
theorem VN(bv:Value)(A:As)(w:World)(hO:Own (Zt ab bv A) w)(hA:A.ok)(hf:A.fl=[])(az:A.begun<A.n) :
 CR ya 209 (Zg ab) w (fun r w' => r = .tuple (uL A.begun)/\∃ A2 aC,As.ok A2/\(A2.n=A.n/\A2.begun=A.begun+1/\A2.used=A.used+1)/\(∀ j,A2.iw j↔A.iw j\/j=A.begun)/\fP (Zt ab bv A) w w' (Zt ab aC A2)):=by
 have aG:=hA.n
 have aF:=hA.le
 have aH:=hA.used
 have hl:A.last = -1:=by have h7:=hA.chain;rw[hf]at h7;exact h7
 refine enter (vs:=(Ze ab)) func209 rfl ntmps209 rfl ?_
 have aB:=(yy hO).unpack
 have y:=yd [_,_,_] _ aB
 refine fM aB 10 ?_
 refine jG (vl:=(Ze ab)) rfl rfl eN (wY ab bv (A.n:Int) (A.begun:Int) (A.used:Int) A.last A.ps A.sl w (lq y (i:=0) rfl)) ?_
 rintro _ z ⟨rfl,ht⟩
 have B:St _ (Dc ab bv A) z:=(mB (R' := (Zt ab bv A)) 0 y rfl ht rfl).unpack
 have C:=yd [_,_,_] _ B
 refine cH B 9 ?_
 refine jG (vl:=(Ze ab)) rfl rfl eN (V8 ab bv A z (lq C (i:=0) rfl) hA hl az) ?_
 rintro _ N ⟨rfl,ht⟩
 have h:St _ (Dc ab bv A) N:=(mB (R' := (Zt ab bv A)) 0 C rfl ht rfl).unpack
 refine cH h 25 ?_
 refine cmp (a:=(A.begun:Int)) (b:=A.last) rfl rfl rfl (uO o_) (cH h 7 ?_)
 refine rem (a:=(A.begun:Int)) (b:=64) (e:=((A.begun%64:Nat):Int)) rfl rfl rfl d_ (DY 64) ?_
 by_cases af:((A.begun%64:Nat):Int)=0
 . refine cH h 10 ?_
   refine ir h (fun d ag ah ai O=>?_)
   refine jB (vs:=(Ze d)) (cs:=(Ze d)) rfl rfl Cy Eb rfl (by simp[Value.cells]) rfl rfl rfl O ?_
   intro s P aj ak l
   have l:St _ [row (Zu s) 392 1 1 ((Ze d)),blk d 395 OO,blk ab 278 (nM ab bv A),cL iT bv 392 1 A.ps,gO gW.cells 395 64 A.ps A.sl] P:=l
   refine kR (cf:=iT) (ys:=A.ps) (zs:=[(some d)]) (LL:=fun g=>(Oa (row (.slice (some ⟨s,0,none⟩) 1 1) 392 1 1 ([(.pointer (some ⟨d,0,none⟩))])) d ab bv A g (A.ps++[(some d)]))) 3 rfl rfl rfl Cy Eb rfl d_ l rfl (kG l (i:=0) rfl) (fun x hx=>zr.1 (show List.all _ _=true from rfl) x hx) (by have h7:=hA.qj;simp only[zb,zd];omega) (by have h7:=hA.qj;simp only[zb,zd];omega) f_ ?_
   intro g Q t al
   have t:St _ (Oa (row (.slice (some ⟨s,0,none⟩) 1 1) 392 1 1 ([(.pointer (some ⟨d,0,none⟩))])) d ab bv A g (A.ps++[(some d)])) Q:=t
   have m:=ye [1,2,3,4] t
   refine cH m 2 ?_
   refine iS 1 m (fun R D=>?_) (hvs:=(cells_one (yh m (i:=2) rfl))) (h1:=(gD (yh m (i:=2) rfl) je))
   have S:=ye [0,3,1,2] D
   have U:St _ [gO gW.cells 395 64 (A.ps++[(some d)]) (A.sl++List.replicate 64 (⟨0,0,0⟩:gW)),blk ab 278 (nM ab g A),cL iT g 392 1 (A.ps++[(some d)])] R:=St.PI S hA.sl s_ rfl
   obtain⟨aA,ay,aE,aD,F,c,T⟩:=hA.fresh hf az (ps2:=A.ps++[(some d)]) (sl2:=A.sl++List.replicate 64 (⟨0,0,0⟩:gW)) (b:=d) (.inl ⟨o_,rfl,rfl⟩)
   refine cH D 7 ?_
   refine ar (a:=(A.begun:Int)) (b:=1) (c:=(A.begun:Int)+1) (e:=((A.begun+1:Nat):Int)) rfl rfl rfl rfl (by rw[kX o_];omega) (gh U 9 fun V W=>?_)
   have X:=ye [1,2,0] W
   have E:=yd [_,_,_] _ X
   refine jG (vl:=(uI ab A.begun)) rfl rfl eN (Bv ab g (A.n:Int) ((A.begun+1:Nat):Int) (A.used:Int) A.last (A.ps++[(some d)]) (A.sl++List.replicate 64 (⟨0,0,0⟩:gW)) V (lq E (i:=0) rfl) A.begun o_ c T) ?_
   rintro _ Y ⟨rfl,ht⟩
   have G:St _ (Oi ab g A ((A.begun+1:Nat):Int) (A.ps++[(some d)]) (A.sl++List.replicate 64 (⟨0,0,0⟩:gW))) Y:=(mB (R' := (fN (Oi ab g A ((A.begun+1:Nat):Int) (A.ps++[(some d)]) (A.sl++List.replicate 64 (⟨0,0,0⟩:gW))))) 0 E rfl ht rfl).unpack
   refine cH G 7 ?_
   refine fa (o:=A.begun%64*3+0) (o' := A.begun%64*3+0) rfl rfl qp rfl fU (by simp only[lW];rfl) (r9 (cf:=gW.cells) (xs:=A.sl++List.replicate 64 (⟨0,0,0⟩:gW)) (k:=A.begun) (off:=0) (f:=(fun x=>{ x with st:=1 })) (u:=qY) (vs:=yT) (L' := [blk ab 278 (wP ab g A ((A.begun+1:Nat):Int)),cL iT g 392 1 (A.ps++[(some d)]),gO gW.cells 395 64 (A.ps++[(some d)]) (cO (A.sl++List.replicate 64 (⟨0,0,0⟩:gW)) A.begun (fun x=>{ x with st:=1 }))]) 2 rfl rfl rfl rfl fU rfl rfl G rfl f_ d_ (by first|exact F|(simp only[gd];exact F)) T rfl rfl rfl (fun am H=>cH H 6 ?_))
   refine fa (o:=A.begun%64*3+0) (o' := A.begun%64*3+1) rfl rfl qp rfl fU (by simp only[lW];rfl) (r9 (cf:=gW.cells) (xs:=cO (A.sl++List.replicate 64 (⟨0,0,0⟩:gW)) A.begun (fun x=>{ x with st:=1 })) (k:=A.begun) (off:=1) (f:=(fun x=>{ x with after := -1 })) (u:=Zz) (vs:=[Zz]) (L' := [blk ab 278 (wP ab g A ((A.begun+1:Nat):Int)),cL iT g 392 1 (A.ps++[(some d)]),gO gW.cells 395 64 (A.ps++[(some d)]) (cO (cO (A.sl++List.replicate 64 (⟨0,0,0⟩:gW)) A.begun (fun x=>{ x with st:=1 })) A.begun (fun x=>{ x with after := -1 }))]) 2 rfl rfl rfl rfl fU rfl rfl H rfl f_ d_ (by first|exact F|(simp only[gd];exact F)) T rfl rfl rfl (fun an p=>cH p 6 ?_))
   refine fa (o:=A.begun%64*3+0) (o' := A.begun%64*3+2) rfl rfl qp rfl jm (by simp only[lW];rfl) (ld (a:=⟨c,A.begun%64*3+2,none⟩) (v:=(.int .u64 ((cE (cO (cO (A.sl++List.replicate 64 (⟨0,0,0⟩:gW)) A.begun (fun x=>{ x with st:=1 })) A.begun (fun x=>{ x with after := -1 })) A.begun).times))) rfl rfl ym rfl (CC p (i:=2) rfl f_ d_ (by first|exact F|(simp only[gd];exact F)) T rfl) (ar (a:=(cE (cO (cO (A.sl++List.replicate 64 (⟨0,0,0⟩:gW)) A.begun (fun x=>{ x with st:=1 })) A.begun (fun x=>{ x with after := -1 })) A.begun).times) (b:=1) (c:=((cE (cO (cO (A.sl++List.replicate 64 (⟨0,0,0⟩:gW)) A.begun (fun x=>{ x with st:=1 })) A.begun (fun x=>{ x with after := -1 })) A.begun).times)+1) (e:=(IntKind.u64.wrap (((cE (cO (cO (A.sl++List.replicate 64 (⟨0,0,0⟩:gW)) A.begun (fun x=>{ x with st:=1 })) A.begun (fun x=>{ x with after := -1 })) A.begun).times)+1))) rfl rfl rfl rfl rfl (cH p 1 ?_)))
   refine fa (o:=A.begun%64*3+0) (o' := A.begun%64*3+2) rfl rfl qp rfl jm (by simp only[lW];rfl) (r9 (cf:=gW.cells) (xs:=cO (cO (A.sl++List.replicate 64 (⟨0,0,0⟩:gW)) A.begun (fun x=>{ x with st:=1 })) A.begun (fun x=>{ x with after := -1 })) (k:=A.begun) (off:=2) (f:=(fun x=>{ x with times:=(IntKind.u64.wrap (((cE (cO (cO (A.sl++List.replicate 64 (⟨0,0,0⟩:gW)) A.begun (fun x=>{ x with st:=1 })) A.begun (fun x=>{ x with after := -1 })) A.begun).times)+1)) })) (u:=(.int .u64 (IntKind.u64.wrap (((cE (cO (cO (A.sl++List.replicate 64 (⟨0,0,0⟩:gW)) A.begun (fun x=>{ x with st:=1 })) A.begun (fun x=>{ x with after := -1 })) A.begun).times)+1)))) (vs:=[(.int .u64 (IntKind.u64.wrap (((cE (cO (cO (A.sl++List.replicate 64 (⟨0,0,0⟩:gW)) A.begun (fun x=>{ x with st:=1 })) A.begun (fun x=>{ x with after := -1 })) A.begun).times)+1)))]) (L' := [blk ab 278 (wP ab g A ((A.begun+1:Nat):Int)),cL iT g 392 1 (A.ps++[(some d)]),gO gW.cells 395 64 (A.ps++[(some d)]) (cO (cO (cO (A.sl++List.replicate 64 (⟨0,0,0⟩:gW)) A.begun (fun x=>{ x with st:=1 })) A.begun (fun x=>{ x with after := -1 })) A.begun (fun x=>{ x with times:=(IntKind.u64.wrap (((cE (cO (cO (A.sl++List.replicate 64 (⟨0,0,0⟩:gW)) A.begun (fun x=>{ x with st:=1 })) A.begun (fun x=>{ x with after := -1 })) A.begun).times)+1)) }))]) 2 rfl rfl rfl rfl jm rfl rfl p rfl f_ d_ (by first|exact F|(simp only[gd];exact F)) T rfl rfl rfl (fun ao I=>cH I 8 ?_))
   refine ar (a:=(A.used:Int)) (b:=1) (c:=(A.used:Int)+1) (e:=((A.used+1:Nat):Int)) rfl rfl rfl rfl (by rw[kX o_];omega) (jI I 13 fun ap Z=>?_)
   refine kC (v:=(Za A.begun)) (v' := Zc) results209 rfl rfl ?_
   have e9:cO (cO (cO (A.sl++List.replicate 64 (⟨0,0,0⟩:gW)) A.begun (fun x=>{ x with st:=1 })) A.begun (fun x=>{ x with after := -1 })) A.begun (fun x=>{ x with times:=(IntKind.u64.wrap (((cE (cO (cO (A.sl++List.replicate 64 (⟨0,0,0⟩:gW)) A.begun (fun x=>{ x with st:=1 })) A.begun (fun x=>{ x with after := -1 })) A.begun).times)+1)) })=cO (A.sl++List.replicate 64 (⟨0,0,0⟩:gW)) A.begun tk:=MT F (by rw[jQ (by rw[gd];exact F),jQ F])
   have ax:=Z
   rw[e9]at ax
   exact⟨rfl,⟨A.n,A.begun+1,A.used+1,A.last,cO (A.sl++List.replicate 64 (⟨0,0,0⟩:gW)) A.begun tk,[],A.ps++[(some d)]⟩,g,aA,⟨rfl,rfl,rfl⟩,ay,yj (R' := (OI ab g ((⟨A.n,A.begun+1,A.used+1,A.last,cO (A.sl++List.replicate 64 (⟨0,0,0⟩:gW)) A.begun tk,[],A.ps++[(some d)]⟩:As).n:Int) ((⟨A.n,A.begun+1,A.used+1,A.last,cO (A.sl++List.replicate 64 (⟨0,0,0⟩:gW)) A.begun tk,[],A.ps++[(some d)]⟩:As).begun:Int) ((⟨A.n,A.begun+1,A.used+1,A.last,cO (A.sl++List.replicate 64 (⟨0,0,0⟩:gW)) A.begun tk,[],A.ps++[(some d)]⟩:As).used:Int) (⟨A.n,A.begun+1,A.used+1,A.last,cO (A.sl++List.replicate 64 (⟨0,0,0⟩:gW)) A.begun tk,[],A.ps++[(some d)]⟩:As))) (yd [_,_,_] _ ax) za⟩
 . obtain⟨aA,ay,aE,aD,F,c,T⟩:=hA.fresh hf az (ps2:=A.ps) (sl2:=A.sl) (b:=0) (.inr ⟨o_,rfl,rfl⟩)
   refine cH h 11 ?_
   refine ar (a:=(A.begun:Int)) (b:=1) (c:=(A.begun:Int)+1) (e:=((A.begun+1:Nat):Int)) rfl rfl rfl rfl (by rw[kX o_];omega) (gh h 9 fun aa ac=>?_)
   have J:=yd [_,_,_] _ ac
   refine jG (vl:=(uI ab A.begun)) rfl rfl eN (Bv ab bv (A.n:Int) ((A.begun+1:Nat):Int) (A.used:Int) A.last A.ps A.sl aa (lq J (i:=0) rfl) A.begun o_ c T) ?_
   rintro _ ad ⟨rfl,ht⟩
   have K:St _ (Oh ab bv A ((A.begun+1:Nat):Int)) ad:=(mB (R' := (fN (Oh ab bv A ((A.begun+1:Nat):Int)))) 0 J rfl ht rfl).unpack
   refine cH K 7 ?_
   refine fa (o:=A.begun%64*3+0) (o' := A.begun%64*3+0) rfl rfl qp rfl fU (by simp only[lW];rfl) (r9 (cf:=gW.cells) (xs:=A.sl) (k:=A.begun) (off:=0) (f:=(fun x=>{ x with st:=1 })) (u:=qY) (vs:=yT) (L' := [blk ab 278 (wP ab bv A ((A.begun+1:Nat):Int)),cL iT bv 392 1 A.ps,gO gW.cells 395 64 A.ps (cO A.sl A.begun (fun x=>{ x with st:=1 }))]) 2 rfl rfl rfl rfl fU rfl rfl K rfl f_ d_ (by first|exact F|(simp only[gd];exact F)) T rfl rfl rfl (fun aq L=>cH L 6 ?_))
   refine fa (o:=A.begun%64*3+0) (o' := A.begun%64*3+1) rfl rfl qp rfl fU (by simp only[lW];rfl) (r9 (cf:=gW.cells) (xs:=cO A.sl A.begun (fun x=>{ x with st:=1 })) (k:=A.begun) (off:=1) (f:=(fun x=>{ x with after := -1 })) (u:=Zz) (vs:=[Zz]) (L' := [blk ab 278 (wP ab bv A ((A.begun+1:Nat):Int)),cL iT bv 392 1 A.ps,gO gW.cells 395 64 A.ps (cO (cO A.sl A.begun (fun x=>{ x with st:=1 })) A.begun (fun x=>{ x with after := -1 }))]) 2 rfl rfl rfl rfl fU rfl rfl L rfl f_ d_ (by first|exact F|(simp only[gd];exact F)) T rfl rfl rfl (fun au q=>cH q 6 ?_))
   refine fa (o:=A.begun%64*3+0) (o' := A.begun%64*3+2) rfl rfl qp rfl jm (by simp only[lW];rfl) (ld (a:=⟨c,A.begun%64*3+2,none⟩) (v:=(.int .u64 ((cE (cO (cO A.sl A.begun (fun x=>{ x with st:=1 })) A.begun (fun x=>{ x with after := -1 })) A.begun).times))) rfl rfl ym rfl (CC q (i:=2) rfl f_ d_ (by first|exact F|(simp only[gd];exact F)) T rfl) (ar (a:=(cE (cO (cO A.sl A.begun (fun x=>{ x with st:=1 })) A.begun (fun x=>{ x with after := -1 })) A.begun).times) (b:=1) (c:=((cE (cO (cO A.sl A.begun (fun x=>{ x with st:=1 })) A.begun (fun x=>{ x with after := -1 })) A.begun).times)+1) (e:=(IntKind.u64.wrap (((cE (cO (cO A.sl A.begun (fun x=>{ x with st:=1 })) A.begun (fun x=>{ x with after := -1 })) A.begun).times)+1))) rfl rfl rfl rfl rfl (cH q 1 ?_)))
   refine fa (o:=A.begun%64*3+0) (o' := A.begun%64*3+2) rfl rfl qp rfl jm (by simp only[lW];rfl) (r9 (cf:=gW.cells) (xs:=cO (cO A.sl A.begun (fun x=>{ x with st:=1 })) A.begun (fun x=>{ x with after := -1 })) (k:=A.begun) (off:=2) (f:=(fun x=>{ x with times:=(IntKind.u64.wrap (((cE (cO (cO A.sl A.begun (fun x=>{ x with st:=1 })) A.begun (fun x=>{ x with after := -1 })) A.begun).times)+1)) })) (u:=(.int .u64 (IntKind.u64.wrap (((cE (cO (cO A.sl A.begun (fun x=>{ x with st:=1 })) A.begun (fun x=>{ x with after := -1 })) A.begun).times)+1)))) (vs:=[(.int .u64 (IntKind.u64.wrap (((cE (cO (cO A.sl A.begun (fun x=>{ x with st:=1 })) A.begun (fun x=>{ x with after := -1 })) A.begun).times)+1)))]) (L' := [blk ab 278 (wP ab bv A ((A.begun+1:Nat):Int)),cL iT bv 392 1 A.ps,gO gW.cells 395 64 A.ps (cO (cO (cO A.sl A.begun (fun x=>{ x with st:=1 })) A.begun (fun x=>{ x with after := -1 })) A.begun (fun x=>{ x with times:=(IntKind.u64.wrap (((cE (cO (cO A.sl A.begun (fun x=>{ x with st:=1 })) A.begun (fun x=>{ x with after := -1 })) A.begun).times)+1)) }))]) 2 rfl rfl rfl rfl jm rfl rfl q rfl f_ d_ (by first|exact F|(simp only[gd];exact F)) T rfl rfl rfl (fun av M=>cH M 8 ?_))
   refine ar (a:=(A.used:Int)) (b:=1) (c:=(A.used:Int)+1) (e:=((A.used+1:Nat):Int)) rfl rfl rfl rfl (by rw[kX o_];omega) (jI M 13 fun aw ae=>?_)
   refine kC (v:=(Za A.begun)) (v' := Zc) results209 rfl rfl ?_
   have e9:cO (cO (cO A.sl A.begun (fun x=>{ x with st:=1 })) A.begun (fun x=>{ x with after := -1 })) A.begun (fun x=>{ x with times:=(IntKind.u64.wrap (((cE (cO (cO A.sl A.begun (fun x=>{ x with st:=1 })) A.begun (fun x=>{ x with after := -1 })) A.begun).times)+1)) })=cO A.sl A.begun tk:=MT F (by rw[jQ (by rw[gd];exact F),jQ F])
   have ax:=ae
   rw[e9]at ax
   exact⟨rfl,⟨A.n,A.begun+1,A.used+1,A.last,cO A.sl A.begun tk,[],A.ps⟩,bv,aA,⟨rfl,rfl,rfl⟩,ay,yj (R' := (OI ab bv ((⟨A.n,A.begun+1,A.used+1,A.last,cO A.sl A.begun tk,[],A.ps⟩:As).n:Int) ((⟨A.n,A.begun+1,A.used+1,A.last,cO A.sl A.begun tk,[],A.ps⟩:As).begun:Int) ((⟨A.n,A.begun+1,A.used+1,A.last,cO A.sl A.begun tk,[],A.ps⟩:As).used:Int) (⟨A.n,A.begun+1,A.used+1,A.last,cO A.sl A.begun tk,[],A.ps⟩:As))) (yd [_,_,_] _ ax) za⟩
theorem VY(bv:Value)(A:As)(w:World)(E:Own (Zt ab bv A) w)(c:A.ok)(i:Nat)(hi:A.iw i) :
 CR ya 128 (Zk ab i) w (fun r w' => r = .int .i64 0/\∃ d,As.ok d/\(d.n=A.n/\d.begun=A.begun/\d.used=A.used-1)/\(∀ j,d.iw j↔A.iw j/\j≠i)/\fP (Zt ab bv A) w w' (Zt ab bv d)):=by
 have H:=c.n
 have G:=c.le
 have I:=c.used
 have h:=hi.1
 have F:=hi.2
 have C:=(c.room h).1
 obtain⟨b,hb⟩:=c.at h
 have J:=(c.free hi rfl).2.2
 refine gj func128 ?_
 have D:=(yy E).unpack
 refine fM D 9 ?_
 refine gy (wY ab bv (A.n:Int) (A.begun:Int) (A.used:Int) A.last A.ps A.sl w ·) D fun m a=>cH a 10 ?_
 refine gz rfl (kT o_) (cH a 6 ?_)
 refine gz rfl (p9 o_) (cH a 11 ?_)
 refine gy (O5 ab bv A m · c i o_) a fun o g=>?_
 refine gz rfl (q7 (by rw[if_pos h,c.st i h,if_neg F])) (cH g 9 ?_)
 refine gy (Bv ab bv (A.n:Int) (A.begun:Int) (A.used:Int) A.last A.ps A.sl o · i o_ b hb) g fun t k=>cH k 7 ?_
 refine fa (o' := i%64*3+0) rfl rfl qp rfl fU (by simp only[lW];rfl) (r9 (f:=(fun x=>{ x with st:=2 })) (L' := [blk ab 278 (nM ab bv A),cL iT bv 392 1 A.ps,gO gW.cells 395 64 A.ps (cO A.sl i (fun x=>{ x with st:=2 }))]) 2 rfl rfl rfl rfl fU rfl rfl k rfl f_ d_ (by first|exact C|(simp only[gd];exact C)) hb rfl rfl rfl (fun u l=>cH l 10 ?_))
 refine fa (o' := i%64*3+1) rfl rfl qp rfl fU (by simp only[lW];rfl) (r9 (f:=(fun x=>{ x with after:=A.last })) (L' := [blk ab 278 (nM ab bv A),cL iT bv 392 1 A.ps,gO gW.cells 395 64 A.ps (cO (cO A.sl i (fun x=>{ x with st:=2 })) i (fun x=>{ x with after:=A.last }))]) 2 rfl rfl rfl rfl fU rfl rfl l rfl f_ d_ (by first|exact C|(simp only[gd];exact C)) hb rfl rfl rfl (fun y p=>gh p 17 fun z q=>?_))
 refine gL (e:=((A.used-1:Nat):Int)) rfl iX (jI q 11 fun B s=>?_)
 refine gT (v:=Zc) results128 rfl ?_
 exact⟨rfl,⟨A.n,A.begun,A.used-1,(i:Int),cO (cO A.sl i (fun x=>{ x with st:=2 })) i (fun x=>{ x with after:=A.last }),i :: A.fl,A.ps⟩,(c.free hi rfl).1,⟨rfl,rfl,rfl⟩,(c.free hi rfl).2.1,yk s⟩
theorem V0(bv:Value)(A:As)(w:World)(M:Own (Zt ab bv A) w)(h:A.ok) :
 CR ya 84 (Zg ab) w (fun r w' => ∃ lv,r=lv/\fP (Zt ab bv A) w w' (fN (Og ab bv A lv (gi (A.list A.begun))))):=by
 have O:=h.n
 have N:=h.le
 have P:=h.used
 refine gj func84 ?_
 have F:=(yy M).unpack
 refine fM F 9 ?_
 refine gy (wY ab bv (A.n:Int) (A.begun:Int) (A.used:Int) A.last A.ps A.sl w ·) F fun x f=>cH f 12 ?_
 refine kz (m:=0) (c:=A.used) rfl (js o_) rfl yc fU rfl o_ o_ o_ f ?_
 intro o y z B p
 have g:=St.UO (i:=0) (m:=0) (c:=A.used) (sz:=1) p rfl s_ o_ (by simp only[maxLen];omega)
 have q:=ye [1,2,3,0] g
 refine fZ g 14 ?_
 refine lp (α:=Nat×Value) (fun(k,lv)=>[(0,(Zb ab)),(3,lv),(16,(Za A.begun)),(17,(Za k))]) (fun(k,lv) w1=>St [(w,(Zt ab bv A).gq)] (Og ab bv A lv (gi (A.list k))) w1/\k<=A.begun) (fun(k,lv)=>A.begun-k) (0,(CZ o A.used)) oh (⟨q,o_⟩) ?_
 rintro⟨k,lv⟩ C s ⟨e,Q⟩
 refine fM e 2 ?_
 by_cases D:(k:Int)<(A.begun:Int)
 . have v:k<A.begun:=by omega
   refine cH e 19 ?_
   refine gy (O5 ab bv A s · h k o_) e fun E a=>?_
   by_cases b:((if k<A.begun then(cE A.sl k).st else 0):Int)=1
   . refine cH a 1 ?_
     rw[if_pos v]at b
     refine cH a 6 ?_
     refine jB (vs:=(Zd k)) (cs:=(Zd k)) rfl rfl yc fU rfl (by simp[Value.cells]) rfl rfl rfl a (fun t G H I j=>wX (k:=.i64) (ys:=gi (A.list k)) (zs:=[(k:Int)]) (LL:=fun d=>[iD .i64 (Zu t) 3 ([(k:Int)]),blk ab 278 (nM ab bv A),cL iT bv 392 1 A.ps,gO gW.cells 395 64 A.ps A.sl,iD .i64 d 3 ((gi (A.list k))++([(k:Int)]))]) 4 rfl rfl rfl yc fU rfl j rfl (kG j (i:=0) rfl) (by have L:=A.RC k;simp only[gi,zm,zb,zd];omega) (by have L:=A.RC k;simp only[gi,zm,zb,zd];omega) f_ ?_)
     intro d J u K
     have l:=ye [1,2,3,4] u
     refine fK l 8 ?_
     exact gM ((k+1),d) oh (⟨by rw[As.RD,if_pos b];rw[gi,ni];exact l,o_⟩) o1
   . refine cH a 1 ?_
     rw[if_pos v]at b
     refine fK a 10 ?_
     exact gM ((k+1),lv) oh (⟨by rw[As.RD,if_neg b];exact a,o_⟩) o1
 . refine gm e 17 lv ?_
   obtain rfl:k=A.begun:=by omega
   exact⟨lv,rfl,yk e⟩
theorem V6(n:Nat)(w:World)(l:n<=65536) :
 CR ya 218 (Z3 n) w (fun r w' => ∃ ab,r = .tuple (Z1 ab)/\fP (fN []) w w' (fN [blk ab 278 [(Zb ab),Zh,(Za ((As.new n).n:Int)),(Za ((As.new n).begun:Int)),(Za ((As.new n).used:Int)),(Za ((As.new n).last))],cL iT Zh 392 1 ((As.new n).ps),gO gW.cells 395 64 ((As.new n).ps) ((As.new n).sl)])):=by
 refine iE func218 10 fun h=>?_
 refine gz rfl (kT o_) (cH h 2 ?_)
 refine gz rfl (ow o_) (cH h 9 ?_)
 refine iL (pvs:=[(2,(Za n)),(5,Zz)]) (v:=.agg #[Zq,Zh,(Za n),Zc,Zc,Zz]) rfl rfl (i6 [(2,(Zd n)),(5,[Zz])] Hz SV rfl oh rfl) (gN h (fun a e f g b=>?_))
 refine jI b 20 fun c d=>?_
 refine kC (v:=(Zb a)) (v' := Zc) results218 rfl rfl ?_
 have i:=nU d 392 1
 have j:St _ (NV a n) c:=St.FP i 0
 have k:=lJ j (Ik (NV a n)).symm
 exact⟨a,rfl,me (yd [_,_,_] [] k)⟩
theorem VQ(bv:Value)(A:As)(w:World)(hO:Own (Zt ab bv A) w)(T:A.ok) :
 CR ya 204 (Zg ab) w (fun r w' => ∃ ag al F,r = .pointer (some ⟨ag,0,none⟩)/\As.ok { A with ps:=F }/\fP (Zt ab bv A) w w' (OJ ab bv A ag al F)):=by
 have ap:=T.n
 have ao:=T.le
 have aq:=T.used
 have au:=T.qj
 refine enter (vs:=(Ze ab)) func204 rfl ntmps204 rfl ?_
 have ak:=(yy hO).unpack
 have h:=yd [_,_,_] _ ak
 refine fM ak 9 ?_
 refine jG (vl:=(Ze ab)) rfl rfl eN (wY ab bv (A.n:Int) (A.begun:Int) (A.used:Int) A.last A.ps A.sl w (yg h 0 rfl)) ?_
 rintro _ K ⟨rfl,ht⟩
 have s:=(mB (R' := (Zt ab bv A)) 0 h rfl ht rfl).unpack
 refine gh s 24 fun L t=>?_
 refine iL (pvs:=[(2,(Za A.n)),(3,(Za A.begun)),(4,(Za A.used)),(5,(Za A.last))]) (v:=.agg #[Zq,Zh,(Za A.n),(Za A.begun),(Za A.used),(Za A.last)]) rfl rfl (i6 [(2,(Zd A.n)),(3,(Zd A.begun)),(4,(Zd A.used)),(5,(Zd A.last))] Hz SV rfl oh rfl) (gN t (fun c M N O u=>?_))
 refine gh u 15 fun j y=>?_
 have z:=nU y 392 1
 have f:St _ [gO gW.cells 395 64 ([]) (A.sl.take (64*0)),cL iT Zh 392 1 ([]),blk c 278 (VJ c A),blk ab 278 (nM ab bv A),cL iT bv 392 1 A.ps,gO gW.cells 395 64 A.ps A.sl] j:=St.FP z 0
 refine cH f 4 ?_
 refine iA (m:=A.ps.length) 4 rfl rfl Cy f rfl ?_
 have B:=ye [3,4,5,2,1,0] f
 refine fZ f 4 ?_
 refine lp (α:=Nat×Value×List (Option Nat)) (fun(k,v2,F)=>[(3,(Zb c)),(35,bv),(36,(Za A.ps.length)),(37,(Za k))]) (fun(k,v2,F) w1=>St [(w,(Zt ab bv A).gq)] [blk ab 278 (nM ab bv A),cL iT bv 392 1 A.ps,gO gW.cells 395 64 A.ps A.sl,blk c 278 (nM c v2 A),cL iT v2 392 1 F,gO gW.cells 395 64 F (A.sl.take (64*k))] w1/\k<=A.ps.length/\yG F k) (fun(k,v2,F)=>A.ps.length-k) (0,Zh,[]) oh (⟨B,o_,yG.start⟩) ?_
 rintro⟨k,v2,F⟩ P Q ⟨ae,ar,hC⟩
 have an:=hC.len
 refine fM ae 2 ?_
 by_cases R:(k:Int)<(A.ps.length:Int)
 . have hk:k<A.ps.length:=by omega
   obtain⟨bq,ah⟩:=T.ps k hk
   refine cH ae 19 ?_
   refine xB (a:=⟨bq,0,none⟩) rfl (B9 (iW ah)) ?_
   have af:(((A.sl.drop (64*k)).take 64).flatMap gW.cells).length=192:=PM (cf:=gW.cells) (sz:=3) f_ T.sl hk
   refine uT (b:=bq) (o:=0) (cs:=(((A.sl.drop (64*k)).take 64).flatMap gW.cells)) rfl rfl underlying395 rfl MN af (St.PF ae (i:=2) rfl ((fW hk).trans (congrArg some (iW ah)))) (ir ae (fun d S U V C=>?_))
   refine Hr (v:=.agg (((A.sl.drop (64*k)).take 64).flatMap gW.cells).toArray) (vs:=(((A.sl.drop (64*k)).take 64).flatMap gW.cells)) (L' := [blk d 395 (((A.sl.drop (64*k)).take 64).flatMap gW.cells),blk ab 278 (nM ab bv A),cL iT bv 392 1 A.ps,gO gW.cells 395 64 A.ps A.sl,blk c 278 (nM c v2 A),cL iT v2 392 1 F,gO gW.cells 395 64 F (A.sl.take (64*k))]) 0 rfl rfl rfl rfl MN af (zr.2 (xd f_ _)) C rfl (by rw[af];decide) (TH (by rw[af];rfl)) rfl (fun W l X=>cH l 8 ?_)
   refine jB (vs:=(Ze d)) (cs:=(Ze d)) rfl rfl Cy Eb rfl (by simp[Value.cells]) rfl rfl rfl l (fun D Y Z aa p=>kR (cf:=iT) (ys:=F) (zs:=[(some d)]) (LL:=fun e=>[row (Zu D) 392 1 1 ((Ze d)),blk d 395 (((A.sl.drop (64*k)).take 64).flatMap gW.cells),blk ab 278 (nM ab bv A),cL iT bv 392 1 A.ps,gO gW.cells 395 64 A.ps A.sl,blk c 278 (nM c v2 A),cL iT e 392 1 (F++[(some d)]),gO gW.cells 395 64 F (A.sl.take (64*k))]) 6 rfl rfl rfl Cy Eb rfl d_ p rfl (kG p (i:=0) rfl) (fun x hx=>zr.1 (show List.all _ _=true from rfl) x hx) (by have h7:=T.qj;simp only[zb,zd];omega) (by have h7:=T.qj;simp only[zb,zd];omega) f_ ?_)
   intro e ac E ad
   have g:=ye [1,2,3,4,5,6,7] E
   refine cH g 2 ?_
   refine iS 4 g (fun G q=>?_) (hvs:=(cells_one (yh g (i:=5) rfl))) (h1:=(gD (yh g (i:=5) rfl) je))
   refine fK q 7 ?_
   have H:=ye [0,6,1,2,3,4,5] q
   have ai:=Xh T.sl hk
   have I:St [(w,(Zt ab bv A).gq)] [gO gW.cells 395 64 (F++[(some d)]) (A.sl.take (64*(k+1))),blk ab 278 (nM ab bv A),cL iT bv 392 1 A.ps,gO gW.cells 395 64 A.ps A.sl,blk c 278 (nM c e A),cL iT e 392 1 (F++[(some d)])] G:=by rw[<-agb];exact St.PI H (by rw[ai.2,an]) ai.1 rfl
   have J:=ye [1,2,3,4,5,0] I
   exact gM ((k+1),e,F++[(some d)]) oh (⟨J,o_,hC.next⟩) o1
 . refine gm ae 17 (Zb c) ?_
   have am:k=A.ps.length:=by omega
   have aj:=ae
   rw[AP (show A.sl.length<=64*k by rw[am];exact Nat.le_of_eq T.sl)]at aj
   exact⟨c,v2,F,rfl,T.copy o_ hC.all,yj (R' := (OJ ab bv A c v2 F)) (yd [_,_,_,_,_,_] _ aj) za⟩
def AW.R(ab:Nat)(v:AW):fJ:=lC v.A.ok (Zt ab v.bv v.A)
abbrev C1(a:fR):=(AW.R a.jx a.aw:fJ)
abbrev NN(a b:Nat)(c:TW):=([blk a 302 (rH a b c),cL iB c.iv 39 1 c.ids,cL fL c.cv 3 1 c.cs,AW.R b c.w]:List fJ)
abbrev Oj(a b:Nat)(c:TW) d e f g:=([blk a 302 (rH a b c),cL iB c.iv 39 1 c.ids,cL fL c.cv 3 1 c.cs,AW.R b c.w,cL fL d 3 1 e,cL iB f 39 1 g]:List fJ)
abbrev I3(a:Nat) b (c d:Nat) (e:TW) f g h i:=([iD .u64 (Zu a) 39 b,blk c 302 (rH c d e),cL iB e.iv 39 1 e.ids,cL fL e.cv 3 1 e.cs,AW.R d e.w,cL fL f 3 1 g,cL iB h 39 1 i]:List fJ)
theorem Na(v:AW)(w:World)(a:Own (AW.R ab v) w) :
 CQ ya 104 (Zg ab) w (.int .i64 (v.A.used:Int)) (AW.R ab v):=by
 exact CR.mono (VZ ab v.bv v.A w a.un a.fact) fun r w' ⟨b,ht⟩=>⟨b,ht.qS a.fact⟩
theorem U5(v:AW)(w:World)(j:Own (AW.R ab v) w)(p:v.A.used<v.A.n) :
 CR ya 209 (Zg ab) w (fun r w' => ∃ i v2,r = .tuple (uL ((i:Nat):Int))/\AW.put v.A v2.A i/\fP (AW.R ab v) w w' (AW.R ab v2)):=by
 have a:=j.fact
 rcases a.full p with ⟨i,l,b⟩|⟨b,o⟩
 . have hp:=a.pop b
   exact CR.mono (VM ab v.bv v.A w j.un a i l b) fun r w' ⟨g,c,d,m,⟨e1,e,f⟩,k,ht⟩=>⟨i,⟨d,c⟩,g,⟨e1,f,k,hp.2.2.1,.inl ⟨hp.2.2.2.1,e⟩⟩,ht.qS m⟩
 . exact CR.mono (VN ab v.bv v.A w j.un a b o) fun r w' ⟨g,c,d,m,⟨e1,e,f⟩,k,ht⟩=>⟨v.A.begun,⟨d,c⟩,g,⟨e1,f,k,fun h=>Nat.lt_irrefl _ h.1,.inr ⟨rfl,e⟩⟩,ht.qS m⟩
theorem U9(v:AW)(w:World)(a:Own (AW.R ab v) w)(i:Nat)(hi:v.A.iw i) :
 CR ya 128 (Zk ab i) w (fun r w' => ∃ v2,r = .int .i64 0/\AW.del v.A v2.A i/\fP (AW.R ab v) w w' (AW.R ab v2)):=by
 exact CR.mono (VY ab v.bv v.A w a.un a.fact i hi) fun r w' ⟨e,b,g,⟨e1,c,d⟩,f,ht⟩=>⟨⟨v.bv,b⟩,e,⟨e1,c,d,(a.fact.free hi rfl).2.2,f⟩,ht.qS g⟩
theorem Vh(n:Nat)(w:World)(a:n<=65536) :
 CR ya 218 (Z3 n) w (fun r w' => ∃ ab v,r = .tuple (Z1 ab)/\v.A=As.new n/\fP (fN []) w w' (AW.R ab v)):=by
 exact CR.mono (V6 n w a) fun r w' ⟨ab,b,ht⟩=>⟨ab,⟨.slice none 0 0,As.new n⟩,b,rfl,ht.M7 (As.uX a)⟩
theorem U8(v:AW)(w:World)(d:Own (AW.R ab v) w) :
 CR ya 204 (Zg ab) w (fun r w' => ∃ a v2,r = .pointer (some ⟨a,0,none⟩)/\(∃ b,v2.A={ v.A with ps:=b })/\fP (AW.R ab v) w w' (fN [AW.R ab v,AW.R a v2])):=by
 refine CR.mono (VQ ab v.bv v.A w d.un d.fact) fun r w' ⟨a,c,b,f,g,ht⟩=>⟨a,⟨c,{ v.A with ps:=b }⟩,f,⟨b,rfl⟩,(fP.F8 (A:=(Dc ab v.bv v.A)) (B:=[blk a 278 (nM a c v.A),cL iT c 392 1 b,gO gW.cells 395 64 b v.A.sl]) ht).M0.GF rfl (fun h=>?_)⟩
 intro Q e
 simp only[ze,pn,or_false]at e
 rcases e with rfl|rfl
 . exact⟨d.fact,h _ s_⟩
 . exact⟨g,h _ s_⟩
def TW.R(tb ab:Nat)(t:TW):fJ:=lC t.ok (fN [blk tb 302 (rH tb ab t),cL iB t.iv 39 1 t.ids,cL fL t.cv 3 1 t.cs,(AW.R ab t.w)])
abbrev Bg(a:fR) b:=(TW.R a.tb a.ab b:fJ)
abbrev C2(a:fR):=(TW.R a.tb a.ab a.t:fJ)
abbrev Od(a:Nat)(b c:Int)(d:fR) e:=([blk a 174 (rI b c d e),cL Lv.cells d.lv 43 7 d.live,gP d.mb .u64 p_ d.im,j4 3 d.im,AW.R d.jx d.aw,TW.R d.tb d.ab d.t]:List fJ)
abbrev Oc(a:Nat)(b c:Int)(d:fR) e f g h i:=([blk a 174 (rI b c d e),cL Lv.cells d.lv 43 7 d.live,gP d.mb .u64 p_ d.im,j4 3 d.im,AW.R d.jx d.aw,TW.R d.tb d.ab d.t,cL fL f 3 1 g,cL Lv.cells h 43 7 i]:List fJ)
abbrev IS a (b:Nat) (c d:Int) (e:fR) f g h i j:=([a,blk b 174 (rI c d e f),cL Lv.cells e.lv 43 7 e.live,gP e.mb .u64 p_ e.im,j4 3 e.im,AW.R e.jx e.aw,TW.R e.tb e.ab e.t,cL fL g 3 1 h,cL Lv.cells i 43 7 j]:List fJ)
abbrev NY a (b:Nat) (c:Lv) (d:Nat) (e f:Int) (g:fR) h i j (k:Nat):=([j4 3 a,blk b 43 (oM c),blk d 174 (rI e f g h),cL Lv.cells g.lv 43 7 i,gP g.mb .u64 p_ a,AW.R g.jx j,TW.R g.tb g.ab g.t,blk k 43 pK]:List fJ)
abbrev Ox a b c (d:Nat) (e:Lv) (f:Nat) (g h:Int) (i:fR) j k l m (n:Nat):=([iD .i64 a 3 b,j4 3 c,blk d 43 (oM e),blk f 174 (rI g h i j),cL Lv.cells i.lv 43 7 k,gP i.mb .u64 p_ l,AW.R i.jx m,TW.R i.tb i.ab i.t,blk n 43 pK]:List fJ)
abbrev VG a b c d (e:Nat) (f g:Int) (h:fR) i j k (l m n:Nat) o p q r s t (u:Nat) v:=([cL fL a 3 1 b,cL fL c 3 1 b,j4 3 d,blk e 174 (rI f g h i),cL Lv.cells h.lv 43 7 h.live,j,j4 3 k,AW.R h.jx h.aw,TW.R h.tb h.ab h.t,blk l 174 (FA f g h.last m n o p),cL Lv.cells o 43 7 h.live,gP q .u64 p_ r,j4 3 s,AW.R m t,TW.R n u v]:List fJ)
abbrev NX a (b:Nat) (c d:Int) (e:Lv) (f:Nat) (g h:Int) (i:fR) j k l m n (o p:Nat):=([j4 3 a,blk b 43 (rJ c d e),blk f 174 (FB g h d i j k),cL Lv.cells j 43 7 l,gP i.mb .u64 p_ a,AW.R i.jx m,TW.R i.tb i.ab n,blk o 43 pK,blk p 41 (rK e)]:List fJ)
abbrev NW a (b:Nat) (c d:Int) (e:Lv) (f:Nat) (g h:Int) (i:fR) j k l m (n o:Nat):=([j4 3 a,blk b 43 (rJ c d e),blk f 174 (Dq g h d i j),cL Lv.cells i.lv 43 7 k,gP i.mb .u64 p_ a,AW.R i.jx l,TW.R i.tb i.ab m,blk n 43 pK,blk o 41 (rK e)]:List fJ)
abbrev Ow a b c (d:Nat) (e f:Int) (g:Lv) (h:Nat) (i j:Int) (k:fR) l m n o p q (r s:Nat):=([iD .i64 a 3 b,j4 3 c,blk d 43 (rJ e f g),blk h 174 (FB i j f k l m),cL Lv.cells l 43 7 n,gP k.mb .u64 p_ o,AW.R k.jx p,TW.R k.tb k.ab q,blk r 43 pK,blk s 41 (rK g)]:List fJ)
abbrev N1 a b c (d:Nat) (e f:Int) (g:Lv) (h:Nat) (i j:Int) (k:fR) l m n o p (q r:Nat):=([iD .i64 a 3 b,j4 3 c,blk d 43 (rJ e f g),blk h 174 (Dq i j f k l),cL Lv.cells k.lv 43 7 m,gP k.mb .u64 p_ n,AW.R k.jx o,TW.R k.tb k.ab p,blk q 43 pK,blk r 41 (rK g)]:List fJ)
theorem T7(t:TW)(w:World)(f:Own (Z5 ab tb t) w)(d:TW.Sz t.n)(id:Int) :
 CQ ya 277 (pJ ab id) w (.int .i64 ((lE t.n id:Nat):Int)) (Z5 ab tb t):=by
 have j:t.cs.length=t.n:=rfl
 have h:=d.two
 have k:=d.top
 have g:0<t.n:=by omega
 have i:=zJ (id:=id) g
 refine ja func277 f 9 fun c=>?_
 refine shr (a:=id) (b:=33) (e:=(id.fdiv (2 ^ 33))) rfl rfl rfl d_ rfl (bi (a:=id) (b:=(id.fdiv (2 ^ 33))) (e:=(lN id)) rfl rfl rfl (Ni _) (cH c 6 ?_))
 refine gL (e:=(mX 18397679294719823053 (lN id))) rfl rfl (cH c 7 ?_)
 refine shr (a:=(mX 18397679294719823053 (lN id))) (b:=33) (e:=((mX 18397679294719823053 (lN id)).fdiv (2 ^ 33))) rfl rfl rfl d_ rfl (bi (a:=(mX 18397679294719823053 (lN id))) (b:=((mX 18397679294719823053 (lN id)).fdiv (2 ^ 33))) (e:=(lN (mX 18397679294719823053 (lN id)))) rfl rfl rfl (Ni _) (cH c 6 ?_))
 refine gL (e:=(mX 14181476777654086739 (lN (mX 18397679294719823053 (lN id))))) rfl rfl (cH c 7 ?_)
 refine shr (a:=(mX 14181476777654086739 (lN (mX 18397679294719823053 (lN id))))) (b:=33) (e:=((mX 14181476777654086739 (lN (mX 18397679294719823053 (lN id)))).fdiv (2 ^ 33))) rfl rfl rfl d_ rfl (bi (a:=(mX 14181476777654086739 (lN (mX 18397679294719823053 (lN id))))) (b:=((mX 14181476777654086739 (lN (mX 18397679294719823053 (lN id)))).fdiv (2 ^ 33))) (e:=(lN (mX 14181476777654086739 (lN (mX 18397679294719823053 (lN id)))))) rfl rfl rfl (Ni _) (cH c 10 ?_))
 refine iA (m:=t.cs.length) 2 rfl rfl yc c rfl (cH c 2 ?_)
 refine bi (a:=(lN (mX 14181476777654086739 (lN (mX 18397679294719823053 (lN id)))))) (b:=(t.cs.length:Int)-1) (e:=((lE t.n id:Nat):Int)) rfl rfl rfl (d.p2.home id) (fK c 5 ?_)
 refine gT (v:=(Za ((lE t.n id:Nat):Int))) results277 rfl ?_
 exact⟨rfl,yk c⟩
theorem agP(id:Int)(w:World) :
 CR ya 276 (pJ ab id) w (fun r w' => ∃ l m,r = .func (.func 326) #[] (vE l m)/\fP (fN []) w w' (fN [blk l 171 (Ze ab),blk m 39 (Zw id)])):=by
 refine iE func276 2 fun n=>?_
 refine gN n (fun a f g h d=>?_)
 refine gN d (fun b i j k c=>?_)
 refine cH c 5 ?_
 refine kW (vf:=[]) (vc:=(Zy a b)) rfl rfl rfl (fK c 4 ?_)
 refine gT (v:=(.func (.func 326) #[] (vE a b))) results276 rfl ?_
 have e:=ye [1,0] c
 exact⟨a,b,rfl,me (yd [_,_] _ e)⟩
theorem agO{γ:Type}(g:γ->fJ)(C:γ->Nat->Nat->Prop)(H:γ->Prop)(z0:γ)(l A B tb ab:Nat)(t:TW)(id:Int)(w:World)(P:∀ (z:γ) (k c:Nat) (bs:List (World×List Nat)) (L:List fJ) (w:World),k<t.n->c<t.n->C z k c->St bs (g z :: (Dl tb ab t)++L) w->YR ya l (Zm c ((cE t.cs c:Nat):Int)) w (fun v w' => ∃ G b,v = .bool b/\(b=true->C G (k+1) (iJ t.n c))/\(b=false->H G)/\St bs (g G :: (Dl tb ab t)++L) w'))(E:t.ok)(Q:C z0 0 (lE t.n id))(K:Own (Fq (g z0) tb ab t A B id) w) :
 CR ya 326 (IQ (.func (.yield l) #[] #[]) A B) w (fun r w' => ∃ z,((∃ c,C z t.n c)\/H z)/\r = .tuple #[]/\fP (Fq (g z0) tb ab t A B id) w w' (Fq (g z) tb ab t A B id)):=by
 have T:t.cs.length=t.n:=rfl
 have R:=E.two
 have U:=E.top
 have O:0<t.n:=by omega
 refine gj func326 ?_
 have J:=Own.of K
 have j:=ye [1,2,3,0,4,5] J
 refine fM J 4 ?_
 refine gy (T7 tb ab t w · E.sz id) j fun q f=>cH f 9 ?_
 refine iA (m:=t.cs.length) 2 rfl rfl yc f rfl ?_
 have o:=ye [3,0,1,2,4,5] f
 refine fZ f 4 ?_
 refine lp (α:=γ×Nat×Nat) (fun(z,k,c)=>[(0,(.func (.yield l) #[] #[])),(1,(Zb A)),(2,(Zb B)),(4,(Za c)),(12,(Za t.cs.length)),(13,(Za k))]) (fun(z,k,c) w1=>St [(w,(Fq (g z0) tb ab t A B id).gq)] [(g z),blk tb 302 (rH tb ab t),cL iB t.iv 39 1 t.ids,cL fL t.cv 3 1 t.cs,blk A 171 (Ze tb),blk B 39 (Zw id)] w1/\k<=t.n/\c<t.n/\C z k c) (fun(z,k,c)=>t.n-k) (z0,0,(lE t.n id)) oh (⟨o,o_,zJ O,Q⟩) ?_
 rintro⟨z,k,c⟩ s u ⟨D,S,F,I⟩
 refine fM D 2 ?_
 by_cases x:(k:Int)<(t.cs.length:Int)
 . refine cH D 21 ?_
   refine yl (vl:=(Zm c (((cE t.cs c):Nat):Int))) rfl rfl rfl (P z k c _ _ _ o_ F I D) ?_
   rintro _ y ⟨h,p,rfl,N,M,d⟩
   refine fZ d 3 ?_
   cases i:(p:Bool)
   . skip
     subst i
     refine jh d 7 ?_
     refine xH results326 ?_
     exact⟨h,.inr (M rfl),rfl,yk d⟩
   . skip
     subst i
     refine fM d 10 ?_
     refine iA (m:=t.cs.length) 3 rfl rfl yc d rfl (cH d 1 ?_)
     refine bi (a:=(c:Int)+1) (b:=(t.cs.length:Int)-1) (e:=((iJ t.n c:Nat):Int)) rfl rfl rfl (E.p2.nx F) (fK d 8 ?_)
     exact gM (h,(k+1),(iJ t.n c)) oh (⟨d,o_,Lq F,N rfl⟩) (by show t.n-(k+1)<t.n-k;omega)
 . refine jU D 9 ?_
   obtain rfl:k=t.n:=by omega
   exact⟨z,.inl ⟨c,I⟩,rfl,yk D⟩
theorem agi(t:TW)(w:World)(hO:Own (Z5 ab tb t) w)(F:t.ok)(id:Int) :
 CQ ya 201 (pJ ab id) w (.tuple (qG ((t.find id).1:Int) ((t.find id).2))) (Z5 ab tb t):=by
 have aO:t.cs.length=t.n:=rfl
 have aK:=F.two
 have aQ:=F.top
 have aP:0<t.n:=by omega
 refine uc (vs:=[(Zb ab),(Zo id)]) func201 rfl ntmps201 rfl ?_
 have aD:=Own.of hO
 refine fM aD 2 ?_
 refine gN aD (fun d S U V A=>?_)
 refine gN A (fun f W X Y B=>?_)
 refine ir B (fun g Z aa ac C=>?_)
 refine ir C (fun i D ad ae s=>?_)
 refine cH s 7 ?_
 refine cl (agP ab id D) ?_
 rintro _ af ⟨m,o,rfl,ht⟩
 have u:=yp (y9 s ht)
 have E:=ye [3,2,5,4,6,7,8,0,1] u
 refine fZ u 3 ?_
 refine rfx (α:=Bool×Int×Bool) (ps:=[11,12]) (fi:=[]) (ca:=(Zy m o)) (fun(sp,a,b)=>[blk g 3 (Zd a),blk i 4 [(.bool b)],blk d 171 (Ze ab),blk f 39 (Zw id),blk ab 302 (rH ab tb t),cL iB t.iv 39 1 t.ids,cL fL t.cv 3 1 t.cs,blk m 171 (Ze ab),blk o 39 (Zw id)]) (fun(sp,a,b)=>(sp=false/\t.find id=(0,false))\/(sp=true/\a=((t.find id).1:Int)/\b=(t.find id).2)) (fun(sp,a,b)=>sp) E rfl eN ?_ ?_ ?_
 . intro fn dd l wl rc ay aI
   have G:=ye [0,2,3,4,5,6,7,8,9,10,1] aI
   have aE:=yd [gK l rc,blk g 3 Bt,blk i 4 [Zp],blk d 171 (Ze ab),blk f 39 (Zw id)] [blk ab 302 (rH ab tb t),cL iB t.iv 39 1 t.ids,cL fL t.cv 3 1 t.cs,blk m 171 (Ze ab),blk o 39 (Zw id),jy dd (some [])] G
   have aC:rc.state = .ready:=by rw[ay]
   have aF:rc.pending=none:=by rw[ay]
   have aG:∀ (z:Bool×Int×Bool) (k c:Nat) (bs:List (World×List Nat)) (L:List fJ) (w:World),k<t.n->c<t.n->(fun(z:Bool×Int×Bool) k c=>z.1=false/\t.rest id k c) z k c->St bs ((fun((sp,a,b):Bool×Int×Bool)=>fN (IT (gK l (Ab sp rc)) g a i b d ab f id)) z :: (Dl ab tb t)++L) w->YR ya l (Zm c ((cE t.cs c:Nat):Int)) w (fun v w' => ∃ z2 b,v = .bool b/\(b=true->(fun(z:Bool×Int×Bool) k c=>z.1=false/\t.rest id k c) z2 (k+1) (iJ t.n c))/\(b=false->(z2.1=true/\z2.2.1=((t.find id).1:Int)/\z2.2.2=(t.find id).2))/\St bs ((fun((sp,a,b):Bool×Int×Bool)=>fN (IT (gK l (Ab sp rc)) g a i b d ab f id)) z2 :: (Dl ab tb t)++L) w'):=by
    rintro⟨sp,a,b⟩ k c bs LT wr hk hc ⟨rfl,ax⟩ ar
    have ar:=ar.unpack
    refine tq (vl:=(Zm c ((cE t.cs c:Nat):Int))) 0 ay ar rfl rfl rfl (jh ar 8 ?_)
    refine tN (tW 0 ar rfl aC rfl (fun ag p=>fM p 5 ?_))
    by_cases ah:((cE t.cs c:Nat):Int)=0
    . have aL:cE t.cs c=0:=by omega
      refine cH p 1 ?_
      skip
      skip
      skip
      refine jI p 13 fun ai H=>?_
      refine Qk 0 H rfl rfl ?_
      intro aj I
      have T:t.find id=(c,false):=TW.aek ax hk o_
      exact⟨_,rfl,(true,(c:Int),false),false,rfl,fun h=>(by cases h),fun _=>⟨rfl,by rw[T],by rw[T]⟩,yd [_,_,_,_,_] _ I⟩
    . obtain⟨j,hj⟩:∃ j,cE t.cs c=j+1:=⟨cE t.cs c-1,o_⟩
      have aA:=F.val hc hj
      have aM:j<t.ids.length:=aA.2.2.1
      have aN:j<65536:=qA aA.2.2.2 F.an
      refine gh p 13 fun ak q=>?_
      refine gL (e:=((j:Nat):Int)) rfl iX (cH q 3 ?_)
      by_cases x:((cE t.ids j):Int)=(id:Int)
      . have aw:cE t.ids j=id:=by have h7:=x;omega
        refine jI q 13 fun al J=>?_
        refine Qk 0 J rfl rfl ?_
        intro am K
        have T:t.find id=(c,true):=TW.aeh ax hk hj aw
        exact⟨_,rfl,(true,(c:Int),true),false,rfl,fun h=>(by cases h),fun _=>⟨rfl,by rw[T],by rw[T]⟩,yd [_,_,_,_,_] _ K⟩
      . have aw:cE t.ids j≠id:=by have h7:=x;omega
        refine fK q 6 ?_
        refine qa 0 q rfl aC aF rfl ?_
        intro ao M
        exact⟨_,rfl,(false,a,b),true,rfl,fun _=>⟨rfl,TW.aei ax hk hj aw⟩,fun h=>(by cases h),yd [_,_,_,_,_] _ M⟩
   have aB:=yd [_,_,_,_,_,_] _ aE
   refine CR.mono (agO (fun((sp,a,b):Bool×Int×Bool)=>fN (IT (gK l (Ab sp rc)) g a i b d ab f id)) (fun(z:Bool×Int×Bool) k c=>z.1=false/\t.rest id k c) (fun(z:Bool×Int×Bool)=>z.1=true/\z.2.1=((t.find id).1:Int)/\z.2.2=(t.find id).2) (false,0,false) l m o ab tb t id wl aG F ⟨rfl,TW.aej t id⟩ (yg aB 0 rfl)) ?_
   rintro _ w9 ⟨⟨sp,a,b⟩,hz,-,aJ⟩
   have aH:=(yw aB aJ).unpack
   have N:=ye [0,10,1,2,3,4,5,6,7,8,9] aH
   refine⟨(sp,a,b),?_,N⟩
   rcases hz with ⟨c,h1,h2⟩|h1
   . exact .inl ⟨h1,TW.aeg h2⟩
   . exact .inr h1
 . rintro⟨sp,a,b⟩ dd ap hC az O
   have hf:t.find id=(0,false):=hC.elim (fun h=>h.2) (fun h=>absurd (h.1.symm.trans az) d_)
   refine sQQ tt none O 9 fun aq P=>?_
   refine uU 0 P rfl rfl ?_
   intro w8 r
   have Q:=ye [5,6,7,0,1,2,3,4,8,9] r
   have av:fP (Z5 ab tb t) w w8 (Z5 ab tb t):=yk Q
   exact⟨_,LN results201 (xL rfl yf rfl (mC r 1 rfl rfl)) (xL rfl nH rfl (mC r 2 rfl rfl)),_,rfl,by rw[hf];rfl,av⟩
 . rintro⟨sp,a,b⟩ dd au hC az y
   have hf:a=((t.find id).1:Int)/\b=(t.find id).2:=hC.elim (fun h=>absurd (h.1.symm.trans az) d_) (fun h=>h.2)
   refine rX tt none y 2 ?_
   refine uU 0 y rfl rfl ?_
   intro w8 r
   have R:=ye [5,6,7,0,1,2,3,4,8,9] r
   have av:fP (Z5 ab tb t) w w8 (Z5 ab tb t):=yk R
   exact⟨_,LN results201 (xL rfl yf rfl (mC r 1 rfl rfl)) (xL rfl nH rfl (mC r 2 rfl rfl)),_,rfl,by rw[hf.1,hf.2],av⟩
theorem D6(t:TW)(w:World)(a:Own (Z5 ab tb t) w)(c:t.ok)(id:Int)(p:Nat)(b:Bool)(d:t.find id=(p,b)) :
 CQ ya 201 (pJ ab id) w (.tuple (qG p b)) (Z5 ab tb t):=by
 have h:=agi ab tb t w a c id
 rw[d]at h
 exact h
theorem xU(t:TW)(w:World)(d:Own (Z5 ab tb t) w)(e:t.ok) :
 CQ ya 179 (Zg ab) w (.bool true) (Z5 ab tb t):=by
 refine ja func179 d 8 fun b=>?_
 refine lF (a:=some ⟨ab,0,none⟩) (c:=true) rfl rfl rfl underlying171 rfl (cH b 6 ?_)
 refine w6 (a:=⟨ab,0,none⟩) rfl rfl rfl underlying171 HA (fK b 5 ?_)
 refine gT (v:=Zi) results179 rfl ?_
 exact⟨rfl,yk b⟩
theorem agl(t:TW)(w:World)(b:Own (TW.R ab tb t) w)(id:Int)(i:Nat)(hi:t.A.iw i)(l:cE t.ids i=id) :
 CQ ya 203 (pJ ab id) w (.tuple (Bi i)) (TW.R ab tb t):=by
 have r:t.cs.length=t.n:=rfl
 have s:=b.fact.top
 obtain⟨p,hp,h,j⟩:=b.fact.J6 hi
 rw[l]at j
 have m:=(b.fact.val hp h).2.2.2
 have q:i<65536:=qA m b.fact.an
 have o:=(b.fact.val hp h).2.2.1
 refine gj func203 ?_
 have k:=Own.of b.un
 have d:t.ok:=b.fact
 refine fM k 10 ?_
 refine gy (xU ab tb t w · d) k fun f c=>cH c 10 ?_
 refine gy (D6 ab tb t f · d id p true j) c fun g a=>cH a 26 ?_
 refine gL (e:=((i:Nat):Int)) rfl iX (fK a 5 ?_)
 refine kC (v:=(Za ((i:Nat):Int))) (v' := Zi) results203 rfl rfl ?_
 exact⟨rfl,yj (yn (p:=(t:TW).ok) (yd [_,_,_,_] _ a) d) za⟩
theorem agk(t:TW)(w:World)(a:Own (TW.R ab tb t) w)(id:Int)(i:¬ t.mem id) :
 CQ ya 203 (pJ ab id) w (.tuple C9) (TW.R ab tb t):=by
 have k:t.cs.length=t.n:=rfl
 have l:=a.fact.top
 obtain⟨p,hp,h,j,m⟩:=a.fact.QB i
 refine gj func203 ?_
 have g:=Own.of a.un
 have c:t.ok:=a.fact
 refine fM g 10 ?_
 refine gy (xU ab tb t w · c) g fun e b=>cH b 10 ?_
 refine gy (D6 ab tb t e · c id p false h) b fun f d=>?_
 refine jk d 23 Zc Zp ?_
 exact⟨rfl,yj (yn (p:=(t:TW).ok) (yd [_,_,_,_] _ d) c) za⟩
theorem Ht(t:TW)(w:World)(d:Own (TW.R ab tb t) w)(id:Int) :
 CR ya 203 (pJ ab id) w (fun r w' => ∃ (z:Nat) (b:Bool),r = .tuple (qG z b)/\TW.pE t id z b/\fP (TW.R ab tb t) w w' (TW.R ab tb t)):=by
 by_cases hm:t.mem id
 . obtain⟨i,hi,e⟩:=hm
   exact CR.mono (agl ab tb t w d id i hi e) fun r w' ⟨a,c⟩=>⟨i,true,a,.inl ⟨rfl,hi,e⟩,c⟩
 . exact CR.mono (agk ab tb t w d id hm) fun r w' ⟨a,c⟩=>⟨0,false,a,.inr ⟨rfl,rfl,hm⟩,c⟩
theorem agH(t:TW)(w:World)(b:Own (TW.R ab tb t) w) :
 CQ ya 103 (Zg ab) w (.int .i64 (t.A.used:Int)) (TW.R ab tb t):=by
 have f:=b.fact
 refine gj func103 ?_
 have g:=Own.of b.un
 have f:t.ok:=b.fact
 refine fM g 9 ?_
 refine gy (xU ab tb t w · f) g fun d a=>cH a 12 ?_
 refine gF 3 a (Na tb t.w d ·) fun e c=>?_
 refine gm c 4 (Za t.A.used) ?_
 exact⟨rfl,yj (yn (p:=(t:TW).ok) (yd [_,_,_,_] _ c) f) za⟩
theorem agR(t:TW)(w:World)(b:Own (TW.R ab tb t) w)(id:Int)(i:Nat)(hi:t.A.iw i)(l:cE t.ids i=id) :
 CQ ya 210 (pJ ab id) w (.tuple #[.int .i64 (i:Int),.bool false,.int .i64 0]) (TW.R ab tb t):=by
 have r:t.cs.length=t.n:=rfl
 have s:=b.fact.top
 obtain⟨p,hp,h,j⟩:=b.fact.J6 hi
 rw[l]at j
 have m:=(b.fact.val hp h).2.2.2
 have q:i<65536:=qA m b.fact.an
 have o:=(b.fact.val hp h).2.2.1
 refine gj func210 ?_
 have k:=Own.of b.un
 have d:t.ok:=b.fact
 refine fM k 11 ?_
 refine gy (xU ab tb t w · d) k fun f c=>cH c 10 ?_
 refine gy (D6 ab tb t f · d id p true j) c fun g a=>cH a 23 ?_
 refine gL (e:=((i:Nat):Int)) rfl iX (fK a 7 ?_)
 refine r0 (v:=(Za ((i:Nat):Int))) (v' := Zp) (v'' := Zc) results210 rfl rfl rfl ?_
 exact⟨rfl,yj (yn (p:=(t:TW).ok) (yd [_,_,_,_] _ a) d) za⟩
theorem agQ(t:TW)(w:World)(j:Own (TW.R ab tb t) w)(id:Int)(U:¬ t.mem id)(X:ij .u64 id)(hu:t.A.used<t.A.n) :
 CR ya 210 (pJ ab id) w (fun r w' => ∃ (i:Nat) (T:TW),r = .tuple #[.int .i64 (i:Int),.bool true,.int .i64 0]/\((∀ x,T.mem x↔t.mem x\/x=id)/\T.A.n=t.A.n/\T.A.used=t.A.used+1/\TW.Kp t T)/\fP (TW.R ab tb t) w w' (TW.R ab tb T)):=by
 have ah:t.cs.length=t.n:=rfl
 have ai:=j.fact.top
 obtain⟨p,hp,hf,V,Z⟩:=j.fact.QB U
 have af:t.ids.length=t.w.A.begun:=j.fact.uR
 have ag:(t.ids++[0]).length=t.ids.length+1:=by simp
 have ac:t.w.A.begun<=t.w.A.n:=j.fact.p8
 have aa:t.w.A.n<=65536:=j.fact.an
 refine gj func210 ?_
 have Y:=Own.of j.un
 have l:t.ok:=j.fact
 refine fM Y 11 ?_
 refine gy (xU ab tb t w · l) Y fun B k=>cH k 10 ?_
 refine gy (D6 ab tb t B · l id p false hf) k fun C h=>cH h 22 ?_
 refine cl (U5 tb t.w C (yg h 3 rfl) hu) ?_
 rintro _ G ⟨a,d,rfl,b,ht⟩
 have c:=yt 3 h ht
 have W:=(j6 c (i:=3) rfl:d.A.ok)
 have ad:a<=t.ids.length:=by rcases b.p8 with h9|h9<;>omega
 have ae:a<=65536:=by omega
 refine cH c 25 ?_
 refine iA (m:=t.ids.length) 1 rfl rfl yx c rfl ?_
 by_cases H:((a:Nat):Int)=(t.ids.length:Int)
 . refine cH c 10 ?_
   refine jB (vs:=Dh) (cs:=Dh) rfl rfl yx jm rfl (by simp[Value.cells]) rfl rfl rfl c (fun D I J K o=>kR (cf:=iB) (ys:=t.ids) (zs:=[0]) (LL:=fun e=>[iD .u64 (Zu D) 39 ([0]),blk ab 302 (rH ab tb t),cL iB e 39 1 (t.ids++[0]),cL fL t.cv 3 1 t.cs,(AW.R tb d)]) 2 rfl rfl rfl yx jm rfl d_ o rfl (kG o (i:=0) rfl) (fun x hx=>zr.1 (show List.all _ _=true from rfl) x hx) (by simp only[zb,zd,maxLen];omega) (by simp only[zb,zd,maxLen];omega) f_ ?_)
   intro e L E M
   have g:=ye [1,2,3,4] E
   refine cH g 2 ?_
   refine iS 0 g (fun N q=>?_) (hvs:=(cells_one (yh g (i:=1) rfl))) (h1:=(gD (yh g (i:=1) rfl) je))
   refine cH q 11 ?_
   refine iz (f:=(fun _=>id)) 1 q (fun O s=>?_)
   refine cH s 12 ?_
   refine iz (f:=(fun _=>(a+1))) 2 s (fun P u=>?_)
   refine fK u 11 ?_
   refine r0 (v:=(Za ((a:Nat):Int))) (v' := Zi) (v'' := Zc) results210 rfl rfl rfl ?_
   have F:=l.put U X W b hp V Z e t.cv (is2:=cO (t.ids++[0]) a (fun _=>id)) (cs2:=cO t.cs p (fun _=>(a+1))) (by unfold uZ;rw[if_pos o_]) rfl
   exact⟨a,⟨e,t.cv,d,cO (t.ids++[0]) a (fun _=>id),cO t.cs p (fun _=>(a+1))⟩,rfl,⟨F.2,b.n,b.used,l.Tg b (by unfold uZ;rw[if_pos o_])⟩,yj (yn (p:=(⟨e,t.cv,d,cO (t.ids++[0]) a (fun _=>id),cO t.cs p (fun _=>(a+1))⟩:TW).ok) (yd [_,_,_,_] _ u) F.1) za⟩
 . refine cH c 15 ?_
   refine iz (f:=(fun _=>id)) 1 c (fun Q y=>?_)
   refine cH y 12 ?_
   refine iz (f:=(fun _=>(a+1))) 2 y (fun S z=>?_)
   refine fK z 11 ?_
   refine r0 (v:=(Za ((a:Nat):Int))) (v' := Zi) (v'' := Zc) results210 rfl rfl rfl ?_
   have F:=l.put U X W b hp V Z t.iv t.cv (is2:=cO t.ids a (fun _=>id)) (cs2:=cO t.cs p (fun _=>(a+1))) (by unfold uZ;rw[if_neg o_]) rfl
   exact⟨a,⟨t.iv,t.cv,d,cO t.ids a (fun _=>id),cO t.cs p (fun _=>(a+1))⟩,rfl,⟨F.2,b.n,b.used,l.Tg b (by unfold uZ;rw[if_neg o_])⟩,yj (yn (p:=(⟨t.iv,t.cv,d,cO t.ids a (fun _=>id),cO t.cs p (fun _=>(a+1))⟩:TW).ok) (yd [_,_,_,_] _ z) F.1) za⟩
theorem agm(t:TW)(cs2:List Nat)(d:cs2.length=t.n)(w:World)(b:Own (IF ab tb t cs2) w)(c:TW.Sz t.n)(id:Int) :
 CQ ya 277 (pJ ab id) w (.int .i64 ((lE t.n id:Nat):Int)) (IF ab tb t cs2):=by
 have a:TW.n ⟨t.iv,t.cv,t.w,t.ids,cs2⟩=t.n:=d
 have h:=T7 ab tb ⟨t.iv,t.cv,t.w,t.ids,cs2⟩ w b (by rw[a];exact c) id
 rw[a]at h
 exact h
theorem agf(t:TW)(w:World)(O:Own (Z5 ab tb t) w)(k:t.ok)(p i:Nat)(hp:p<t.n)(hc:cE t.cs p=i+1) :
 CR ya 202 (Zk ab ((p:Nat):Int)) w (fun r w' => r = .tuple #[]/\∃ C,C.length=t.n/\(sH t.n C (fun j=>lE t.n (cE t.ids j))/\(∀ p q,p<t.n->q<t.n->cE C p≠0->cE C p=cE C q->p=q)/\(∀ J,(∃ p,p<t.n/\cE C p=J+1)↔J≠i/\∃ p,p<t.n/\cE t.cs p=J+1))/\fP (Z5 ab tb t) w w' (IF ab tb t C)):=by
 have ac:t.cs.length=t.n:=rfl
 have W:=k.two
 have ad:=k.top
 have L:0<t.n:=by omega
 obtain⟨z,U,V⟩:=k.zero
 have N:qC t.n (fun j=>lE t.n (cE t.ids j)) i t.cs t.cs p p z:=qC.start k.G0 rfl hp hc U V (fun q j _ _=>zJ L) k.inj
 refine ja func202 O 7 fun H=>?_
 refine iA (m:=t.cs.length) 2 rfl rfl yc H rfl (fZ H 15 ?_)
 refine lp (α:=List Nat×Nat×Nat) (fun(cs,hole,c)=>[(0,(Zb ab)),(1,(Za ((hole:Nat):Int))),(4,(Za ((t.cs.length:Int)-1))),(5,(Za ((c:Nat):Int)))]) (fun(cs,hole,c) w1=>St [(w,(Z5 ab tb t).gq)] [blk ab 302 (rH ab tb t),cL iB t.iv 39 1 t.ids,cL fL t.cv 3 1 cs] w1/\qC t.n (fun j=>lE t.n (cE t.ids j)) i t.cs cs hole c z) (fun(cs,hole,c)=>dst t.n c z) (t.cs,p,p) oh (⟨H,N⟩) ?_
 rintro⟨cs,hole,c⟩ u s ⟨B,A⟩
 have E:=A.next
 have I:iJ t.n c<t.n:=E.1
 have S:=A.xe
 have P:=A.PU
 have aa:=A.len
 refine fM B 6 ?_
 refine bi (a:=((c:Nat):Int)+1) (b:=(t.cs.length:Int)-1) (e:=((iJ t.n c:Nat):Int)) rfl rfl rfl (k.p2.nx P) (cH B 19 ?_)
 by_cases g:(((cE cs (iJ t.n c)):Nat):Int)=0
 . have M:cE cs (iJ t.n c)=0:=by have F:=@g;omega
   refine cH B 17 ?_
   refine iz (f:=(fun _=>0)) (cf:=fL) 2 B (fun v h=>?_)
   refine jU h 2 ?_
   exact⟨rfl,cO cs hole (fun _=>0),by rw[gd];exact A.len,A.done M ⟨p,hp,hc⟩,yk h⟩
 . obtain⟨j,D⟩:∃ j,cE cs (iJ t.n c)=j+1:=⟨cE cs (iJ t.n c)-1,by have F:=@g;omega⟩
   obtain⟨X,q9,T,Q⟩:=(A.mem j).1 ⟨iJ t.n c,I,E.2.1,D⟩
   have K:=k.val T Q
   have Y:j<t.ids.length:=K.2.2.1
   have Z:j<65536:=qA K.2.2.2 k.an
   have R:=zJ (id:=cE t.ids j) L
   refine cH B 1 ?_
   rw[D]
   refine cH B 15 ?_
   refine gL (e:=((j:Nat):Int)) rfl iX (cH B 2 ?_)
   refine gy (agm ab tb t cs A.len s · k.sz (cE t.ids j)) B fun x d=>cH d 2 ?_
   refine bi (a:=((iJ t.n c:Nat):Int)-((lE t.n (cE t.ids j):Nat):Int)) (b:=(t.cs.length:Int)-1) (e:=((dst t.n (lE t.n (cE t.ids j)) (iJ t.n c):Nat):Int)) rfl rfl rfl (k.p2.dst R I) (cH d 4 ?_)
   refine bi (a:=((iJ t.n c:Nat):Int)-((hole:Nat):Int)) (b:=(t.cs.length:Int)-1) (e:=((dst t.n hole (iJ t.n c):Nat):Int)) rfl rfl rfl (k.p2.dst S I) ?_
   by_cases l:((dst t.n (lE t.n (cE t.ids j)) (iJ t.n c):Nat):Int)<((dst t.n hole (iJ t.n c):Nat):Int)
   . have G:(dst t.n (lE t.n (cE t.ids j)) (iJ t.n c)<dst t.n hole (iJ t.n c)):=by have F:=l;omega
     refine fK d 7 ?_
     exact gM (cs,hole,(iJ t.n c)) oh (⟨d,A.skip D G⟩) (by show dst t.n (iJ t.n c) z<dst t.n c z;exact E.2.2.2.2)
   . have G:¬ (dst t.n (lE t.n (cE t.ids j)) (iJ t.n c)<dst t.n hole (iJ t.n c)):=by have F:=l;omega
     refine cH d 15 ?_
     refine iz (f:=(fun _=>(j+1))) 2 d (fun y o=>?_)
     refine fK o 7 ?_
     exact gM (cO cs hole (fun _=>(j+1)),(iJ t.n c),(iJ t.n c)) oh (⟨o,A.move D G⟩) (by show dst t.n (iJ t.n c) z<dst t.n c z;exact E.2.2.2.2)
theorem MA(t:TW)(w:World)(g:Own (TW.R ab tb t) w)(id:Int)(i:Nat)(hi:t.A.iw i)(D:cE t.ids i=id) :
 CR ya 131 (pJ ab id) w (fun r w' => ∃ (v:TW),r = .int .i64 0/\((∀ x,v.mem x↔t.mem x/\x≠id)/\v.A.n=t.A.n/\v.A.used=t.A.used-1/\0<t.A.used/\TW.Kp t v)/\fP (TW.R ab tb t) w w' (TW.R ab tb v)):=by
 have M:t.cs.length=t.n:=rfl
 have N:=g.fact.top
 obtain⟨p,hp,C,E⟩:=g.fact.J6 hi
 rw[D]at E
 have I:=(g.fact.val hp C).2.2.2
 have L:i<65536:=qA I g.fact.an
 have K:=(g.fact.val hp C).2.2.1
 refine gj func131 ?_
 have F:=Own.of g.un
 have j:t.ok:=g.fact
 refine fM F 9 ?_
 refine gy (xU ab tb t w · j) F fun q h=>cH h 10 ?_
 refine gy (D6 ab tb t q · j id p true E) h fun s b=>cH b 26 ?_
 refine gL (e:=((i:Nat):Int)) rfl iX (cH b 11 ?_)
 refine cl (U9 tb t.w s (yg b 3 rfl) i hi) ?_
 rintro _ u ⟨c,rfl,a,ht⟩
 have d:=yt 3 b ht
 have G:=(j6 d (i:=3) rfl:c.A.ok)
 have k:=yd [_,_,_] _ d
 refine cH d 16 ?_
 refine cl (agf ab tb t u (yg k 0 rfl) j p i hp C) ?_
 rintro _ y ⟨rfl,l,J,H,ht⟩
 have m:=(yw k ht)
 refine cH m 10 ?_
 refine iz (f:=(fun _=>0)) (cf:=iB) 1 m (fun z o=>?_)
 refine gm o 8 Zc ?_
 have B:=j.del hi G a J H t.iv t.cv (is2:=cO t.ids i (fun _=>0)) rfl
 rw[D]at B
 exact⟨⟨t.iv,t.cv,c,cO t.ids i (fun _=>0),l⟩,rfl,⟨B.2,a.n,a.used,a.pos,j.X5 hi a rfl (by rw[D];exact B.2)⟩,yj (yn (p:=(⟨t.iv,t.cv,c,cO t.ids i (fun _=>0),l⟩:TW).ok) (yd [_,_,_,_] _ o) B.1) za⟩
theorem Xq(hv:gV 1 iB (fun _=>True) w v xs)(m:xs.length<=1000000) :
 CR ya 278 #[v] w (fun r w' => pY 1 iB w w' r 39 xs/\gE [] w w'):=by
 refine iE func278 9 fun l=>?_
 refine BJ (v:=v) rfl rfl rfl yx hv (fZ l 2 ?_)
 cases e:(vT v:Bool)
 . skip
   refine fM l 5 ?_
   refine jB (vs:=[]) (cs:=[]) rfl rfl yx jm rfl (by intro v hv;simp at hv) rfl rfl rfl l ?_
   intro f g h i c
   have d:=c
   refine cH c 1 ?_
   refine kR (cf:=iB) (ys:=[]) (zs:=xs) (LL:=fun a=>[cL iB a 39 1 xs]) 0 rfl rfl rfl yx jm rfl d_ d rfl (gV.src (yu d s_ d_ hv) f_) (xd f_ _) (by simp only[zd];omega) (by simp only[zd];omega) f_ (fun a j b k=>fK b 4 ?_)
   refine gT (v:=a) results278 rfl ?_
   exact⟨Ct b s_,b.gf s_⟩
 . skip
   refine qP l 8 Zh ?_
   obtain rfl:=B4 e hv
   exact⟨pY.B3, l.gf s_⟩
theorem DA(xs:List Nat)(w:World)(hv:gV 1 fL (fun _=>True) w v xs)(m:xs.length<=1000000) :
 CR ya 82 #[v] w (fun r w' => pY 1 fL w w' r 3 xs/\gE [] w w'):=by
 refine iE func82 9 fun l=>?_
 refine BJ (v:=v) rfl rfl rfl yc hv (fZ l 2 ?_)
 cases e:(vT v:Bool)
 . skip
   refine fM l 5 ?_
   refine jB (vs:=[]) (cs:=[]) rfl rfl yc fU rfl (by intro v hv;simp at hv) rfl rfl rfl l ?_
   intro f g h i c
   have d:=c
   refine cH c 1 ?_
   refine kR (cf:=fL) (ys:=[]) (zs:=xs) (LL:=fun a=>[cL fL a 3 1 xs]) 0 rfl rfl rfl yc fU rfl d_ d rfl (gV.src (yu d s_ d_ hv) f_) (xd f_ _) (by simp only[zd];omega) (by simp only[zd];omega) f_ (fun a j b k=>fK b 4 ?_)
   refine gT (v:=a) results82 rfl ?_
   exact⟨Ct b s_,b.gf s_⟩
 . skip
   refine qP l 8 Zh ?_
   obtain rfl:=B4 e hv
   exact⟨pY.B3, l.gf s_⟩
theorem agh(t:TW)(w:World)(j:Own (TW.R ab tb t) w) :
 CR ya 205 (Zg ab) w (fun r w' => ∃ (O P:Nat) (J:TW),r = .pointer (some ⟨O,0,none⟩)/\((∀ x,J.mem x↔t.mem x)/\J.A.n=t.A.n/\J.A.used=t.A.used)/\fP (TW.R ab tb t) w w' (fN [(TW.R ab tb t),(TW.R O P J)])):=by
 have X:t.cs.length=t.n:=rfl
 have Y:=j.fact.top
 have W:t.ids.length=t.w.A.begun:=j.fact.uR
 have V:t.w.A.begun<=t.w.A.n:=j.fact.p8
 have U:t.w.A.n<=65536:=j.fact.an
 refine gj func205 ?_
 have N:=Own.of j.un
 have K:t.ok:=j.fact
 refine fM N 9 ?_
 refine gy (xU ab tb t w · K) N fun D k=>fZ k 7 ?_
 refine jS mixed [([0,1,2,3,5,6,7,8,10,11,12,13,4],[8,13]),([9],[13])] [14,15,16,17] k (fun o e=>iY ?_)
 refine cH e 12 ?_
 refine cl (U8 tb t.w o (yg e 3 rfl)) ?_
 rintro _ q ⟨c,d,rfl,s,ht⟩
 have u:=ye [3,0,1,2] e
 have f:=yp (yt 0 u ht)
 refine fK f 1 ?_
 refine jF (iY ?_)
 refine cl (Xq t.iv t.ids q (yv f 3 rfl).any (by first|omega|(simp;omega))) ?_
 rintro a l F
 have g:=tB f F.2 F.1
 refine fK g 1 ?_
 refine jF (jX ?_)
 refine cl (DA t.cv t.cs l (yv g 5 rfl).any (by first|omega|(simp;omega))) ?_
 rintro b y F
 have h:=tB g F.2 F.1
 refine iL (pvs:=[(1,(Zb c)),(2,a),(3,b)]) (v:=.agg #[Zq,(Zb c),a,b]) rfl rfl (i6 [(1,(Ze c)),(2,[a]),(3,[b])] HA SX rfl ⟨rfl,rfl,rfl,(cells_one (yh h (i:=1) rfl)),rfl,(cells_one (yh h (i:=0) rfl)),trivial⟩ rfl) (gN h (fun m E G H z=>?_))
 refine jI z 19 fun I B=>?_
 refine gT (v:=(Zb m)) results205 rfl ?_
 have C:=ye [5,6,7,3,0,2,1,4] B
 obtain⟨Z,L⟩:=s
 have M:=K.copy L a b
 have T:=yn (p:=t.ok) (yd [_,_,_,_] _ C) K
 have Q:=yn (p:=(⟨a,b,d,t.ids,t.cs⟩:TW).ok) (yd [_,_,_,_] _ (lJ T (qx (l₁:=[_]) (l₂:=[_,_,_,_]) |>.append_right _))) M.1
 have S:=lJ Q (List.Perm.swap _ _ _)
 exact⟨m,c,⟨a,b,d,t.ids,t.cs⟩,rfl,⟨M.2,by rw[show TW.A ⟨a,b,d,t.ids,t.cs⟩=_ from L],by rw[show TW.A ⟨a,b,d,t.ids,t.cs⟩=_ from L]⟩,yk S⟩
theorem agN(m:Nat)(w:World)(hm:m<=65536) :
 CR ya 219 (Z3 ((m:Nat):Int)) w (fun r w' => ∃ (tb ab:Nat) (t:TW),r = .tuple (Z1 tb)/\((∀ x,¬ t.mem x)/\t.A.n=m/\t.A.used=0)/\fP (fN []) w w' (TW.R tb ab t)):=by
 refine iE func219 9 fun O=>?_
 refine cl (Vh m w hm) ?_
 rintro _ z ⟨b,d,rfl,g,ht⟩
 have h:=(y9 O ht)
 refine fZ h 24 ?_
 refine lp (α:=Nat) (fun k=>[(0,(Za ((m:Nat):Int))),(2,Zq),(3,Zc),(4,(Zb b)),(5,Zc),(6,(Za ((k:Nat):Int)))]) (fun k w1=>St [(w,[])] [(AW.R b d)] w1/\P2 k/\2<=k/\(k=2\/k<4*m)) (fun k=>4*m-k) 2 oh (⟨h,P2.two,o_,.inl rfl⟩) ?_
 rintro k B C ⟨F,L,N,P⟩
 have Q:k<=262144:=by omega
 refine fM F 6 ?_
 by_cases D:((k:Nat):Int)<(2*((m:Nat):Int):Int)
 . refine cH F 9 ?_
   refine gL (e:=((k*2:Nat):Int)) rfl iX (fK F 3 ?_)
   exact gM (k*2) oh (⟨F,L.X3 o_,o_,o_⟩) o_
 . refine cH F 13 ?_
   refine kA (cf:=fL) (z0:=0) (m:=k) (c:=k) rfl rfl rfl yc fU rfl f_ d_ (zh _) o_ o_ F (fun a E G H j=>iL (pvs:=[(1,(Zb b)),(3,(Zf a k))]) (v:=.agg #[Zq,(Zb b),Zh,(Zf a k)]) rfl rfl (i6 [(1,(Ze b)),(3,(p6 a k))] HA SX rfl oh rfl) (gN j (fun f I J K l=>?_)))
   refine jI l 20 fun o q=>?_
   refine kC (v:=(Zb f)) (v' := Zc) results219 rfl rfl ?_
   have s:=mR (cf:=fL) q (i:=1) rfl f_ (zh _) (by simp only[maxLen];omega)
   have u:=nU s 39 1
   have y:=ye [1,0,2,3] u
   have M:=TW.uX g hm L N o_ o_ Zh (Zf a k)
   exact⟨f,b,⟨.slice none 0 0,(Zf a k),d,[],List.replicate k 0⟩,rfl,⟨M.2,by rw[show TW.A ⟨.slice none 0 0,(Zf a k),d,[],List.replicate k 0⟩=_ from g];rfl,by rw[show TW.A ⟨.slice none 0 0,(Zf a k),d,[],List.replicate k 0⟩=_ from g];rfl⟩,uu (yn (p:=(⟨.slice none 0 0,(Zf a k),d,[],List.replicate k 0⟩:TW).ok) (yd [_,_,_,_] _ y) M.1) s_⟩
theorem RB(y:Int)(w:World) :
 CK ya 187 (vA x y) w (.bool (decide (x<y))):=by
 refine iE func187 8 fun b=>?_
 refine ig b (acp x w) fun c a=>cH a 8 ?_
 by_cases d:(x:Int)<(y:Int)
 . refine gm a 6 Zi ?_
   exact⟨congrArg Value.bool (decide_eq_true o_).symm,a.gf s_⟩
 . refine gm a 6 Zp ?_
   exact⟨congrArg Value.bool (decide_eq_false o_).symm,a.gf s_⟩
theorem aaw(I:Own (rL v xs) w)(L:xs.length<=1000000) :
 CR ya 345 #[v,Zc,(Za xs.length)] w (fun r w' => ∃ ys:List Int,r = .tuple #[]/\(ys.Perm xs/\nr ys ys.length)/\fP (rL v xs) w w' (rL v ys)):=by
 refine gj func345 ?_
 have G:=yy I
 refine oW G 8 ?_
 refine lp (α:=Nat×List Int) (fun(i,ys)=>[(0,v),(1,Zc),(2,(Za xs.length)),(6,(Za i))]) (fun(i,ys) w1=>St [(w,(rL v xs).gq)] [cL iB v 39 1 ys] w1/\ys.Perm xs/\nr ys i/\1<=i) (fun(i,ys)=>xs.length+1-i) (1,xs) oh (⟨G,List.Perm.refl _,nr.zero,o_⟩) ?_
 rintro⟨i,ys⟩ m n ⟨l,D,E,hi⟩
 have M:=D.length_eq
 refine fM l 5 ?_
 by_cases o:(i:Int)<(xs.length:Int)
 . refine fZ l 15 ?_
   refine lp (α:=Nat×List Int) (fun(j,zs)=>[(0,v),(1,Zc),(2,(Za xs.length)),(6,(Za i)),(7,(Za j))]) (fun(j,zs) w1=>St [(w,(rL v xs).gq)] [cL iB v 39 1 zs] w1/\zs.Perm xs/\uF zs i j/\j<=i) (fun(j,zs)=>j) (i,ys) oh (⟨l,D,E.at,o_⟩) ?_
   rintro⟨j,zs⟩ s t ⟨J,C,B,F⟩
   have N:=C.length_eq
   refine ny J 5 fun h a=>?_
   by_cases u:(j:Int)>0
   . refine cH a 9 ?_
     refine iH (cf:=iB) (k:=(j-1)) (i:=(j:Int)-1) rfl rfl rfl yx jm (yv a 0 rfl) o_ o_ (fW om) (cH a 1 ?_)
     refine ig a (RB (cE zs j) (cE zs (j-1)) h) fun x b=>fZ b 3 ?_
     cases d:(decide ((cE zs j)<(cE zs (j-1))):Bool)
     . skip
       refine jh b 12 ?_
       exact gM ((i+1),zs) oh (⟨b,C,B.done o_ F (of_decide_eq_false d),o_⟩) o1
     . skip
       refine ny b 14 fun y c=>?_
       refine iH (cf:=iB) (k:=(j-1)) (i:=(j:Int)-1) rfl rfl rfl yx jm (yv c 0 rfl) o_ o_ (fW om) (cH c 6 ?_)
       refine iz (f:=(fun _=>(cE zs (j-1)))) 0 c (fun z e=>?_)
       refine iH (cf:=iB) (k:=(j-1)) (i:=(j:Int)-1) rfl rfl rfl yx jm (yv e 0 rfl) o_ o_ (fW om) (iz (f:=(fun _=>(cE zs j))) 0 e (fun A g=>?_))
       refine fK g 8 ?_
       exact gM ((j-1),cO (cO zs j (fun _=>(cE zs (j-1)))) (j-1) (fun _=>(cE zs j))) oh (⟨g,(T2 o_ o_).trans C,B.swap o_ F o_ (of_decide_eq_true d),o_⟩) o1
   . refine fK a 27 ?_
     exact gM ((i+1),zs) oh (⟨a,C,(by rw[show j=0 by omega]at B;exact B.Qe),o_⟩) o1
 . refine jU l 8 ?_
   exact⟨ys,rfl,⟨D,fun p q H K=>E p q H o_⟩,iM l⟩
theorem WE(n:Nat)(w:World)(h:n<=12) :
 CR ya 163 (yN n) w (fun r w' => ∃ z,r = .int .i64 z/\gE [] w w'):=by
 refine iE func163 9 fun c=>?_
 refine gz rfl (p9 o_) (cH c 9 ?_)
 refine gz rfl (p9 o_) (cH c 9 ?_)
 refine gz rfl (p9 o_) (cH c 10 ?_)
 refine aal 256 rfl rfl rfl underlying9 rfl o_ o_ fun a b=>(fK c 6 ?_)
 refine gT (v:=(Za (0+(a.toNat:Int)))) results163 rfl ?_
 exact⟨0+(a.toNat:Int),rfl,c.gf s_⟩
theorem Jp(n:Nat)(w:World)(h:n<=12) :
 CR ya 92 (yN n) w (fun r w' => ∃ z,r = .int .i64 z/\gE [] w w'):=by
 refine iE func92 12 fun e=>?_
 refine cl (WE n w o_) ?_
 rintro _ d ⟨a,rfl,c⟩
 have b:=lI e c
 refine gm b 4 (Za a) ?_
 exact⟨a,rfl,b.gf s_⟩
theorem adf(i:Own (rL v xs) w)(z:Int)(j:xs.length<=12) :
 CR ya 328 (N7 v xs.length z) w (fun r w' => ∃ ys:List Int,r = .tuple #[]/\(ys.Perm xs/\nr ys ys.length)/\fP (rL v xs) w w' (rL v ys)):=by
 refine gj func328 ?_
 have h:=yy i
 refine oW h 11 ?_
 refine lp (α:=Nat) (fun k=>[(0,v),(1,Zc),(2,(Za xs.length)),(3,(Za z)),(8,Zi),(9,Zi)]) (fun k w1=>St [(w,(rL v xs).gq)] [cL iB v 39 1 xs] w1) (fun k=>0) 0 oh h ?_
 rintro k e b g
 refine fM g 13 ?_
 refine gz rfl (vH o_) (cH g 8 ?_)
 refine cl (aaw v xs b (yg g 0 rfl) o_) ?_
 rintro _ f ⟨c,rfl,d,ht⟩
 have a:=yt 0 g ht
 refine fK a 7 ?_
 refine xH results328 ?_
 exact⟨c,rfl,d,iM a⟩
theorem afA(j:Own (rL v xs) w)(k:xs.length<=12) :
 CR ya 289 #[v] w (fun r w' => ∃ ys:List Int,r = .tuple #[]/\(ys.Perm xs/\nr ys ys.length)/\fP (rL v xs) w w' (rL v ys)):=by
 refine gj func289 ?_
 have i:=yy j
 refine fM i 3 ?_
 refine iA (m:=xs.length) 0 rfl rfl yx i rfl (cH i 8 ?_)
 refine cl (Jp xs.length w o_) ?_
 rintro _ c ⟨d,rfl,e⟩
 have a:=lI i e
 refine cl (adf v xs c (yg a 0 rfl) d k) ?_
 rintro _ h ⟨f,rfl,g,ht⟩
 have b:=yt 0 a ht
 refine jU b 1 ?_
 exact⟨f,rfl,g,iM b⟩
theorem acq :
 CK ya 188 (yN x) w (.bool false):=by
 refine gj func188 ?_
 have a:=k9 w
 refine qP a 14 Zp ?_
 exact⟨rfl,a.gf s_⟩
theorem WI(hv:gV 1 iB (fun _=>True) w v xs)(hs:xs.Pairwise fun a b=>a<b)(D:xs.length<=1000000) :
 CR ya 112 #[v,(Zo x)] w (fun r w' => ∃ b:Bool,r = .tuple (qG (gX xs x:Int) b)/\gE [] w w'):=by
 refine iE func112 9 fun A=>?_
 refine jO (v:=v) rfl rfl yx hv (fZ A 12 ?_)
 refine lp (α:=Nat×Nat) (fun(i,j)=>[(0,v),(1,(Zo x)),(6,(Za xs.length)),(7,(Za i)),(8,(Za j))]) (fun(i,j) w1=>St [(w,[])] [] w1/\n9 xs x i j/\i<=j/\j<=xs.length) (fun(i,j)=>j-i) (0,xs.length) oh (⟨A,n9.start,o_,o_⟩) ?_
 rintro⟨i,j⟩ o d ⟨m,n,B,C⟩
 refine fM m 5 ?_
 by_cases p:(i:Int)<(j:Int)
 . refine cH m 13 ?_
   refine shr (a:=(i:Int)+(j:Int)) (b:=1) (e:=(((i+j) / 2:Nat):Int)) rfl rfl rfl d_ (Qv (i+j) 1 64 d_) ?_
   obtain⟨f,g⟩:=oT (show ((i+j) / 2)<xs.length by omega)
   refine cH m 11 ?_
   refine ig m (RB f x d) fun q c=>fZ c 2 ?_
   cases h:(decide (f<x):Bool)
   . skip
     refine jh c 6 ?_
     exact gM (i,((i+j) / 2)) oh (⟨c,n.down hs (by rw[iW g];exact of_decide_eq_false h),o_,o_⟩) o1
   . skip
     refine jh c 7 ?_
     exact gM (((i+j) / 2+1),j) oh (⟨c,n.up hs o_ (by rw[iW g];exact of_decide_eq_true h),o_,o_⟩) o1
 . refine cH m 14 ?_
   by_cases s:(i:Int)<(xs.length:Int)
   . obtain⟨k,t⟩:=oT (show i<xs.length by omega)
     refine cH m 7 ?_
     by_cases u:(k:Int)=(x:Int)
     . refine jk m 18 (Za i) Zi ?_
       have z:i=gX xs x:=n9.gX (by rw[show j=i by omega]at n;exact n) o_
       exact⟨true,by rw[z],m.gf s_⟩
     . refine cH m 6 ?_
       refine ig m (acq k d) fun y l=>?_
       refine jk l 11 (Za i) Zp ?_
       have z:i=gX xs x:=n9.gX (by rw[show j=i by omega]at n;exact n) o_
       exact⟨false,by rw[z],l.gf s_⟩
   . refine jk m 25 (Za i) Zp ?_
     have z:i=gX xs x:=n9.gX (by rw[show j=i by omega]at n;exact n) o_
     exact⟨false,by rw[z],m.gf s_⟩
def fR.R(de cQ ub:Nat)(s:fR):fJ:=lC (s.ok de cQ) (fN [blk ub 174 (rI de cQ s (some s.mb)),cL Lv.cells s.lv 43 7 s.live,gP s.mb .u64 p_ s.im,j4 3 s.im,(AW.R s.jx s.aw),(TW.R s.tb s.ab s.t)])
abbrev I5(a b c:Nat) d e f:=(fN [fR.R a b c d,cL Lv.cells e 43 7 f]:fJ)
theorem Cp(d:Own (fR.R ab tb de s) w) :
 CQ ya 83 (Zg de) w (.bool true) (fR.R ab tb de s):=by
 refine gj func83 ?_
 have b:=Own.of d.un
 have e:s.ok ab tb:=d.fact
 refine fM b 8 ?_
 refine lF (a:=some ⟨de,0,none⟩) (c:=true) rfl rfl rfl underlying114 rfl (cH b 5 ?_)
 refine Si (a:=some s.mb) (c:=true) rfl rfl rfl yz rfl (fK b 5 ?_)
 refine gT (v:=Zi) results83 rfl ?_
 exact⟨rfl,yj (yn (p:=fR.ok ab tb s) (yd [_,_,_,_,_,_] _ b) e) za⟩
theorem HK(ub cQ de:Nat)(s:fR)(w:World)(k:Own (fR.R ub cQ de s) w)(id:Int) :
 CR ya 140 (pJ de id) w (fun r w' => ∃ (z:Nat) (b:Bool),r = .tuple (qG z b)/\s.t.pE id z b/\fP (fR.R ub cQ de s) w w' (fR.R ub cQ de s)):=by
 refine gj func140 ?_
 have m:=Own.of k.un
 have l:s.ok ub cQ:=k.fact
 have c:=yn (p:=s.ok ub cQ) (yd [_,_,_,_,_,_] _ m) l
 refine fM m 10 ?_
 refine gF 0 c (Cp ub cQ de s w ·) fun g h=>?_
 have a:=(j7 h).unpack
 refine cH a 13 ?_
 refine cl (Ht s.tb s.ab s.t g (yg a 5 rfl) id) ?_
 rintro _ j ⟨d,e,rfl,i,ht⟩
 have f:=yt 5 a ht
 refine jk f 7 (Za d) (.bool e) ?_
 exact⟨d,e,rfl,i,yj (yn (p:=fR.ok ub cQ s) (yd [_,_,_,_,_,_] _ f) l) za⟩
theorem MZ(ub cQ de:Nat)(s:fR)(w:World)(hO:Own (fR.R ub cQ de s) w)(x:Lv) :
 CQ ya 134 (wR de x) w (.int .i64 (s.gO ub cQ x.u x.v)) (fR.R ub cQ de s):=by
 have ak:s.t.A.used<=s.t.A.n:=hO.fact.tok.ul
 have ah:=hO.fact.n
 have ai:=hO.fact.tn
 have ag:=hO.fact.en
 have aj:=hO.fact.vn
 have af:s.A.used<=s.A.begun:=by have h7:=hO.fact.lY.used;omega
 have ae:=hO.fact.lY.le
 refine gj func134 ?_
 have ad:=Own.of hO.un
 have T:s.ok ub cQ:=hO.fact
 refine fM ad 2 ?_
 refine gN ad (fun L B M N l=>?_)
 have C:=ye [1,2,3,4,5,6,0] l
 have m:=yn (p:=s.ok ub cQ) (yd [_,_,_,_,_,_] _ C) T
 refine cH l 7 ?_
 refine gF 0 m (Cp ub cQ de s B ·) fun O D=>?_
 have g:=(j7 D).unpack
 refine cH g 13 ?_
 by_cases P:(x.u:Int)=(x.v:Int)
 . refine gm g 11 yR ?_
   exact⟨js (fR.PL o_).symm,yj (yn (p:=fR.ok ub cQ s) (yd [_,_,_,_,_,_] _ g) T) za⟩
 . refine fZ g 8 ?_
   refine jS mixed [([0,1,2,3,5,6,7,8,4],[8])] [9] g (fun E k=>iY ?_)
   refine cH k 8 ?_
   refine gF 4 k (Na s.jx s.aw E ·) fun G e=>?_
   refine fK e 1 ?_
   refine jF (jX ?_)
   by_cases Q:(s.A.used:Int)≥(cQ:Int)
   . refine gm e 11 (.int .i64 12) ?_
     exact⟨js (fR.PK o_ o_).symm,yj (yn (p:=fR.ok ub cQ s) (yd [_,_,_,_,_,_] _ e) T) za⟩
   . refine cH e 12 ?_
     refine gF 5 e (agH s.tb s.ab s.t G ·) fun H f=>?_
     refine cH f 10 ?_
     refine iL (pvs:=[(0,(Zo x.u)),(1,(Zo x.v))]) (v:=.agg (vA x.u x.v)) rfl rfl (uN [(0,(Zw x.u)),(1,(Zw x.v))] vi y8 jm rfl oh rfl s_) (fZ f 4 ?_)
     refine qn 3 (iF (fM f 13 ?_))
     refine mO (i:=0) rfl rfl rfl y8 ym rfl jm d_ rfl (cH f 10 ?_)
     refine cl (Ht s.tb s.ab s.t H (yg f 5 rfl) x.u) ?_
     rintro _ o ⟨S,I,rfl,d,ht⟩
     have c:=yt 5 f ht
     refine fZ c 13 ?_
     cases q:(I:Bool)
     . skip
       subst q
       refine jh c 12 ?_
       refine tN (iF (fM c 13 ?_))
       refine mO (i:=1) rfl rfl rfl y8 ym rfl jm d_ rfl (cH c 10 ?_)
       refine cl (Ht s.tb s.ab s.t o (yg c 5 rfl) x.v) ?_
       rintro _ U ⟨V,J,rfl,h,ht⟩
       have a:=yt 5 c ht
       refine fZ a 13 ?_
       cases y:(J:Bool)
       . skip
         subst y
         refine jh a 12 ?_
         refine tN (iF (fM a 20 ?_))
         by_cases W:(((s.t.A.used:Int)+1)+1:Int)>(ub:Int)
         . refine gm a 11 (.int .i64 11) ?_
           have r:=d.cnt
           simp at r
           have F:=h.cnt
           simp at F
           exact⟨js (fR.Dz o_ o_ o_).symm,yj (yn (p:=fR.ok ub cQ s) (yd [_,_,_,_,_,_] _ a) T) za⟩
         . refine gm a 12 Zc ?_
           have r:=d.cnt
           simp at r
           have F:=h.cnt
           simp at F
           exact⟨js (fR.BB o_ o_ o_).symm,yj (yn (p:=fR.ok ub cQ s) (yd [_,_,_,_,_,_] _ a) T) za⟩
       . skip
         subst y
         refine jh a 8 ?_
         refine tN (iF (fM a 20 ?_))
         by_cases X:((s.t.A.used:Int)+1:Int)>(ub:Int)
         . refine gm a 11 (.int .i64 11) ?_
           have r:=d.cnt
           simp at r
           have F:=h.cnt
           simp at F
           exact⟨js (fR.Dz o_ o_ o_).symm,yj (yn (p:=fR.ok ub cQ s) (yd [_,_,_,_,_,_] _ a) T) za⟩
         . refine gm a 12 Zc ?_
           have r:=d.cnt
           simp at r
           have F:=h.cnt
           simp at F
           exact⟨js (fR.BB o_ o_ o_).symm,yj (yn (p:=fR.ok ub cQ s) (yd [_,_,_,_,_,_] _ a) T) za⟩
     . skip
       subst q
       refine jh c 8 ?_
       refine tN (iF (fM c 13 ?_))
       refine mO (i:=1) rfl rfl rfl y8 ym rfl jm d_ rfl (cH c 10 ?_)
       refine cl (Ht s.tb s.ab s.t o (yg c 5 rfl) x.v) ?_
       rintro _ Y ⟨Z,K,rfl,j,ht⟩
       have b:=yt 5 c ht
       refine fZ b 13 ?_
       cases z:(K:Bool)
       . skip
         subst z
         refine jh b 12 ?_
         refine tN (iF (fM b 20 ?_))
         by_cases aa:((s.t.A.used:Int)+1:Int)>(ub:Int)
         . refine gm b 11 (.int .i64 11) ?_
           have r:=d.cnt
           simp at r
           have F:=j.cnt
           simp at F
           exact⟨js (fR.Dz o_ o_ o_).symm,yj (yn (p:=fR.ok ub cQ s) (yd [_,_,_,_,_,_] _ b) T) za⟩
         . refine gm b 12 Zc ?_
           have r:=d.cnt
           simp at r
           have F:=j.cnt
           simp at F
           exact⟨js (fR.BB o_ o_ o_).symm,yj (yn (p:=fR.ok ub cQ s) (yd [_,_,_,_,_,_] _ b) T) za⟩
       . skip
         subst z
         refine jh b 8 ?_
         refine tN (iF (fM b 20 ?_))
         by_cases ac:(s.t.A.used:Int)>(ub:Int)
         . refine gm b 11 (.int .i64 11) ?_
           have r:=d.cnt
           simp at r
           have F:=j.cnt
           simp at F
           exact⟨js (fR.Dz o_ o_ o_).symm,yj (yn (p:=fR.ok ub cQ s) (yd [_,_,_,_,_,_] _ b) T) za⟩
         . refine gm b 12 Zc ?_
           have r:=d.cnt
           simp at r
           have F:=j.cnt
           simp at F
           exact⟨js (fR.BB o_ o_ o_).symm,yj (yn (p:=fR.ok ub cQ s) (yd [_,_,_,_,_,_] _ b) T) za⟩
theorem agZ(a:Own (fR.R ab tb de s) w)(x:Lv)(hc:s.gO ab tb x.u x.v=0) :
 CQ ya 134 (wR de x) w (.int .i64 0) (fR.R ab tb de s):=by
 have h:=MZ ab tb de s w a x
 rw[hc]at h
 exact h
theorem HI(t:TW)(w:World)(f:Own (TW.R ab tb t) w)(id:Int)(o:t.mem id\/t.A.used<t.A.n)(m:ij .u64 id) :
 CR ya 210 (pJ ab id) w (fun r w' => ∃ (z:Nat) (b:Bool) (a:TW),r = .tuple #[.int .i64 (z:Int),.bool b,.int .i64 0]/\TW.A9 t a id/\TW.Kp t a/\fP (TW.R ab tb t) w w' (TW.R ab tb a)):=by
 by_cases hm:t.mem id
 . obtain⟨i,hi,e⟩:=hm
   exact CR.mono (agR ab tb t w f id i hi e) fun r w' ⟨c,d⟩=>⟨i,false,t,c,⟨fun x=>⟨.inl,fun h=>h.elim (fun h=>h) (fun h=>h▸⟨i,hi,e⟩)⟩,rfl,by rw[TW.BC ⟨i,hi,e⟩];rfl⟩,TW.Kp.refl _,d⟩
 . exact CR.mono (agQ ab tb t w f id hm m (o.resolve_left hm)) fun r w' ⟨i,a,c,⟨d,g,j,l⟩,k⟩=>⟨i,true,a,c,⟨d,g,by rw[TW.uP hm];exact j⟩,l,k⟩
theorem ag5(ub cQ de:Nat)(s:fR)(w:World)(hO:Own (fR.R ub cQ de s) w)(x:Lv)(T:x.ok)(hc:s.gO ub cQ x.u x.v=0)(cy:s.last<=9000000000000000000) :
 CR ya 139 #[(Zb de),(Ou x),(Za x.exp)] w (fun r w' => ∃ (i:Nat) (s2:fR),r = .tuple #[(IP i (s.last+1) x),.int .i64 0]/\((∀ y,s2.has y↔s.has y\/y=⟨(i:Int),s.last+1,x.u,x.v,x.wt,x.t,x.exp⟩)/\s2.last=s.last+1/\TW.Kp s.t s2.t)/\fP (fR.R ub cQ de s) w w' (fR.R ub cQ de s2)):=by
 have cB:s.t.A.used<=s.t.A.n:=hO.fact.tok.ul
 have cr:=hO.fact.n
 have ct:=hO.fact.tn
 have cq:=hO.fact.en
 have cu:=hO.fact.vn
 have cm:s.A.used<=s.A.begun:=by have h7:=hO.fact.lY.used;omega
 have ck:=hO.fact.lY.le
 have cn:s.aw.A.used=s.A.used:=rfl
 have co:s.aw.A.n=s.A.n:=rfl
 have cp:s.aw.A.begun=s.A.begun:=rfl
 have cz:(s.live++[(⟨0,0,0,0,0,0,0⟩:Lv)]).length=s.live.length+1:=by simp
 have bc:=fR.JI hc
 have cx:=hO.fact.ug
 have cA:=hO.fact.ll
 have F:∀ id,(fS s.im id).2.length<=65536:=fun id=>hO.fact.Kv id
 refine gj func139 ?_
 have ce:=Own.of hO.un
 have hU:s.ok ub cQ:=hO.fact
 refine fM ce 2 ?_
 refine gN ce (fun j bd be bf aI=>?_)
 refine ir aI (fun l aJ bg bh aq=>?_)
 have aK:=ye [2,3,4,5,6,7,0,1] aq
 have ar:=yn (p:=s.ok ub cQ) (yd [_,_,_,_,_,_] _ aK) hU
 refine cH aq 8 ?_
 refine gF 0 ar (agZ ub cQ de s aJ · x hc) fun aL aM=>?_
 have ad:=(j7 aM).unpack
 refine cH ad 18 ?_
 refine cl (U5 s.jx s.aw aL (yg ad 4 rfl) o_) ?_
 rintro _ bi ⟨b,h,rfl,ae,ht⟩
 have au:=yt 4 ad ht
 have cd:=(j6 au (i:=4) rfl:h.A.ok)
 have cv:b<=s.live.length:=by rcases ae.p8 with h9|h9<;>omega
 have cw:b<=65536:=by omega
 refine r7 au 30 fun bj aN=>?_
 refine jS mixed [([0,1,2,3,4,5,6,7,8],[4,5])] [9] aN (fun bl av=>iY ?_)
 refine cH av 7 ?_
 refine iL (pvs:=[(0,(Za ((b:Nat):Int))),(1,(Zo (s.last+1))),(2,(Ou x)),(3,(Za x.exp))]) (v:=.agg #[(Za ((b:Nat):Int)),(Zo (s.last+1)),(Zo x.u),(Zo x.v),(Za x.wt),(Za x.t),(Za x.exp)]) rfl rfl (i6 [(0,(Zd ((b:Nat):Int))),(1,(Zw (s.last+1))),(2,(rK x)),(3,(Zd x.exp))] o7 LC rfl oh rfl) (ir av (fun q bm bn bo af=>?_))
 refine fK af 1 ?_
 refine nF (ku rfl oF (ku rfl (mZ (xu (cs:=(rK x)) rfl Ep rfl we rfl (mL af (i:=8) (o:=0) (vs:=(rK x)) rfl rfl)) rfl rfl) (trivial))) (jX ?_)
 refine r7 af 5 fun bp H=>?_
 refine qn 3 (iF (fM H 7 ?_))
 refine iA (m:=s.live.length) 2 rfl rfl qu H rfl (cH H 1 ?_)
 by_cases bq:(s.live.length:Int)<=((b:Nat):Int)
 . refine cH H 13 ?_
   refine iL (pvs:=[]) (v:=.agg IA) rfl rfl (i6 [] o7 LC rfl trivial rfl) (jB (vs:=[(.agg IA)]) (cs:=pK) rfl rfl qu o7 rfl (by simp[Value.cells]) rfl rfl rfl H (fun aO br bs bt ax=>kR (cf:=Lv.cells) (ys:=s.live) (zs:=[(⟨0,0,0,0,0,0,0⟩:Lv)]) (LL:=fun B=>[row (Zu aO) 43 7 1 (pK),blk q 43 (rJ ((b:Nat):Int) (s.last+1) x),blk de 174 (Dq ub cQ (s.last+1) s (some s.mb)),cL Lv.cells B 43 7 (s.live++[(⟨0,0,0,0,0,0,0⟩:Lv)]),gP s.mb .u64 p_ s.im,j4 3 s.im,(AW.R s.jx h),(C2 s),blk l 43 pK,blk j 41 (rK x)]) 3 rfl rfl rfl qu o7 rfl d_ ax rfl (kG ax (i:=0) rfl) (fun x hx=>zr.1 (show List.all _ _=true from rfl) x hx) (by simp only[zk,zb,zd,maxLen];omega) (by simp only[zk,zb,zd,maxLen];omega) f_ ?_))
   intro B bu aP bv
   have P:=ye [1,2,3,4,5,6,7,8,9] aP
   refine cH P 2 ?_
   refine iS 1 P (fun bw K=>?_) (hvs:=(cells_one (yh P (i:=2) rfl))) (h1:=(gD (yh P (i:=2) rfl) je))
   refine fK K 2 ?_
   refine tN (iF (fM K 7 ?_))
   refine iA (m:=(s.live++[(⟨0,0,0,0,0,0,0⟩:Lv)]).length) 2 rfl rfl qu K rfl (cH K 1 ?_)
   refine gz rfl (JA (by simp only[zk,zb,zd];omega)) (gh K 17 fun bx aQ=>?_)
   refine iz (f:=(fun _=>(⟨((b:Nat):Int),s.last+1,x.u,x.v,x.wt,x.t,x.exp⟩:Lv))) 2 aQ (fun aR C=>?_)
   refine cH C 6 ?_
   refine ld rfl rfl ym rfl (mC C 8 rfl rfl) (cH C 1 ?_)
   refine ld rfl rfl ym rfl (mC C 8 rfl rfl) (iL (pvs:=[(0,(Zo x.u)),(1,(Zo x.v))]) (v:=.agg (vA x.u x.v)) rfl rfl (uN [(0,(Zw x.u)),(1,(Zw x.v))] vi y8 jm rfl oh rfl s_) (fZ C 4 ?_))
   refine qn 3 (iF (fM C 13 ?_))
   refine mO (i:=0) rfl rfl rfl y8 ym rfl jm d_ rfl (cH C 10 ?_)
   refine cl (HI s.tb s.ab s.t aR (yg C 6 rfl) x.u (TW.Tv o_) T.u) ?_
   rintro _ bz ⟨bA,bB,L,rfl,Q,cg,ht⟩
   have ag:=yt 6 C ht
   have bk:=(j6 ag (i:=6) rfl:L.ok)
   refine fZ ag 2 ?_
   have aS:=ye [4,0,1,2,3,5,6,7,8] ag
   have aT:=AF x.u aS
   refine jS mixed [([0,1,2,3,4,5,6,7,8,9,10,11,12],[3,8,10]),([13],[3])] [14] aT (fun bC S=>iY ?_)
   refine cH S 10 ?_
   refine qK (a:=x.u) (mm:=s.im) (enc:=p_) (k:=.u64) 5 rfl rfl rfl yz ym kF rfl S rfl (cH S 1 ?_)
   refine jB (vs:=(Zd ((b:Nat):Int))) (cs:=(Zd ((b:Nat):Int))) rfl rfl yc fU rfl (by simp[Value.cells]) rfl rfl rfl S (fun aU bD bE bF U=>fK U 1 ?_)
   refine nF (ku rfl oF (ku rfl oF (ku rfl (mZ (zP (a:=x.u) (mm:=s.im) (enc:=p_) (k:=.u64) 6 rfl rfl yz ym kF rfl U rfl) rfl rfl) (trivial)))) (iY ?_)
   refine wX (k:=.i64) (ys:=gi (fS s.im x.u).2) (zs:=[((b:Nat):Int)]) (LL:=fun d=>[iD .i64 (Zu aU) 3 ([((b:Nat):Int)]),iD .i64 d 3 ((gi (fS s.im x.u).2)++([((b:Nat):Int)])),j4 3 (jo s.im x.u),blk q 43 (rJ ((b:Nat):Int) (s.last+1) x),blk de 174 (FB ub cQ (s.last+1) s B (some s.mb)),cL Lv.cells B 43 7 (cO (s.live++[(⟨0,0,0,0,0,0,0⟩:Lv)]) b (fun _=>(⟨((b:Nat):Int),s.last+1,x.u,x.v,x.wt,x.t,x.exp⟩:Lv))),gP s.mb .u64 p_ s.im,(AW.R s.jx h),(Bg s L),blk l 43 pK,blk j 41 (rK x)]) 1 rfl rfl rfl yc fU rfl U rfl (kG U (i:=0) rfl) (by simp only[zk,zb,zd,gi,zm,maxLen];have h7:=F x.u;have h8:=F x.v;first|omega|(rw[uW bc.1];omega)) (by simp only[zk,zb,zd,gi,zm,maxLen];have h7:=F x.u;have h8:=F x.v;first|omega|(rw[uW bc.1];omega)) f_ ?_
   intro d bG aV bH
   have ay:=ye [1,2,3,4,5,6,7,8,9,10] aV
   refine fK ay 1 ?_
   refine jF (jX ?_)
   refine rq (a:=x.u) (c:=(d,(fS s.im x.u).2++[b])) (mm:=s.im) (enc:=p_) (k:=.u64) (L' := (Ow d ((gi (fS s.im x.u).2)++([((b:Nat):Int)])) (jo s.im x.u) q ((b:Nat):Int) (s.last+1) x de ub cQ s B (some s.mb) (cO (s.live++[(⟨0,0,0,0,0,0,0⟩:Lv)]) b (fun _=>(⟨((b:Nat):Int),s.last+1,x.u,x.v,x.wt,x.t,x.exp⟩:Lv))) (gr s.im x.u (d,(fS s.im x.u).2++[b])) h L l j)) 5 rfl rfl rfl rfl yz ym ay rfl rfl (fun az aA=>fK aA 1 ?_)
   have M:St _ (NX (gr s.im x.u (d,(fS s.im x.u).2++[b])) q ((b:Nat):Int) (s.last+1) x de ub cQ s B (some s.mb) (cO (s.live++[(⟨0,0,0,0,0,0,0⟩:Lv)]) b (fun _=>(⟨((b:Nat):Int),s.last+1,x.u,x.v,x.wt,x.t,x.exp⟩:Lv))) h L l j) az:=AK (by have h9:=aA;rw[<-DN]at h9;exact h9)
   refine rX tt none M 6 ?_
   refine tN (iF (fM M 13 ?_))
   refine mO (i:=1) rfl rfl rfl y8 ym rfl jm d_ rfl (cH M 10 ?_)
   refine cl (HI s.tb s.ab L az (yg M 6 rfl) x.v (Q.room o_) T.v) ?_
   rintro _ bI ⟨bJ,bK,I,rfl,ah,ch,ht⟩
   have ai:=yt 6 M ht
   have bk:=(j6 ai (i:=6) rfl:I.ok)
   refine fZ ai 2 ?_
   have aW:=AF x.v ai
   refine jS mixed [([0,1,2,3,4,5,6,7,8,9,10,11,12],[3,8,10]),([13],[3])] [14] aW (fun bL V=>iY ?_)
   refine cH V 10 ?_
   refine qK (a:=x.v) (mm:=(gr s.im x.u (d,(fS s.im x.u).2++[b]))) (enc:=p_) (k:=.u64) 5 rfl rfl rfl yz ym kF rfl V rfl (cH V 1 ?_)
   refine jB (vs:=(Zd ((b:Nat):Int))) (cs:=(Zd ((b:Nat):Int))) rfl rfl yc fU rfl (by simp[Value.cells]) rfl rfl rfl V (fun aX bM bN bO W=>fK W 1 ?_)
   refine nF (ku rfl oF (ku rfl oF (ku rfl (mZ (zP (a:=x.v) (mm:=(gr s.im x.u (d,(fS s.im x.u).2++[b]))) (enc:=p_) (k:=.u64) 6 rfl rfl yz ym kF rfl W rfl) rfl rfl) (trivial)))) (iY ?_)
   refine wX (k:=.i64) (ys:=gi (fS (gr s.im x.u (d,(fS s.im x.u).2++[b])) x.v).2) (zs:=[((b:Nat):Int)]) (LL:=fun D=>[iD .i64 (Zu aX) 3 ([((b:Nat):Int)]),iD .i64 D 3 ((gi (fS (gr s.im x.u (d,(fS s.im x.u).2++[b])) x.v).2)++([((b:Nat):Int)])),j4 3 (jo (gr s.im x.u (d,(fS s.im x.u).2++[b])) x.v),blk q 43 (rJ ((b:Nat):Int) (s.last+1) x),blk de 174 (FB ub cQ (s.last+1) s B (some s.mb)),cL Lv.cells B 43 7 (cO (s.live++[(⟨0,0,0,0,0,0,0⟩:Lv)]) b (fun _=>(⟨((b:Nat):Int),s.last+1,x.u,x.v,x.wt,x.t,x.exp⟩:Lv))),gP s.mb .u64 p_ (gr s.im x.u (d,(fS s.im x.u).2++[b])),(AW.R s.jx h),(Bg s I),blk l 43 pK,blk j 41 (rK x)]) 1 rfl rfl rfl yc fU rfl W rfl (kG W (i:=0) rfl) (by simp only[zk,zb,zd,gi,zm,maxLen];have h7:=F x.u;have h8:=F x.v;first|omega|(rw[uW bc.1];omega)) (by simp only[zk,zb,zd,gi,zm,maxLen];have h7:=F x.u;have h8:=F x.v;first|omega|(rw[uW bc.1];omega)) f_ ?_
   intro D bP aY bQ
   have aB:=ye [1,2,3,4,5,6,7,8,9,10] aY
   refine fK aB 1 ?_
   refine jF (jX ?_)
   refine rq (a:=x.v) (c:=(D,(fS (gr s.im x.u (d,(fS s.im x.u).2++[b])) x.v).2++[b])) (mm:=(gr s.im x.u (d,(fS s.im x.u).2++[b]))) (enc:=p_) (k:=.u64) (L' := (Ow D ((gi (fS (gr s.im x.u (d,(fS s.im x.u).2++[b])) x.v).2)++([((b:Nat):Int)])) (jo (gr s.im x.u (d,(fS s.im x.u).2++[b])) x.v) q ((b:Nat):Int) (s.last+1) x de ub cQ s B (some s.mb) (cO (s.live++[(⟨0,0,0,0,0,0,0⟩:Lv)]) b (fun _=>(⟨((b:Nat):Int),s.last+1,x.u,x.v,x.wt,x.t,x.exp⟩:Lv))) (gr (gr s.im x.u (d,(fS s.im x.u).2++[b])) x.v (D,(fS (gr s.im x.u (d,(fS s.im x.u).2++[b])) x.v).2++[b])) h I l j)) 5 rfl rfl rfl rfl yz ym aB rfl rfl (fun aZ aC=>fK aC 1 ?_)
   have aj:St _ (NX (gr (gr s.im x.u (d,(fS s.im x.u).2++[b])) x.v (D,(fS (gr s.im x.u (d,(fS s.im x.u).2++[b])) x.v).2++[b])) q ((b:Nat):Int) (s.last+1) x de ub cQ s B (some s.mb) (cO (s.live++[(⟨0,0,0,0,0,0,0⟩:Lv)]) b (fun _=>(⟨((b:Nat):Int),s.last+1,x.u,x.v,x.wt,x.t,x.exp⟩:Lv))) h I l j) aZ:=AK (by have h9:=aC;rw[<-DN]at h9;exact h9)
   refine rX tt none aj 6 ?_
   refine tN (iF (fM aj 15 ?_))
   refine iS 7 aj (fun bR ak=>?_)
   refine fK ak 4 ?_
   refine o5 (v:=(IP ((b:Nat):Int) (s.last+1) x)) (v' := Zc) results139 (oI (cs:=(rJ ((b:Nat):Int) (s.last+1) x)) rfl wm rfl o7 rfl (mL ak (i:=7) (o:=0) (vs:=(rJ ((b:Nat):Int) (s.last+1) x)) rfl rfl)) (qm rfl) ?_
   have a0:=ye [2,3,4,0,5,6,1,7,8] ak
   have cc:=hU.ins (e:=(⟨(b:Int),s.last+1,x.u,x.v,x.wt,x.t,x.exp⟩:Lv)) ae cd bk rfl rfl ⟨kZ (by show _/\_;dsimp only;omega),qc (by show _/\_;dsimp only;omega),T.u,T.v,T.wt,T.t,T.exp⟩ bc.1 (fun z=>by rw[ah.mem,Q.mem]) (by rw[ah.n,Q.n]) (lv2:=B) (ls:=cO (s.live++[(⟨0,0,0,0,0,0,0⟩:Lv)]) b (fun _=>(⟨((b:Nat):Int),s.last+1,x.u,x.v,x.wt,x.t,x.exp⟩:Lv))) (by unfold zZ;rw[if_pos o_]<;>rfl) (im2:=(gr (gr s.im x.u (d,(fS s.im x.u).2++[b])) x.v (D,(fS (gr s.im x.u (d,(fS s.im x.u).2++[b])) x.v).2++[b]))) (by rw[uW bc.1];rfl)
   exact⟨b,(⟨s.jx,s.tb,s.ab,s.mb,B,s.last+1,h,I,cO (s.live++[(⟨0,0,0,0,0,0,0⟩:Lv)]) b (fun _=>(⟨((b:Nat):Int),s.last+1,x.u,x.v,x.wt,x.t,x.exp⟩:Lv)),(gr (gr s.im x.u (d,(fS s.im x.u).2++[b])) x.v (D,(fS (gr s.im x.u (d,(fS s.im x.u).2++[b])) x.v).2++[b]))⟩:fR),rfl,⟨cc.2,rfl,Q.zL ah cg ch⟩,yj (yn (p:=fR.ok ub cQ (⟨s.jx,s.tb,s.ab,s.mb,B,s.last+1,h,I,cO (s.live++[(⟨0,0,0,0,0,0,0⟩:Lv)]) b (fun _=>(⟨((b:Nat):Int),s.last+1,x.u,x.v,x.wt,x.t,x.exp⟩:Lv)),(gr (gr s.im x.u (d,(fS s.im x.u).2++[b])) x.v (D,(fS (gr s.im x.u (d,(fS s.im x.u).2++[b])) x.v).2++[b]))⟩:fR)) (yd [_,_,_,_,_,_] _ a0) cc.1) za⟩
 . refine gh H 18 fun bS a1=>?_
   refine iz (f:=(fun _=>(⟨((b:Nat):Int),s.last+1,x.u,x.v,x.wt,x.t,x.exp⟩:Lv))) 2 a1 (fun a2 E=>?_)
   refine cH E 6 ?_
   refine ld rfl rfl ym rfl (mC E 8 rfl rfl) (cH E 1 ?_)
   refine ld rfl rfl ym rfl (mC E 8 rfl rfl) (iL (pvs:=[(0,(Zo x.u)),(1,(Zo x.v))]) (v:=.agg (vA x.u x.v)) rfl rfl (uN [(0,(Zw x.u)),(1,(Zw x.v))] vi y8 jm rfl oh rfl s_) (fZ E 4 ?_))
   refine qn 3 (iF (fM E 13 ?_))
   refine mO (i:=0) rfl rfl rfl y8 ym rfl jm d_ rfl (cH E 10 ?_)
   refine cl (HI s.tb s.ab s.t a2 (yg E 6 rfl) x.u (TW.Tv o_) T.u) ?_
   rintro _ bT ⟨bU,bV,N,rfl,X,ci,ht⟩
   have al:=yt 6 E ht
   have bk:=(j6 al (i:=6) rfl:N.ok)
   refine fZ al 2 ?_
   have a3:=ye [4,0,1,2,3,5,6,7,8] al
   have a4:=AF x.u a3
   refine jS mixed [([0,1,2,3,4,5,6,7,8,9,10,11,12],[3,8,10]),([13],[3])] [14] a4 (fun bW Y=>iY ?_)
   refine cH Y 10 ?_
   refine qK (a:=x.u) (mm:=s.im) (enc:=p_) (k:=.u64) 5 rfl rfl rfl yz ym kF rfl Y rfl (cH Y 1 ?_)
   refine jB (vs:=(Zd ((b:Nat):Int))) (cs:=(Zd ((b:Nat):Int))) rfl rfl yc fU rfl (by simp[Value.cells]) rfl rfl rfl Y (fun a5 bX bY bZ Z=>fK Z 1 ?_)
   refine nF (ku rfl oF (ku rfl oF (ku rfl (mZ (zP (a:=x.u) (mm:=s.im) (enc:=p_) (k:=.u64) 6 rfl rfl yz ym kF rfl Z rfl) rfl rfl) (trivial)))) (iY ?_)
   refine wX (k:=.i64) (ys:=gi (fS s.im x.u).2) (zs:=[((b:Nat):Int)]) (LL:=fun g=>[iD .i64 (Zu a5) 3 ([((b:Nat):Int)]),iD .i64 g 3 ((gi (fS s.im x.u).2)++([((b:Nat):Int)])),j4 3 (jo s.im x.u),blk q 43 (rJ ((b:Nat):Int) (s.last+1) x),blk de 174 (Dq ub cQ (s.last+1) s (some s.mb)),cL Lv.cells s.lv 43 7 (cO s.live b (fun _=>(⟨((b:Nat):Int),s.last+1,x.u,x.v,x.wt,x.t,x.exp⟩:Lv))),gP s.mb .u64 p_ s.im,(AW.R s.jx h),(Bg s N),blk l 43 pK,blk j 41 (rK x)]) 1 rfl rfl rfl yc fU rfl Z rfl (kG Z (i:=0) rfl) (by simp only[zk,zb,zd,gi,zm,maxLen];have h7:=F x.u;have h8:=F x.v;first|omega|(rw[uW bc.1];omega)) (by simp only[zk,zb,zd,gi,zm,maxLen];have h7:=F x.u;have h8:=F x.v;first|omega|(rw[uW bc.1];omega)) f_ ?_
   intro g b0 a6 b1
   have aD:=ye [1,2,3,4,5,6,7,8,9,10] a6
   refine fK aD 1 ?_
   refine jF (jX ?_)
   refine rq (a:=x.u) (c:=(g,(fS s.im x.u).2++[b])) (mm:=s.im) (enc:=p_) (k:=.u64) (L' := (N1 g ((gi (fS s.im x.u).2)++([((b:Nat):Int)])) (jo s.im x.u) q ((b:Nat):Int) (s.last+1) x de ub cQ s (some s.mb) (cO s.live b (fun _=>(⟨((b:Nat):Int),s.last+1,x.u,x.v,x.wt,x.t,x.exp⟩:Lv))) (gr s.im x.u (g,(fS s.im x.u).2++[b])) h N l j)) 5 rfl rfl rfl rfl yz ym aD rfl rfl (fun aE aF=>fK aF 1 ?_)
   have O:St _ (NW (gr s.im x.u (g,(fS s.im x.u).2++[b])) q ((b:Nat):Int) (s.last+1) x de ub cQ s (some s.mb) (cO s.live b (fun _=>(⟨((b:Nat):Int),s.last+1,x.u,x.v,x.wt,x.t,x.exp⟩:Lv))) h N l j) aE:=AK (by have h9:=aF;rw[<-DN]at h9;exact h9)
   refine rX tt none O 6 ?_
   refine tN (iF (fM O 13 ?_))
   refine mO (i:=1) rfl rfl rfl y8 ym rfl jm d_ rfl (cH O 10 ?_)
   refine cl (HI s.tb s.ab N aE (yg O 6 rfl) x.v (X.room o_) T.v) ?_
   rintro _ b2 ⟨b3,b4,J,rfl,am,cj,ht⟩
   have an:=yt 6 O ht
   have bk:=(j6 an (i:=6) rfl:J.ok)
   refine fZ an 2 ?_
   have a7:=AF x.v an
   refine jS mixed [([0,1,2,3,4,5,6,7,8,9,10,11,12],[3,8,10]),([13],[3])] [14] a7 (fun b5 aa=>iY ?_)
   refine cH aa 10 ?_
   refine qK (a:=x.v) (mm:=(gr s.im x.u (g,(fS s.im x.u).2++[b]))) (enc:=p_) (k:=.u64) 5 rfl rfl rfl yz ym kF rfl aa rfl (cH aa 1 ?_)
   refine jB (vs:=(Zd ((b:Nat):Int))) (cs:=(Zd ((b:Nat):Int))) rfl rfl yc fU rfl (by simp[Value.cells]) rfl rfl rfl aa (fun a8 b6 b7 b8 ac=>fK ac 1 ?_)
   refine nF (ku rfl oF (ku rfl oF (ku rfl (mZ (zP (a:=x.v) (mm:=(gr s.im x.u (g,(fS s.im x.u).2++[b]))) (enc:=p_) (k:=.u64) 6 rfl rfl yz ym kF rfl ac rfl) rfl rfl) (trivial)))) (iY ?_)
   refine wX (k:=.i64) (ys:=gi (fS (gr s.im x.u (g,(fS s.im x.u).2++[b])) x.v).2) (zs:=[((b:Nat):Int)]) (LL:=fun G=>[iD .i64 (Zu a8) 3 ([((b:Nat):Int)]),iD .i64 G 3 ((gi (fS (gr s.im x.u (g,(fS s.im x.u).2++[b])) x.v).2)++([((b:Nat):Int)])),j4 3 (jo (gr s.im x.u (g,(fS s.im x.u).2++[b])) x.v),blk q 43 (rJ ((b:Nat):Int) (s.last+1) x),blk de 174 (Dq ub cQ (s.last+1) s (some s.mb)),cL Lv.cells s.lv 43 7 (cO s.live b (fun _=>(⟨((b:Nat):Int),s.last+1,x.u,x.v,x.wt,x.t,x.exp⟩:Lv))),gP s.mb .u64 p_ (gr s.im x.u (g,(fS s.im x.u).2++[b])),(AW.R s.jx h),(Bg s J),blk l 43 pK,blk j 41 (rK x)]) 1 rfl rfl rfl yc fU rfl ac rfl (kG ac (i:=0) rfl) (by simp only[zk,zb,zd,gi,zm,maxLen];have h7:=F x.u;have h8:=F x.v;first|omega|(rw[uW bc.1];omega)) (by simp only[zk,zb,zd,gi,zm,maxLen];have h7:=F x.u;have h8:=F x.v;first|omega|(rw[uW bc.1];omega)) f_ ?_
   intro G b9 a9 ca
   have aG:=ye [1,2,3,4,5,6,7,8,9,10] a9
   refine fK aG 1 ?_
   refine jF (jX ?_)
   refine rq (a:=x.v) (c:=(G,(fS (gr s.im x.u (g,(fS s.im x.u).2++[b])) x.v).2++[b])) (mm:=(gr s.im x.u (g,(fS s.im x.u).2++[b]))) (enc:=p_) (k:=.u64) (L' := (N1 G ((gi (fS (gr s.im x.u (g,(fS s.im x.u).2++[b])) x.v).2)++([((b:Nat):Int)])) (jo (gr s.im x.u (g,(fS s.im x.u).2++[b])) x.v) q ((b:Nat):Int) (s.last+1) x de ub cQ s (some s.mb) (cO s.live b (fun _=>(⟨((b:Nat):Int),s.last+1,x.u,x.v,x.wt,x.t,x.exp⟩:Lv))) (gr (gr s.im x.u (g,(fS s.im x.u).2++[b])) x.v (G,(fS (gr s.im x.u (g,(fS s.im x.u).2++[b])) x.v).2++[b])) h J l j)) 5 rfl rfl rfl rfl yz ym aG rfl rfl (fun ba aH=>fK aH 1 ?_)
   have ao:St _ (NW (gr (gr s.im x.u (g,(fS s.im x.u).2++[b])) x.v (G,(fS (gr s.im x.u (g,(fS s.im x.u).2++[b])) x.v).2++[b])) q ((b:Nat):Int) (s.last+1) x de ub cQ s (some s.mb) (cO s.live b (fun _=>(⟨((b:Nat):Int),s.last+1,x.u,x.v,x.wt,x.t,x.exp⟩:Lv))) h J l j) ba:=AK (by have h9:=aH;rw[<-DN]at h9;exact h9)
   refine rX tt none ao 6 ?_
   refine tN (iF (fM ao 15 ?_))
   refine iS 7 ao (fun cb ap=>?_)
   refine fK ap 4 ?_
   refine o5 (v:=(IP ((b:Nat):Int) (s.last+1) x)) (v' := Zc) results139 (oI (cs:=(rJ ((b:Nat):Int) (s.last+1) x)) rfl wm rfl o7 rfl (mL ap (i:=7) (o:=0) (vs:=(rJ ((b:Nat):Int) (s.last+1) x)) rfl rfl)) (qm rfl) ?_
   have bb:=ye [2,3,4,0,5,6,1,7,8] ap
   have cc:=hU.ins (e:=(⟨(b:Int),s.last+1,x.u,x.v,x.wt,x.t,x.exp⟩:Lv)) ae cd bk rfl rfl ⟨kZ (by show _/\_;dsimp only;omega),qc (by show _/\_;dsimp only;omega),T.u,T.v,T.wt,T.t,T.exp⟩ bc.1 (fun z=>by rw[am.mem,X.mem]) (by rw[am.n,X.n]) (lv2:=s.lv) (ls:=cO s.live b (fun _=>(⟨((b:Nat):Int),s.last+1,x.u,x.v,x.wt,x.t,x.exp⟩:Lv))) (by unfold zZ;rw[if_neg o_]<;>rfl) (im2:=(gr (gr s.im x.u (g,(fS s.im x.u).2++[b])) x.v (G,(fS (gr s.im x.u (g,(fS s.im x.u).2++[b])) x.v).2++[b]))) (by rw[uW bc.1];rfl)
   exact⟨b,(⟨s.jx,s.tb,s.ab,s.mb,s.lv,s.last+1,h,J,cO s.live b (fun _=>(⟨((b:Nat):Int),s.last+1,x.u,x.v,x.wt,x.t,x.exp⟩:Lv)),(gr (gr s.im x.u (g,(fS s.im x.u).2++[b])) x.v (G,(fS (gr s.im x.u (g,(fS s.im x.u).2++[b])) x.v).2++[b]))⟩:fR),rfl,⟨cc.2,rfl,X.zL am ci cj⟩,yj (yn (p:=fR.ok ub cQ (⟨s.jx,s.tb,s.ab,s.mb,s.lv,s.last+1,h,J,cO s.live b (fun _=>(⟨((b:Nat):Int),s.last+1,x.u,x.v,x.wt,x.t,x.exp⟩:Lv)),(gr (gr s.im x.u (g,(fS s.im x.u).2++[b])) x.v (G,(fS (gr s.im x.u (g,(fS s.im x.u).2++[b])) x.v).2++[b]))⟩:fR)) (yd [_,_,_,_,_,_] _ bb) cc.1) za⟩
end Go.Proofs.YtedjjkcihkmjgaaGreatDoor
