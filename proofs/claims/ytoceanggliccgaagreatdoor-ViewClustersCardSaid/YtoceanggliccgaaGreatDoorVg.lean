/- What the functions that the statements reach do: walks through the code of the program and of the references, one theorem a function; under what is said of its arguments. -/
import Derived.Test.YtoceanggliccgaaGreatDoorFb
import Derived.Test.YtoceanggliccgaaGreatDoorVa
import Derived.Test.YtoceanggliccgaaGreatDoorFd
import Derived.Test.YtoceanggliccgaaGreatDoorVf
import Derived.Test.YtoceanggliccgaaGreatDoorFc
import Derived.Shelf.Spec.TrailingZeros
import Derived.Shelf.Lays7
import Derived.Test.YtoceanggliccgaaGreatDoorFa
import Derived.Test.YtoceanggliccgaaGreatDoorVd
import Derived.Test.YtoceanggliccgaaGreatDoorVe
set_option linter.unusedVariables false
set_option linter.unusedSimpArgs false
set_option maxRecDepth 100000
set_option maxHeartbeats 4000000
namespace Go.Proofs.YtoceanggliccgaaGreatDoor
section
open Go Go.Sx
structure Lt where
 dv:Value
 jl:List (Value×List Int)
structure Lt.ok (ps:List Int) (t:Lt):Prop where
 len:t.jl.length=13
 row:∀ q,q<13->(fJ t.jl q).2=jr ps q
def Lt.R(tb:Nat)(ps:List Int)(t:Lt):fU:=j7 (t.ok ps) (gj [blk tb 331 (Zf :: t.dv :: (t.jl).flatMap kG),(lR fV 3 t.jl),fL fR t.dv 3 1 ((List.range ps.length).map (gp ps))])
abbrev MP a b c (d e:Nat) (f:Int) g h i j k l m n o p (q:nk) r (s:Nat):=([fL jG.cells a 324 2 b,c,blk d 266 [.pointer (some ⟨e,0,none⟩),.int .i64 f,g,h,i,j,k,l,.map m],fL fR l 3 1 n,gM o .i64 (Prod.fst:Value×List jG->Value) p,Lt.R e q.p r,blk s 83 (Zr f g h i j k),fL fV g 3 1 q.l,fL fV h 3 1 q.r,fL fV i 3 1 q.p,fL fV j 2 1 q.h,fL fR k 3 1 q.s]:List fU)
abbrev Mp a b c d (e f:Nat) (g:Int) h i j k l m n o p q (r:nk) s (t:Nat):=([a,fL jG.cells b 324 2 c,d,blk e 266 [.pointer (some ⟨f,0,none⟩),.int .i64 g,h,i,j,k,l,m,.map n],fL fR m 3 1 o,gM p .i64 (Prod.fst:Value×List jG->Value) q,Lt.R f r.p s,blk t 83 (Zr g h i j k l),fL fV h 3 1 r.l,fL fV i 3 1 r.r,fL fV j 3 1 r.p,fL fV k 2 1 r.h,fL fR l 3 1 r.s]:List fU)
theorem P6(v:Value)(ps:List Int)(w:World)(hv:iw 1 fV (fun _=>True) w v ps)(hP:j3 ps)(aR:∀ i,i<ps.length -> -1<=fJ ps i)(hn:ps.length<=8192) :
 CR ya 201 #[v] w (fun r w' => ∃ (tb:Nat) (t:Lt),r = .tuple (Zy tb)/\fZ (gj []) w w' (Lt.R tb ps t)):=by
 refine enter (vs:=[v]) Tryz.func201 rfl Tryz.ntmps201 rfl ?_
 have aL:=yt w
 refine fS aL 9 ?_
 refine kX (v:=v) rfl rfl yd hv (fK aL 7 ?_)
 refine cmp (a:=(ps.length:Int)) (b:=8192) rfl rfl rfl (pJ o_) (fK aL 9 ?_)
 refine kX (v:=v) rfl rfl yd hv (gF aL 4 ?_)
 refine lp (α:=Nat) (fun i=>[(0,v),(2,Zt),(3,Zc),(4,(Za ps.length)),(17,v),(18,(Za ps.length)),(19,(Za i))]) (fun i w1=>St [(w,[])] [] w1/\i<=ps.length) (fun i=>ps.length-i) 0 ⟨rfl,rfl,rfl,rfl,rfl,rfl,gm rO,trivial⟩ (⟨aL,o_⟩) ?_
 rintro i am D ⟨T,hi⟩
 refine fS T 2 ?_
 by_cases an:((i:Int):Int)<((ps.length:Int):Int)
 . have a3:=hP.up i o_
   refine fK T 19 ?_
   refine cmp (a:=(fJ ps i)) (b := -1) rfl rfl rfl (kV (by have h7:=aR i o_;omega)) (fK T 3 ?_)
   refine cmp (a:=(fJ ps i)) (b:=(ps.length:Int)) rfl rfl rfl (oh (by have h7:=aR i o_;omega)) (fQ T 11 ?_)
   refine tN (?_)
   exact again (i+1) ⟨rfl,rfl,rfl,rfl,rfl,rfl,gm rO,trivial⟩ (⟨T,o_⟩) (by show (ps.length-(i+1):Nat)<ps.length-i;omega)
 . refine fK T 13 ?_
   refine jI (vl:=[v]) rfl rfl Xr (Wc v ps D (yw T s_ d_ hv) hP hn) ?_
   rintro _ ao ⟨d,rfl,ht⟩
   have n:=(jJ (R:=fL fR d 3 1 ((List.range ps.length).map (gp ps))) T ht)
   refine fK n 20 ?_
   refine ja (pvs:=[(0,Zf),(1,d)]) (v:=.agg #[Zf,d,Zg,Zg,Zg,Zg,Zg,Zg,Zg,Zg,Zg,Zg,Zg,Zg,Zg]) rfl rfl (jq [(0,[Zf]),(1,[d])] Tn acz rfl ⟨rfl,rfl,rfl,(cells_one (yu n (i:=0) rfl)),trivial⟩ rfl) (ij n (fun h E ap aq u=>?_))
   have G:St _ [(lR fV 3 (List.replicate 13 ((.slice none 0 0,[]):Value×List Int))),blk h 331 [Zf,d,Zg,Zg,Zg,Zg,Zg,Zg,Zg,Zg,Zg,Zg,Zg,Zg,Zg],fL fR d 3 1 ((List.range ps.length).map (gp ps))] E:=St.Qe 13 u
   have H:=yg [1,0,2] G
   have I:=H
   refine gF u 10 ?_
   refine lp (α:=Nat×List (Value×List Int)) (fun(F,jl)=>[(0,v),(4,(Za ps.length)),(9,(Zb h)),(41,(Za F))]) (fun(F,jl) w1=>St [(w,[])] [blk h 331 (Zf :: d :: (jl).flatMap kG),(lR fV 3 jl),fL fR d 3 1 ((List.range ps.length).map (gp ps))] w1/\jl.length=13/\(∀ q,q<F->(fJ jl q).2=jr ps q)/\F<=13) (fun(F,jl)=>13-F) (0,(List.replicate 13 ((.slice none 0 0,[]):Value×List Int))) ⟨rfl,rfl,rfl,gm rO,trivial⟩ (⟨I,s_,fun q hq=>absurd hq (Nat.not_lt_zero _),o_⟩) ?_
   rintro⟨F,jl⟩ au av ⟨aM,aN,aO,a2⟩
   refine fS aM 2 ?_
   by_cases aw:((F:Int):Int)<(13:Int)
   . refine gJ aM 20 fun ax J=>?_
     refine qU (cf:=fV) (z0:=0) (m:=ps.length) (c:=ps.length) rfl rfl rfl yd gr rfl f_ d_ (zk _) o_ o_ J ?_
     intro y K ay az L
     have l:St _ [fL fV (.slice (some ⟨y,0,none⟩) ps.length ps.length) 3 1 (List.replicate ps.length 0),blk h 331 ((.bool true) :: d :: (jl).flatMap kG),(lR fV 3 jl),fL fR d 3 1 ((List.range ps.length).map (gp ps))] K:=lU (cf:=fV) L (i:=0) rfl f_ (zk _) (by simp only[maxLen];omega)
     generalize (Value.slice (some ⟨y,0,none⟩) ps.length ps.length)=g at l ⊢
     refine fK l 2 ?_
     refine jB (o:=2) (o' := 2+F) (i:=(F:Int)) rfl rfl rfl qt j6 o_ (by first|omega|(simp only[mj];omega)) (FV (v:=g) (vs:=[g]) (L' := [fL fV g 3 1 (List.replicate ps.length 0),blk h 331 (setAt (Zf :: d :: (jl).flatMap kG) (2+F) [g]),(lR fV 3 jl),fL fR d 3 1 ((List.range ps.length).map (gp ps))]) 1 rfl rfl rfl (cells_one (yu l (i:=0) rfl)) j6 rfl (ia (yu l (i:=0) rfl) kT) l rfl (aag o_) rfl rfl ?_)
     intro M z aA
     have N:=yg [1,0,2,3] z
     have O:St _ [blk h 331 (Zf :: d :: ((fN jl F (fun _=>(g,[])))).flatMap kG),fL fV g 3 1 (List.replicate ps.length 0),(lR fV 3 jl),fL fR d 3 1 ((List.range ps.length).map (gp ps))] M:=yv 0 N rfl (congrArg (blk h 331) (Jp o_))
     have P:=yv 1 O rfl (congrArg (fL fV g 3 1) (show _=ou (j8 ps F) ps.length 0 from YM.symm))
     have Q:=yg [2,0,1,3] P
     have S:=St.Co F Q o_
     have U:=yg [2,3,1,4] S
     refine gF z 9 ?_
     refine lp (α:=Nat) (fun x=>[(0,v),(4,(Za ps.length)),(9,(Zb h)),(10,(Za F)),(41,(Za F)),(51,(Za ps.length)),(52,(Za x))]) (fun x w1=>St [(w,[])] [blk h 331 (Zf :: d :: ((fN jl F (fun _=>(g,[])))).flatMap kG),fL fV g 3 1 (ou (j8 ps F) ps.length x),(lR fV 3 (jl.eraseIdx F)),fL fR d 3 1 ((List.range ps.length).map (gp ps))] w1/\x<=ps.length) (fun x=>ps.length-x) 0 ⟨rfl,rfl,rfl,rfl,rfl,rfl,gm rO,trivial⟩ (⟨U,o_⟩) ?_
     rintro x aB V ⟨aJ,aV⟩
     have aX:=YK (f:=j8 ps F) aV
     refine fS aJ 2 ?_
     by_cases aC:((x:Int):Int)<((ps.length:Int):Int)
     . have aK:x<ps.length:=by omega
       refine fK aJ 19 ?_
       by_cases aD:((F:Int):Int)=(0:Int)
       . have aS:F=0:=by omega
         refine gJ aJ 10 fun aE s=>?_
         refine jB (o:=2) (o' := 2+F) (i:=(F:Int)) rfl rfl rfl qt j6 o_ (by first|omega|(simp only[mj];omega)) (ld (a:=⟨h,2+F,none⟩) (v:=g) rfl rfl yd rfl (St.rH s (i:=0) rfl (v7 (by first|omega|(rw[gC];omega)) (by rw[j9 o_]))) (fK s 6 ?_))
         refine iO (f:=(fun _=>(fJ ps x))) 1 s (fun aF A=>?_)
         refine fQ A 10 ?_
         refine tN (?_)
         have W:=yv 1 A rfl (congrArg (fL fV g 3 1) (show _=ou (j8 ps F) ps.length (x+1) from IW aK (by rw[aS];rfl)))
         exact again (x+1) ⟨rfl,rfl,rfl,rfl,rfl,rfl,gm rO,trivial⟩ (⟨W,o_⟩) (by show (ps.length-(x+1):Nat)<ps.length-x;omega)
       . obtain⟨q,hq⟩:∃ q,F=q+1:=⟨F-1,o_⟩
         have aQ:fJ (jl.eraseIdx F) q=fJ jl q:=Yy o_
         have aP:(fJ (jl.eraseIdx F) q).2=jr ps q:=by rw[aQ];exact aO q o_
         have aW:(jl.eraseIdx F).length=12:=by rw[List.length_eraseIdx,if_pos o_];omega
         have a0:=Jm hP (k:=q) aK
         have aZ:=uD (k:=q) aK
         have aY:=Ay (ps:=ps) (k:=q)
         have X:=yg [2,0,1,3] aJ
         have Y:=St.Co q X o_
         have j:=yv 0 Y rfl (congrArg (fL fV ((fJ (jl.eraseIdx F) q).1) 3 1) (aP))
         refine fK aJ 10 ?_
         refine ar (a:=(F:Int)) (b:=1) (c:=(F:Int)-1) (e:=((q:Nat):Int)) rfl rfl rfl rfl iT (fK j 2 ?_)
         refine jB (o:=2) (o' := 2+q) (i:=((q:Nat):Int)) rfl rfl rfl qt j6 o_ (by first|omega|(simp only[mj];omega)) (ld (a:=⟨h,2+q,none⟩) (v:=((fJ (jl.eraseIdx F) q).1)) rfl rfl yd rfl (St.rH j (i:=2) rfl (v7 (by first|omega|(rw[gC];omega)) (by rw[jX o_,aQ]))) (fK j 10 ?_))
         by_cases aG:((fJ (jr ps q) x):Int)≥(0:Int)
         . refine fK j 7 ?_
           refine ar (a:=(F:Int)) (b:=1) (c:=(F:Int)-1) (e:=((q:Nat):Int)) rfl rfl rfl rfl iT (fK j 2 ?_)
           refine jB (o:=2) (o' := 2+q) (i:=((q:Nat):Int)) rfl rfl rfl qt j6 o_ (by first|omega|(simp only[mj];omega)) (ld (a:=⟨h,2+q,none⟩) (v:=((fJ (jl.eraseIdx F) q).1)) rfl rfl yd rfl (St.rH j (i:=2) rfl (v7 (by first|omega|(rw[gC];omega)) (by rw[jX o_,aQ]))) (fK j 1 ?_))
           refine iK (cf:=fV) (k:=(fJ (jr ps q) x).toNat) (i:=(fJ (jr ps q) x)) rfl rfl rfl yd gr (y8 j 0 rfl) o_ o_ (gy om) (fK j 9 ?_)
           refine jB (o:=2) (o' := 2+F) (i:=(F:Int)) rfl rfl rfl qt j6 o_ (by first|omega|(simp only[mj];omega)) (ld (a:=⟨h,2+F,none⟩) (v:=g) rfl rfl yd rfl (St.rH j (i:=2) rfl (v7 (by first|omega|(rw[gC];omega)) (by rw[j9 o_]))) (fK j 3 ?_))
           refine iO (f:=(fun _=>(fJ (jr ps q) ((fJ (jr ps q) x).toNat)))) 3 j (fun aH B=>?_)
           refine fQ B 7 ?_
           refine tN (?_)
           have Z:=yv 0 B rfl (congrArg (fL fV ((fJ (jl.eraseIdx F) q).1) 3 1) (aP.symm))
           have aa:=St.Jr Z o_
           have ab:=yg [1,2,0,3] aa
           have ac:=yv 1 ab rfl (congrArg (fL fV g 3 1) (show _=ou (j8 ps F) ps.length (x+1) from IW aK (by rw[hq];exact aak hP aK o_)))
           exact again (x+1) ⟨rfl,rfl,rfl,rfl,rfl,rfl,gm rO,trivial⟩ (⟨ac,o_⟩) (by show (ps.length-(x+1):Nat)<ps.length-x;omega)
         . refine fK j 11 ?_
           refine jB (o:=2) (o' := 2+F) (i:=(F:Int)) rfl rfl rfl qt j6 o_ (by first|omega|(simp only[mj];omega)) (ld (a:=⟨h,2+F,none⟩) (v:=g) rfl rfl yd rfl (St.rH j (i:=2) rfl (v7 (by first|omega|(rw[gC];omega)) (by rw[j9 o_]))) (fK j 3 ?_))
           refine iO (f:=(fun _=>(fJ (jr ps q) x))) 3 j (fun aI C=>?_)
           refine fQ C 7 ?_
           refine tN (?_)
           have ad:=yv 0 C rfl (congrArg (fL fV ((fJ (jl.eraseIdx F) q).1) 3 1) (aP.symm))
           have ae:=St.Jr ad o_
           have af:=yg [1,2,0,3] ae
           have ag:=yv 1 af rfl (congrArg (fL fV g 3 1) (show _=ou (j8 ps F) ps.length (x+1) from IW aK (by rw[hq];exact aaj aK o_)))
           exact again (x+1) ⟨rfl,rfl,rfl,rfl,rfl,rfl,gm rO,trivial⟩ (⟨ag,o_⟩) (by show (ps.length-(x+1):Nat)<ps.length-x;omega)
     . refine fQ aJ 15 ?_
       refine tN (?_)
       have aU:x=ps.length:=by omega
       have ah:=yv 1 aJ rfl (congrArg (fL fV g 3 1) (show _=(jr ps F) from(congrArg (ou (j8 ps F) ps.length) aU).trans YJ))
       have ai:=yg [1,2,0,3] ah
       have aj:=St.Qf ai o_
       have ak:=yg [1,0,2] aj
       have al:St _ [blk h 331 (Zf :: d :: ((fN jl F (fun _=>(g,jr ps F)))).flatMap kG),(lR fV 3 (fN jl F (fun _=>(g,jr ps F)))),fL fR d 3 1 ((List.range ps.length).map (gp ps))] V:=yv 0 ak rfl (congrArg (blk h 331) ((Jp o_).symm.trans (Jp o_)))
       exact again ((F+1),(fN jl F (fun _=>(g,jr ps F)))) ⟨rfl,rfl,rfl,gm rO,trivial⟩ (⟨al,by rw[gC];exact aN,aah aN o_ aO,o_⟩) (by show (13-(F+1):Nat)<13-F;omega)
   . refine fQ aM 18 ?_
     refine iC (v:=(Zb h)) (v' := Zc) Tryz.results201 rfl rfl ?_
     have a1:F=13:=by omega
     have aT:Lt.ok ps (⟨d,jl⟩:Lt):=⟨aN,fun q hq=>aO q o_⟩
     exact⟨h,(⟨d,jl⟩:Lt),rfl,uY (yr (p:=Lt.ok ps (⟨d,jl⟩:Lt)) (yc [_,_,_] _ aM) aT) s_⟩
end
section
open Go Go.Sx
structure nh (w:World) (tb:Nat) (ps:List Int) (t:Lt):Prop where
 ok:t.ok ps
 b:(blk tb 331 [.bool true,t.dv,(fJ t.jl 0).1,(fJ t.jl 1).1,(fJ t.jl 2).1,(fJ t.jl 3).1,(fJ t.jl 4).1,(fJ t.jl 5).1,(fJ t.jl 6).1,(fJ t.jl 7).1,(fJ t.jl 8).1,(fJ t.jl 9).1,(fJ t.jl 10).1,(fJ t.jl 11).1,(fJ t.jl 12).1]).holds w
 d:iw 1 fR (fun _=>True) w t.dv ((List.range ps.length).map (gp ps))
 r:∀ q,q<13->iw 1 fV (fun _=>True) w (fJ t.jl q).1 (jr ps q)
theorem nh.of{w:World}{tb:Nat}{ps:List Int}{t:Lt}(d:Own (Lt.R tb ps t) w):nh w tb ps t:=by
 have h:=Own.of d.un
 have a:t.ok ps:=d.fact
 refine⟨a,?_,(y8 h 2 rfl).any,fun q e=>?_⟩
 . have b:=St.at h (i:=0) rfl
   rw[PZ a.len]at b
   exact b
 . have f:=St.Co q (h.perm (List.Perm.swap _ _ _)) (by rw[a.len];exact e)
   have c:=(y8 f 0 rfl).any
   rw[a.row q e]at c
   exact c
theorem nh.to{bs:List (World×List Nat)}{L:List fU}{w w0:World}{tb:Nat}{ps:List Int}{t:Lt}(h:nh w0 tb ps t)(hs:St bs L w)(hb:(w0,[])∈bs):nh w tb ps t :=
 ⟨h.ok,St.xL hs hb h.b,yw hs hb d_ h.d,fun q a=>yw hs hb d_ (h.r q a)⟩
theorem nh.p{w:World}{tb:Nat}{ps:List Int}{t:Lt}(h:nh w tb ps t):iw 1 fV (fun _=>True) w (fJ t.jl 0).1 ps:=by
 have:=h.r 0 o_
 rw[aai]at this
 exact this
theorem P0(tb:Nat)(ps:List Int)(t:Lt)(w:World)(f:nh w tb ps t)(h:j3 ps)(i:ps.length<=8192) :
 CR ya 207 (Zi tb) w (fun r w' => r = .int .i64 (ps.length:Int)/\gx [] w w'):=by
 have g:((List.range ps.length).map (gp ps)).length=ps.length:=by simp
 refine en Tryz.func207 Tryz.ntmps207 ?_
 have e:=yt w
 refine fS e 9 ?_
 refine uz (a:=some ⟨tb,0,none⟩) (c:=false) rfl rfl rfl yQ rfl (fK e 4 ?_)
 refine ld rfl rfl mY rfl (kn e s_ f.b rfl) (fK e 12 ?_)
 refine ld rfl rfl yd rfl (kn e s_ f.b rfl) (kX (v:=t.dv) rfl rfl yd f.d (fQ e 4 ?_))
 refine gq (v:=(Za (((List.range ps.length).map (gp ps)).length:Int))) Tryz.results207 rfl ?_
 exact⟨by rw[g],e.gz s_⟩
theorem Ax(tb:Nat)(ps:List Int)(t:Lt)(w:World)(f:nh w tb ps t)(e:j3 ps)(g:ps.length<=8192)(x:Nat)(i:x<ps.length) :
 CR ya 206 (Zm tb x) w (fun r w' => r = .bool true/\gx [] w w'):=by
 have h:((List.range ps.length).map (gp ps)).length=ps.length:=by simp
 refine en Tryz.func206 Tryz.ntmps206 ?_
 have d:=yt w
 refine fS d 8 ?_
 refine cmp rfl rfl rfl (nv o_) (fK d 3 ?_)
 refine cl OG (P0 tb ps t w f e g) ?_
 rintro _ c ⟨rfl,b⟩
 have a:=yq d b
 refine cmp rfl rfl rfl (pI o_) (fQ a 5 ?_)
 refine gq (v:=Zf) Tryz.results206 rfl ?_
 exact⟨rfl,a.gz s_⟩
theorem Vm(tb:Nat)(ps:List Int)(t:Lt)(w:World)(h:nh w tb ps t)(n:j3 ps)(A:ps.length<=8192)(hv:Value)(hs:List Int)(q:iw 1 fV (fun _=>True) w hv hs)(C:hs.length=ps.length)(T:Int)(j l m:Nat)(h1:(blk j 161 (Zh tb)).holds w)(u:(blk l 48 [hv]).holds w)(y:(blk m 2 (Ze T)).holds w)(x:Nat)(s:x<ps.length) :
 CR ya 208 #[(Za x),(Zb j),(Zb l),(Zb m)] w (fun r w' => ∃ B:Bool,r = .bool B/\(B=true↔0<=fJ ps x/\fJ hs (fJ ps x).toNat<=T)/\gx [] w w'):=by
 have z:((List.range ps.length).map (gp ps)).length=ps.length:=by simp
 refine en Tryz.func208 Tryz.ntmps208 ?_
 have g:=yt w
 have D:=n.up x s
 refine fS g 10 ?_
 refine jB (o:=2) (o' := 2) (i:=0) rfl rfl rfl qt j6 d_ rfl (ld rfl rfl yd rfl (kn g s_ h.b rfl) (fK g 1 ?_))
 refine iK (k:=x) (i:=(x:Int)) rfl rfl rfl yd gr h.p o_ o_ (gy o_) (jk rfl rfl yf rfl h.p (gy o_) rfl (gJ g 6 fun c a=>?_))
 by_cases d:((fJ ps x):Int)≥(0:Int)
 . refine fK a 4 ?_
   refine iK (k:=(fJ ps x).toNat) (i:=(fJ ps x)) rfl rfl rfl nH ti2 q o_ o_ (gy o_) (fK a 2 ?_)
   by_cases e:((fJ hs (fJ ps x).toNat):Int)<=(T:Int)
   . refine fQ a 6 ?_
     refine gq (v:=Zf) Tryz.results208 rfl ?_
     exact⟨true,rfl,⟨fun f=>by first|omega|(cases f),fun f=>by first|rfl|(exfalso;omega)⟩,a.gz s_⟩
   . refine fQ a 6 ?_
     refine gq (v:=Zp) Tryz.results208 rfl ?_
     exact⟨false,rfl,⟨fun f=>by first|omega|(cases f),fun f=>by first|rfl|(exfalso;omega)⟩,a.gz s_⟩
 . refine fQ a 13 ?_
   refine gq (v:=Zp) Tryz.results208 rfl ?_
   exact⟨false,rfl,⟨fun f=>by first|omega|(cases f),fun f=>by first|rfl|(exfalso;omega)⟩,a.gz s_⟩
theorem Vo(tb:Nat)(ps:List Int)(t:Lt)(w:World)(F:nh w tb ps t)(W:j3 ps)(Y:ps.length<=8192)(hv:Value)(hs:List Int)(X:iw 1 fV (fun _=>True) w hv hs)(ad:hs.length=ps.length)(T:Int)(V:Nat)(ae:V<ps.length) :
 CR ya 141 #[(Zb tb),(Za V),hv,(Za T)] w (fun r w' => r = .tuple (xl ((i6 ps hs T V:Nat):Int))/\gx [] w w'):=by
 have af:((List.range ps.length).map (gp ps)).length=ps.length:=by simp
 refine en Tryz.func141 Tryz.ntmps141 ?_
 have ab:=yt w
 refine fS ab 2 ?_
 refine ij ab (fun e H I J s=>?_)
 refine ij s (fun g K L M u=>?_) (hcs:=(cells_one (Sl.Re X)))
 refine ij u (fun h y N O f=>?_)
 refine fK f 8 ?_
 refine uz (a:=some ⟨tb,0,none⟩) (c:=false) rfl rfl rfl yQ rfl (fK f 4 ?_)
 refine ld rfl rfl mY rfl (kn f s_ F.b rfl) (fK f 12 ?_)
 refine cl Ah (Ax tb ps t y (F.to f s_) W Y V o_) ?_
 rintro _ P ⟨rfl,z⟩
 have m:=yq f z
 refine gF m 8 ?_
 refine kY mixed [([0,1,2,3],[0,1])] [4] m (fun A j=>jO ?_)
 refine fK j 1 ?_
 refine kX (v:=hv) rfl rfl nH X (fK j 1 ?_)
 refine cl OG (P0 tb ps t A (F.to j s_) W Y) ?_
 rintro _ Q ⟨rfl,B⟩
 have l:=yq j B
 refine fQ l 1 ?_
 refine uU (lJ rfl pR (lJ rfl (qW (Jy (v:=hv) rfl nH X) rfl rfl) (trivial))) (kZ ?_)
 refine cmp rfl rfl rfl (qd o_) (fK l 7 ?_)
 refine mD (vf:=[]) (vc:=(vF e g h)) rfl rfl rfl (gF l 5 ?_)
 refine lp (α:=Nat) (fun x=>[(1,(Za x)),(4,(Zb e)),(10,(.func (.func 208) #[] (Mj e g h)))]) (fun x w1=>St [(w,[])] [blk h 2 (Ze T),blk g 48 [hv],blk e 161 (Zh tb)] w1/\x<ps.length/\i6 ps hs T x=i6 ps hs T V) (fun x=>ps.length-x) V ⟨gm rO,rfl,rfl,trivial⟩ (⟨l,ae,rfl⟩) ?_
 rintro x R C ⟨U,Z,hc⟩
 have ag:=W.up x Z
 refine fS U 5 ?_
 refine qg (fi:=[]) (ca:=(vF e g h)) rfl rfl rfl Xh (Vm tb ps t C (F.to U s_) W Y hv hs (yw U s_ d_ X) ad T e g h (St.at U (i:=2) rfl) (St.at U (i:=1) rfl) (St.at U (i:=0) rfl) x Z) ?_
 rintro _ S ⟨D,rfl,n,E⟩
 have d:=yq U E
 refine gF d 2 ?_
 cases q:(D:Bool)
 . skip
   subst q
   refine iN d 14 ?_
   refine iC (v:=(Za x)) (v' := Zc) Tryz.results141 rfl rfl ?_
   have G:=yg [] d
   have ac:¬ (0<=fJ ps x/\fJ hs (fJ ps x).toNat<=T):=fun h9=>(by have h8:=n.2 h9;cases h8)
   exact⟨by rw[<-hc,B5 ac],G.gz s_⟩
 . skip
   subst q
   refine fS d 8 ?_
   refine jB (o:=2) (o' := 2) (i:=0) rfl rfl rfl qt j6 d_ rfl (ld rfl rfl yd rfl (kn d s_ F.b rfl) (fK d 1 ?_))
   refine iK (k:=x) (i:=(x:Int)) rfl rfl rfl yd gr F.p o_ o_ (gy o_) (jk rfl rfl yf rfl (yw d s_ d_ F.p) (gy o_) rfl (fQ d 3 ?_))
   refine tN (?_)
   have aa:=n.1 rfl
   exact again ((fJ ps x).toNat) ⟨gm rO,rfl,rfl,trivial⟩ (⟨d,o_,(Ac W Z aa.1 aa.2).symm.trans hc⟩) (by show (ps.length-((fJ ps x).toNat):Nat)<ps.length-x;omega)
end
section
open Go Go.Sx
structure Cv where
 tb:Nat
 t:Lt
 f:List Nat
 lv:Value
 rv:Value
 pv:Value
 hv:Value
 sv:Value
 ev:Value
def Cv.R(cb n:Nat)(es:List Ge)(c:Cv):fU:=j7 (gV es n c.f) (gj [blk cb 163 [(Zb c.tb),(Za n),c.lv,c.rv,c.pv,c.hv,c.sv,c.ev],(Lt.R c.tb (fT es n c.f).p c.t),fL fV c.lv 3 1 ((fT es n c.f).l),fL fV c.rv 3 1 ((fT es n c.f).r),fL fV c.pv 3 1 ((fT es n c.f).p),fL fV c.hv 2 1 ((fT es n c.f).h),fL fR c.sv 3 1 ((fT es n c.f).s),fL fR c.ev 3 1 ((List.range (n+(c.f).length)).map (gH es n (c.f)))])
theorem Vx(v:Value)(n:Nat)(es:List Ge)(w:World)(hv:iw 3 Ge.cells (fun _=>True) w v es)(Q:n9 n es)(S:n<=4096)(hm:es.length<=16384) :
 CR ya 133 #[(Za n),v] w (fun r w' => ∃ (cb:Nat) (c:Cv),r = .tuple (Zy cb)/\fZ (gj []) w w' (Cv.R cb n es c)):=by
 refine en Tryz.func133 Tryz.ntmps133 ?_
 have T:=yt w
 refine fS T 10 ?_
 refine cl IB (Kj v n es w hv Q S hm) ?_
 rintro _ D ⟨b,h,j,d,P,k,rfl,y,O⟩
 have s:=yy (jJ T O)
 have F:gV es n b:=⟨Q,y⟩
 have W:=F.f.room F.g
 obtain⟨X,Y,Z,aa,ab⟩:=lC (es:=es) (n:=n) (f:=b)
 have V:=F.pQ
 have U:=F.Kb
 refine fK s 3 ?_
 refine iH s (fun E G H I e=>?_)
 refine jM 0 e (fun z o=>?_) (h1:=(ia rfl (ia (yu e (i:=1) rfl) (ia (yu e (i:=2) rfl) (ia (yu e (i:=3) rfl) (ia (yu e (i:=4) rfl) (ia (yu e (i:=5) rfl) kT)))))))
 refine fK o 17 ?_
 refine cl OE (P6 d (fT es n b).p z (y8 o 3 rfl).any V U o_) ?_
 rintro _ J ⟨l,A,rfl,O⟩
 have t:=(jJ o O)
 refine gF t 18 ?_
 refine kY mixed [([0,1,2,3],[1])] [4,5,6,7] t (fun B a=>jO ?_)
 refine fK a 3 ?_
 refine cl Ot (Sc es n b F S h j d P k B ⟨(y8 a 2 rfl).any,(y8 a 3 rfl).any,(y8 a 4 rfl).any,(y8 a 5 rfl).any,(y8 a 6 rfl).any⟩) ?_
 rintro _ K ⟨m,rfl,O⟩
 have q:=(jJ a O)
 refine fQ q 1 ?_
 refine kJ (kZ ?_)
 refine ja (pvs:=[(0,(Zb l)),(1,(zI n h j d P k)),(2,m)]) (v:=.agg #[(Zb l),(Za n),h,j,d,P,k,m]) rfl rfl (jq [(0,(Zh l)),(1,(Zr n h j d P k)),(2,[m])] S4 acm rfl ⟨rfl,rfl,rfl,rfl,rfl,(cells_one (yu q (i:=0) rfl)),trivial⟩ rfl) (ij q (fun u L M N x=>?_))
 refine fQ x 5 ?_
 refine iC (v:=(Zb u)) (v' := Zc) Tryz.results133 rfl rfl ?_
 have C:=yg [0,2,4,5,6,7,8,1] x
 exact⟨u,(⟨l,A,b,h,j,d,P,k,m⟩:Cv),rfl,uY (yr (p:=gV es n b) (yc [_,_,_,_,_,_,_,_] _ C) F) s_⟩
end
section
open Go Go.Sx
structure sF (w:World) (cb n:Nat) (es:List Ge) (c:Cv):Prop where
 fg:gV es n c.f
 b:(blk cb 163 [(Zb c.tb),(Za n),c.lv,c.rv,c.pv,c.hv,c.sv,c.ev]).holds w
 t:nh w c.tb (fT es n c.f).p c.t
 r:mP w es n c.f c.lv c.rv c.pv c.hv c.sv
 e:iw 1 fR (fun _=>True) w c.ev ((List.range (n+(c.f).length)).map (gH es n (c.f)))
theorem sF.of{w:World}{cb n:Nat}{es:List Ge}{c:Cv}(a:Own (Cv.R cb n es c) w):sF w cb n es c:=by
 have h:=Own.of a.un
 exact⟨a.fact,St.at h (i:=0) rfl,nh.of (ye h 1 rfl),⟨(y8 h 2 rfl).any,(y8 h 3 rfl).any,(y8 h 4 rfl).any,(y8 h 5 rfl).any,(y8 h 6 rfl).any⟩,(y8 h 7 rfl).any⟩
theorem sF.to{bs:List (World×List Nat)}{L:List fU}{w w0:World}{cb n:Nat}{es:List Ge}{c:Cv}(h:sF w0 cb n es c)(hs:St bs L w)(hb:(w0,[])∈bs):sF w cb n es c :=
 ⟨h.fg,St.xL hs hb h.b,h.t.to hs hb,h.r.to hs hb,yw hs hb d_ h.e⟩
theorem N5(cb n:Nat)(es:List Ge)(c:Cv)(w:World)(e:sF w cb n es c)(o:n<=4096) :
 CR ya 135 (Zi cb) w (fun r w' => r = .bool true/\gx [] w w'):=by
 obtain⟨i,j,k,l,m⟩:=lC (es:=es) (n:=n) (f:=c.f)
 have h:=e.fg.f.room e.fg.g
 refine en Tryz.func135 Tryz.ntmps135 ?_
 have d:=yt w
 refine fS d 8 ?_
 refine lS (a:=some ⟨cb,0,none⟩) (c:=true) rfl rfl rfl Tryz.underlying84 rfl (fK d 4 ?_)
 refine ld rfl rfl yQ rfl (kn d s_ e.b rfl) (lS (a:=some ⟨c.tb,0,none⟩) (c:=true) rfl rfl rfl yQ rfl (fQ d 5 ?_))
 refine gq (v:=Zf) Tryz.results135 rfl ?_
 exact⟨rfl,d.gz s_⟩
theorem V4(cb n:Nat)(es:List Ge)(c:Cv)(w:World)(o:sF w cb n es c)(s:n<=4096)(x:Nat)(D:x<n)(T:Int) :
 CR ya 80 (Zu cb x T) w (fun r w' => r = .tuple (xl ((i6 (fT es n c.f).p (fT es n c.f).h T x:Nat):Int))/\gx [] w w'):=by
 obtain⟨y,z,A,B,C⟩:=lC (es:=es) (n:=n) (f:=c.f)
 have u:=o.fg.f.room o.fg.g
 refine en Tryz.func80 Tryz.ntmps80 ?_
 have q:=yt w
 refine fS q 10 ?_
 refine cl Oo (N5 cb n es c w o s) ?_
 rintro _ l ⟨rfl,i⟩
 have d:=yq q i
 refine fK d 10 ?_
 refine cmp rfl rfl rfl (kV o_) (fK d 6 ?_)
 refine ld rfl rfl yf rfl (kn d s_ o.b rfl) (cmp rfl rfl rfl (oh o_) (gJ d 11 fun j a=>?_))
 refine ld rfl rfl yQ rfl (kn a s_ o.b rfl) (fK a 5 ?_)
 refine ld rfl rfl nH rfl (kn a s_ o.b rfl) (fK a 1 ?_)
 refine cl WO (Vo c.tb (fT es n c.f).p c.t j (o.to a s_).t o.fg.pQ o_ c.hv (fT es n c.f).h (o.to a s_).r.h o_ T x o_) ?_
 rintro _ m ⟨rfl,k⟩
 have e:=yq a k
 refine fQ e 7 ?_
 refine iC (v:=(Za ((i6 (fT es n c.f).p (fT es n c.f).h T x:Nat):Int))) (v' := Zc) Tryz.results80 rfl rfl ?_
 exact⟨rfl,e.gz s_⟩
theorem N2(cb n:Nat)(es:List Ge)(c:Cv)(w:World)(C:sF w cb n es c)(G:n<=4096)(x:Nat)(H:x<n)(T:Int) :
 CR ya 43 (Zu cb x T) w (fun r w' => r = .tuple #[.agg (Zx ((gH es n c.f (i6 (fT es n c.f).p (fT es n c.f).h T x):Nat):Int) ((fJ (fT es n c.f).s (i6 (fT es n c.f).p (fT es n c.f).h T x):Nat):Int)),.int .i64 0]/\gx [] w w'):=by
 obtain⟨J,K,L,M,N⟩:=lC (es:=es) (n:=n) (f:=c.f)
 have I:=C.fg.f.room C.fg.g
 have F:(i6 (fT es n c.f).p (fT es n c.f).h T x)<n+c.f.length:=by have:=H7 (hs:=(fT es n c.f).h) (T:=T) (x:=x) (ps:=(fT es n c.f).p) o_ C.fg.pQ;omega
 have O:((List.range (n+(c.f).length)).map (gH es n (c.f))).length=n+c.f.length:=by simp
 have D:((List.range (n+(c.f).length)).map (gH es n (c.f)))[(i6 (fT es n c.f).p (fT es n c.f).h T x)]? = some (gH es n c.f (i6 (fT es n c.f).p (fT es n c.f).h T x)):=by simp[F]
 refine en Tryz.func43 Tryz.ntmps43 ?_
 have E:=yt w
 refine fS E 2 ?_
 refine iH E (fun t l u y d=>?_)
 refine fK d 8 ?_
 refine cl Yc (V4 cb n es c l (C.to d s_) G x H T) ?_
 rintro _ z ⟨rfl,m⟩
 have q:=yq d m
 refine gJ q 22 fun A a=>?_
 refine ld rfl rfl yd rfl (kn a s_ C.b rfl) (fK a 1 ?_)
 refine iK (k:=(i6 (fT es n c.f).p (fT es n c.f).h T x)) (i:=((i6 (fT es n c.f).p (fT es n c.f).h T x:Nat):Int)) rfl rfl rfl yd gr C.e o_ o_ D (jk rfl rfl yf rfl (yw a s_ d_ C.e) D rfl (fK a 4 ?_))
 refine ld rfl rfl yd rfl (kn a s_ C.b rfl) (fK a 1 ?_)
 refine iK (k:=(i6 (fT es n c.f).p (fT es n c.f).h T x)) (i:=((i6 (fT es n c.f).p (fT es n c.f).h T x:Nat):Int)) rfl rfl rfl yd gr C.r.s o_ o_ (gy o_) (jk rfl rfl yf rfl (yw a s_ d_ C.r.s) (gy o_) rfl (ja (pvs:=[(0,(Za (((gH es n c.f (i6 (fT es n c.f).p (fT es n c.f).h T x)):Nat):Int))),(1,(Za (((fJ (fT es n c.f).s (i6 (fT es n c.f).p (fT es n c.f).h T x)):Nat):Int)))]) (v:=.agg (Zx (((gH es n c.f (i6 (fT es n c.f).p (fT es n c.f).h T x)):Nat):Int) (((fJ (fT es n c.f).s (i6 (fT es n c.f).p (fT es n c.f).h T x)):Nat):Int))) rfl rfl (jq [(0,(Ze (((gH es n c.f (i6 (fT es n c.f).p (fT es n c.f).h T x)):Nat):Int))),(1,(Ze (((fJ (fT es n c.f).s (i6 (fT es n c.f).p (fT es n c.f).h T x)):Nat):Int)))] uQ RD rfl ⟨rfl,rfl,rfl,rfl,trivial⟩ rfl) (jZ a 5 fun B j=>?_)))
 refine nO (v:=(BQ (((gH es n c.f (i6 (fT es n c.f).p (fT es n c.f).h T x)):Nat):Int) (((fJ (fT es n c.f).s (i6 (fT es n c.f).p (fT es n c.f).h T x)):Nat):Int))) (v' := Zc) Tryz.results43 (nE (cs:=(Zo (((gH es n c.f (i6 (fT es n c.f).p (fT es n c.f).h T x)):Nat):Int) (((fJ (fT es n c.f).s (i6 (fT es n c.f).p (fT es n c.f).h T x)):Nat):Int))) rfl Tryz.underlying102 rfl uQ rfl (lM j (i:=0) (o:=0) (vs:=(Zo (((gH es n c.f (i6 (fT es n c.f).p (fT es n c.f).h T x)):Nat):Int) (((fJ (fT es n c.f).s (i6 (fT es n c.f).p (fT es n c.f).h T x)):Nat):Int))) rfl rfl)) (oC rfl) ?_
 exact⟨rfl,j.gz s_⟩
end
section
open Go Go.Sx
end
end Go.Proofs.YtoceanggliccgaaGreatDoor
namespace Go.Proofs
open Go.Shelf Go.Lib in
def Tryz.agP:Go.Shelf.Ren:=⟨fun|27=>298|28=>309|29=>310|n=>n,fun|25=>202|3=>3|27=>285|22=>40|4=>4|53=>403|0=>0|5=>5|54=>404|n=>n,fun|0=>0|1=>1|n=>n⟩
open Go.Shelf Go.Lib in
theorem Tryz.tzI:Go.Proofs.Lays7.n27 Proofs.Tryz.prog Tryz.agP where
 mixed:=by kernel_rfl
 f27:=Proofs.Tryz.func298.trans (congrArg some<|by kernel_rfl)
 f28:=Proofs.Tryz.func309.trans (congrArg some<|by kernel_rfl)
 f29:=Proofs.Tryz.func310.trans (congrArg some<|by kernel_rfl)
 t0:=Proofs.Tryz.underlying0
 a0:=Proofs.Tryz.isAgg0
 z0:=Proofs.Tryz.sizeOf0
 v0:=Proofs.Tryz.zeroValue0
 i0:=by kernel_rfl
 t3:=Proofs.Tryz.underlying3
 a3:=Proofs.Tryz.isAgg3
 z3:=Proofs.Tryz.sizeOf3
 v3:=Proofs.Tryz.zeroValue3
 i3:=by kernel_rfl
 t4:=Proofs.Tryz.underlying4
 a4:=Proofs.Tryz.isAgg4
 z4:=Proofs.Tryz.sizeOf4
 v4:=Proofs.Tryz.zeroValue4
 i4:=by kernel_rfl
 t5:=Proofs.Tryz.underlying5
 a5:=Proofs.Tryz.isAgg5
 z5:=Proofs.Tryz.sizeOf5
 v5:=Proofs.Tryz.zeroValue5
 i5:=by kernel_rfl
 t22:=Proofs.Tryz.underlying40
 a22:=Proofs.Tryz.isAgg40
 z22:=Proofs.Tryz.sizeOf40
 v22:=Proofs.Tryz.zeroValue40
 i22:=by kernel_rfl
 t25:=Proofs.Tryz.underlying202
 a25:=Proofs.Tryz.isAgg202
 z25:=Proofs.Tryz.sizeOf202
 v25:=Proofs.Tryz.zeroValue202
 i25:=by kernel_rfl
 t27:=Proofs.Tryz.underlying285
 a27:=Proofs.Tryz.isAgg285
 z27:=Proofs.Tryz.sizeOf285
 v27:=Proofs.Tryz.zeroValue285
 i27:=by kernel_rfl
 t53:=Proofs.Tryz.underlying403
 a53:=Proofs.Tryz.isAgg403
 z53:=Proofs.Tryz.sizeOf403
 v53:=Proofs.Tryz.zeroValue403
 i53:=by kernel_rfl
 t54:=Proofs.Tryz.underlying404
 a54:=Proofs.Tryz.isAgg404
 z54:=Proofs.Tryz.sizeOf404
 g0:=by kernel_rfl
 g1:=by kernel_rfl
end Go.Proofs
namespace Go.Proofs.YtoceanggliccgaaGreatDoor
section
open Go Go.Sx
def aeN(o:Obj):Prop:=∀ w:World,w.heap[1]? = some o->∀ j,j<64->w.cell? ⟨1,j,none⟩=some (.int .u8 ((Go.Lib.deBruijn64tab.getD j 0:Nat):Int))
def jN(o:Obj):fU where
 gG:=[1]
 holds w:=w.heap[1]? = some o/\aeN o
 loc w w' h hh:=⟨(h 1 s_).trans hh.1,hh.2⟩
theorem KV{o:Obj}{w:World}(h:(jN o).holds w):1<w.heap.size:=(nW.1 h.1).1
theorem aeQ{o:Obj}{w:World}(h:(jN o).holds w):Own (jN o) w:=⟨h,by simp[jN],fun b hb=>by simp[jN]at hb;subst hb;exact KV h⟩
theorem St.xM{bs:List (World×List Nat)}{L:List fU}{w w0:World}{o:Obj}{X:List Nat}(h:St bs L w)(hb:(w0,X)∈bs)(a:(jN o).holds w0)(b:1∉X):(jN o).holds w :=
 ⟨(h.keep hb (KV a) b).trans a.1,a.2⟩
theorem aeO{o:Obj}{w w' : World}(a:(jN o).holds w)(h:fZ (jN o) w w' (jN o)):gx [] w w' :=
 ⟨h.gz.os,h.gz.tape,h.gz.output,h.gz.size,fun b hb _=>by
  by_cases e:b=1
  . subst e
    exact h.holds.1.trans a.1.symm
  . exact h.gz.block b hb (by simp[jN,e])⟩
theorem aeP{w:World}(h:∀ j,j<64->w.cell? ⟨1,j,none⟩=some (.int .u8 ((Go.Lib.deBruijn64tab.getD j 0:Nat):Int))):∃ o,(jN o).holds w:=by
 have a:=World.block_lt_of_cell? w _ (h 0 d_)
 refine⟨w.heap[1],tU a,fun d b j c=>?_⟩
 rw[<-h j c]
 exact World.cell?_of_block (b.trans (tU a).symm)
theorem agQ{o:Obj}(w:World)(a:(jN o).holds w)(d:Nat)(hd:d<18446744073709551616) :
 CR ya 298 (xm d) w (fun r w' => r = .int .i64 ((Go.Lib.ctz 64 d:Nat):Int)/\w' = w):=by
 have h:=Go.Proofs.Any7.bits_TrailingZeros Tryz.tzI d hd w (fun _ j c=>a.2 w a.1 j c)
 exact Calls.mono h fun e w' b=>⟨_,b.1,rfl,b.2⟩
end
section
open Go Go.Sx
theorem abZ(d:Nat)(w:World) :
 CR ya 287 (Z8 d) w (fun r w' => ∃ h,w.heap.size<=h/\r = .func (.func 297) #[] (Zi h)/\(blk h 3 (Ze d)).holds w' /\ gx [] w w'):=by
 refine en Tryz.func287 Tryz.ntmps287 ?_
 have g:=yt w
 refine fS g 2 ?_
 refine ij g (fun b e c f a=>?_)
 refine fK a 5 ?_
 refine mD (vf:=[]) (vc:=(Zh b)) rfl rfl rfl (fQ a 4 ?_)
 refine gq (v:=(.func (.func 297) #[] (Zi b))) Tryz.results287 rfl ?_
 exact⟨_,kS (g.size za) c,rfl,a.at (i:=0) rfl,a.gz s_⟩
theorem agR{o:Obj}(w:World)(a:(jN o).holds w)(d:Nat)(hd:d<18446744073709551616) :
 CR ya 298 (xm d) w (fun r w' => r = .int .i64 ((Go.Lib.ctz 64 d:Nat):Int)/\gx [] w w') :=
 CR.mono (agQ w a d hd) fun r w' h=>⟨h.1,h.2▸gx.refl _ _⟩
theorem abY(p:Nat->fU)(l t n:Nat)(w:World)(B:∀ (d:Nat) (bs:List (World×List Nat)) (L:List fU) (w1:World),d≠0->d<=n->(w,(p n).gG)∈bs->St bs (p d :: L) w1->YR ya l (Ze ((Go.Lib.ctz 64 d:Nat):Int)) w1 (fun v w' => v = .bool true/\St bs (p (d &&& (d-1)) :: L) w'))(y:Own (p n) w)(A:(blk t 3 (Ze n)).holds w)(E:t∉(p n).gG){o:Obj}(z:(jN o).holds w)(u:1∉(p n).gG)(C:n<8192) :
 CR ya 297 (D3 (.func (.yield l) #[] #[]) t) w (fun r w' => r = .tuple #[]/\fZ (p n) w w' (p 0)):=by
 refine en Tryz.func297 Tryz.ntmps297 ?_
 have s:=yp y
 refine fS s 2 ?_
 refine ld rfl rfl yf rfl (B0 A (o:=0) rfl) (gF s 5 ?_)
 refine lp (α:=Nat) (fun d=>[(0,(.func (.yield l) #[] #[])),(3,(Zn d))]) (fun d w1=>St [(w,(p n).gG)] [p d] w1/\d<=n) (fun d=>d) n ⟨rfl,gm rO,trivial⟩ (⟨s,o_⟩) ?_
 rintro d i f ⟨q,D⟩
 refine fS q 4 ?_
 by_cases j:((d:Int):Int)=(0:Int)
 . refine fQ q 8 ?_
   refine iQ Tryz.results297 ?_
   obtain rfl:d=0:=by omega
   exact⟨rfl,yo (R:=p n) q s_⟩
 . refine fK q 12 ?_
   refine cl XJ (agR f (St.xM q (X:=(p n).gG) s_ z u) d o_) ?_
   rintro _ k ⟨rfl,g⟩
   have h:=yq q g
   refine yl (vl:=(Ze ((Go.Lib.ctz 64 d:Nat):Int))) rfl rfl rfl (B d _ _ _ o_ o_ s_ h) ?_
   rintro _ m ⟨rfl,c⟩
   refine fK c 10 ?_
   refine ar (e:=((d-1:Nat):Int)) rfl rfl rfl rfl (by rw[Gg o_];omega) (bi (a:=(d:Int)) (b:=((d-1:Nat):Int)) (e:=((d &&& (d-1):Nat):Int)) rfl rfl rfl (congrArg some (Go.bits_and_u64_nat d (d-1) o_ o_)) (fQ c 2 ?_))
   refine tN (?_)
   obtain⟨F,G⟩:=Ih (x:=d) o_ o_
   have H:0<2 ^ Go.Lib.ctz 64 d:=Nat.pow_pos d_
   exact again (d &&& (d-1)) ⟨rfl,gm rO,trivial⟩ (⟨c,o_⟩) (by show ((d &&& (d-1)):Nat)<d;omega)
end
section
open Go Go.Sx
theorem nh.b2{w:World}{tb:Nat}{ps:List Int}{t:Lt}(h:nh w tb ps t):(blk tb 331 (.bool true :: t.dv :: t.jl.flatMap kG)).holds w:=by
 rw[PZ h.ok.len]
 exact h.b
theorem P9(tb:Nat)(ps:List Int)(t:Lt)(w:World)(hR:nh w tb ps t)(hP:j3 ps)(hn:ps.length<=8192){o:Obj}(hT:(jN o).holds w)(x F:Nat)(hx:x<ps.length)(hd:F<=gp ps x) :
 CR ya 266 (Zu tb x F) w (fun r w' => r = .tuple (D2 ((gL ps F x:Nat):Int))/\gx [] w w'):=by
 have ak:((List.range ps.length).map (gp ps)).length=ps.length:=by simp
 have aB:=Il hP hx
 have aq:F<8192:=by omega
 refine Al (vs:=(zQ tb x F)) Tryz.func266 rfl Tryz.ntmps266 rfl ?_
 have ap:=yt w
 have ah:((List.range ps.length).map (gp ps))[x]? = some (gp ps x):=by simp[hx]
 refine fS ap 2 ?_
 refine ij ap (fun a O P Q p=>?_)
 refine ij p (fun c R S U f=>?_)
 refine gF f 6 ?_
 by_cases V:((F:Int):Int)<(0:Int)
 . skip
   refine Im f (fun W q=>?_) (hA:=by refine' xC 2 ?k0;case k0=>refine' ux (fun wq T=>rc (oN rfl Ah) (CR.mono (Ax tb ps t wq (hR.to T s_) hP hn x o_) fun _ _ h=>⟨h.1,T.grow h.2⟩)) ?k1;case k1=>exact FM)
   refine rS tt none q 10 ?_
   exfalso
   omega
 . skip
   by_cases Y:((F:Int):Int)>((((gp ps x):Nat):Int):Int)
   . skip
     refine Im f (fun Z s=>?_) (hA:=by refine' xC 2 ?k0;case k0=>refine' ux (fun wq T=>rc (oN rfl Ah) (CR.mono (Ax tb ps t wq (hR.to T s_) hP hn x o_) fun _ _ h=>⟨h.1,T.grow h.2⟩)) ?k1;case k1=>refine' xC 10 ?k2;case k2=>refine' ux (fun wq T=>rv (kW rfl yd rfl (kn T s_ hR.b rfl))) ?k3;case k3=>refine' xC 1 ?k4;case k4=>refine' ux (fun wq T=>rv (xK (v:=t.dv) (k:=x) (i:=(x:Int)) rfl rfl yd gr hR.d o_ o_ ah)) ?k5;case k5=>refine' ux (fun wq T=>rv (uE (u:=(Za (((gp ps x):Nat):Int))) rfl yf rfl (yw T s_ d_ hR.d) ah rfl)) ?k6;case k6=>exact FM)
     refine rS tt none s 10 ?_
     exfalso
     omega
   . skip
     refine Im f (fun y j=>?_) (hA:=by refine' xC 2 ?l0;case l0=>refine' ux (fun wq T=>rc (oN rfl Ah) (CR.mono (Ax tb ps t wq (hR.to T s_) hP hn x o_) fun _ _ h=>⟨h.1,T.grow h.2⟩)) ?l1;case l1=>refine' xC 10 ?l2;case l2=>refine' ux (fun wq T=>rv (kW rfl yd rfl (kn T s_ hR.b rfl))) ?l3;case l3=>refine' xC 1 ?l4;case l4=>refine' ux (fun wq T=>rv (xK (v:=t.dv) (k:=x) (i:=(x:Int)) rfl rfl yd gr hR.d o_ o_ ah)) ?l5;case l5=>refine' ux (fun wq T=>rv (uE (u:=(Za (((gp ps x):Nat):Int))) rfl yf rfl (yw T s_ d_ hR.d) ah rfl)) ?l6;case l6=>exact FM)
     refine CQ tt none j 8 ?_
     refine cl XE (abZ F y) ?_
     rintro _ A ⟨e,B,rfl,C,D⟩
     have m:=St.M7 j D B C
     have E:=yg [2,1,0] m
     have G:St [(w,[])] [blk a 161 (Zh tb),blk c 3 (Ze ((gL ps (F-F) x:Nat):Int)),blk e 3 (Ze F)] A:=by rw[Nat.sub_self];exact E
     refine gF m 3 ?_
     refine rf (α:=Nat) (ps:=[30]) (fi:=[]) (ca:=(Zh e)) (fun z=>[blk a 161 (Zh tb),blk c 3 (Ze ((gL ps (F-z) x:Nat):Int)),blk e 3 (Ze F)]) (fun z=>z=0) G rfl XI ?_ ?_
     . intro fn dd l wl rc ai ao
       have H:=yg [0,2,3,1,4] ao
       have ag:=yc (BJ (iR l rc) a tb c ((gL ps (F-F) x:Nat):Int)) [jW dd (some []),blk e 3 (Ze F)] H
       have am:rc.state = .ready:=by rw[ai]
       have av:rc.pending=none:=by rw[ai]
       have aw:∀ (d:Nat) (bs:List (World×List Nat)) (L:List fU) (w1:World),d≠0->d<=F->(wl,((fun(z:Nat)=>gj (BJ (iR l rc) a tb c ((gL ps (F-z) x:Nat):Int))) F).gG)∈bs->St bs ((fun(z:Nat)=>gj (BJ (iR l rc) a tb c ((gL ps (F-z) x:Nat):Int))) d :: L) w1->YR ya l (Ze ((Go.Lib.ctz 64 d:Nat):Int)) w1 (fun v w' => v = .bool true/\St bs ((fun(z:Nat)=>gj (BJ (iR l rc) a tb c ((gL ps (F-z) x:Nat):Int))) (d &&& (d-1)) :: L) w'):=by
        intro d bs LT wr aj ak au af
        have af:=af.unpack
        have af:=St.under ag (w:=w) s_ (fun b hb=>by rw[lZ];exact zm.2 (.inl hb)) af au
        have hU:=BC.next hP hx hd aq (⟨ak,rfl⟩:BC ps x F d (gL ps (F-d) x)) aj
        have ar:=hU.1
        have aA:=V5 aj o_
        refine yD (vl:=(Ze ((Go.Lib.ctz 64 d:Nat):Int))) 0 ai af rfl rfl rfl (iN af 3 ?_)
        refine tN (?_)
        refine Aa 0 af rfl am rfl ?_
        intro aa I
        have al:(jr ps (Go.Lib.ctz 64 d))[(gL ps (F-d) x)]? = some ((gL ps (2 ^ Go.Lib.ctz 64 d) (gL ps (F-d) x):Nat):Int):=by rw[<-hU.2.1];exact gy (by rw[Ay];exact ar)
        have aC:=Ay (ps:=ps) (k:=Go.Lib.ctz 64 d)
        refine oD I 6 fun ab g=>?_
        refine jB (o:=2) (o' := 2+(Go.Lib.ctz 64 d)) (i:=((Go.Lib.ctz 64 d:Nat):Int)) rfl rfl rfl qt j6 o_ (by first|omega|(simp only[mj];omega)) (ld rfl rfl yd rfl (kn g s_ hR.b2 (v7 (by rw[hR.ok.len];omega) rfl)) (fK g 1 ?_))
        refine iK (k:=(gL ps (F-d) x)) (i:=((gL ps (F-d) x:Nat):Int)) rfl rfl rfl yd gr (hR.r (Go.Lib.ctz 64 d) o_) o_ o_ al (jk rfl rfl yf rfl (yw g s_ d_ (hR.r (Go.Lib.ctz 64 d) o_)) al rfl (jZ g 3 fun ac J=>?_))
        refine vR 0 J rfl am av rfl ?_
        intro ad K
        have an:=K
        rw[hU.2.2.at_]at an
        exact⟨_,rfl,rfl,yc [_,_,_] _ an.Wk⟩
       refine CR.mono (abY (fun(z:Nat)=>gj (BJ (iR l rc) a tb c ((gL ps (F-z) x:Nat):Int))) l e F wl aw (ye ag 0 rfl) (ag.at (i:=2) rfl) (ag.Q4 (by simp[iU,blk,jW])) (St.xM ao (X:=[]) s_ hT s_) (ag.abX (w0:=w) s_ (KV hT)) o_) ?_
       rintro _ w9 ⟨-,az⟩
       have ay:=(yi ag az)
       have M:=yg [0,3,1,2,4] ay
       exact⟨_,rfl,M⟩
     . rintro z dd ae hC n
       refine rS tt none n 10 ?_
       refine xP 0 n rfl rfl ?_
       intro w8 ax
       have N:=yg [] ax
       exact⟨_,results_tmp2 Tryz.results266 _ _ _,_,rfl,by rw[qi,qi];exact⟨by subst hC;rfl,N.gz s_⟩⟩
end
section
open Go Go.Sx
theorem aaf(tb:Nat)(ps:List Int)(t:Lt)(w:World)(F:nh w tb ps t)(Q:j3 ps)(Y:ps.length<=8192){o:Obj}(hT:(jN o).holds w)(an:∀ i,i<ps.length -> -1<=fJ ps i)(a b:Nat)(S:a<ps.length)(hb:b<ps.length) :
 CR ya 210 (Zu tb a b) w (fun r w' => ∃ (z:Nat) (B:Bool),r = .tuple (p8 z B)/\sC ps a b z B/\gx [] w w'):=by
 have ax:((List.range ps.length).map (gp ps)).length=ps.length:=by simp
 have aq:=Ik (ps:=ps) (i:=a)
 have av:=Ik (ps:=ps) (i:=b)
 have au:=Il Q S
 have aw:=Il Q hb
 refine enter (vs:=(zQ tb a b)) Tryz.func210 rfl Tryz.ntmps210 rfl ?_
 have ag:=yt w
 have V:((List.range ps.length).map (gp ps))[a]? = some (gp ps a):=by simp[S]
 have W:((List.range ps.length).map (gp ps))[b]? = some (gp ps b):=by simp[hb]
 refine fS ag 11 ?_
 refine jI (vl:=(sI tb a)) rfl rfl Ah (Ax tb ps t w F Q Y a o_) ?_
 rintro _ n ⟨rfl,y⟩
 have m:St _ [] n:=yq ag y
 refine fK m 4 ?_
 refine jI (vl:=(sI tb b)) rfl rfl Ah (Ax tb ps t n (F.to m s_) Q Y b o_) ?_
 rintro _ C ⟨rfl,D⟩
 have E:St _ [] C:=yq m D
 refine gJ E 12 fun G f=>?_
 refine ld (a:=⟨tb,1,none⟩) (v:=t.dv) rfl rfl yd rfl (kn f s_ F.b rfl) (fK f 1 ?_)
 refine iK (k:=a) (i:=(a:Int)) rfl rfl rfl yd gr F.d o_ o_ V (jk (u:=(Za (((gp ps a):Nat):Int))) rfl rfl yf rfl (yw f s_ d_ F.d) V rfl (fK f 3 ?_))
 refine ld (a:=⟨tb,1,none⟩) (v:=t.dv) rfl rfl yd rfl (kn f s_ F.b rfl) (fK f 1 ?_)
 refine iK (k:=b) (i:=(b:Int)) rfl rfl rfl yd gr F.d o_ o_ W (jk (u:=(Za (((gp ps b):Nat):Int))) rfl rfl yf rfl (yw f s_ d_ F.d) W rfl (min2 (a:=(((gp ps a):Nat):Int)) (b:=(((gp ps b):Nat):Int)) (c:=(((min (gp ps a) (gp ps b)):Nat):Int)) rfl rfl rfl Fp (fK f 10 ?_)))
 refine ld (a:=⟨tb,1,none⟩) (v:=t.dv) rfl rfl yd rfl (kn f s_ F.b rfl) (fK f 1 ?_)
 refine iK (k:=a) (i:=(a:Int)) rfl rfl rfl yd gr F.d o_ o_ V (jk (u:=(Za (((gp ps a):Nat):Int))) rfl rfl yf rfl (yw f s_ d_ F.d) V rfl (fK f 1 ?_))
 refine ar (a:=(((gp ps a):Nat):Int)) (b:=(((min (gp ps a) (gp ps b)):Nat):Int)) (c:=(((gp ps a):Nat):Int)-(((min (gp ps a) (gp ps b)):Nat):Int)) (e:=((gp ps a-(min (gp ps a) (gp ps b)):Nat):Int)) rfl rfl rfl rfl (by rw[oT o_];omega) (jI (vl:=(zQ tb a ((gp ps a-(min (gp ps a) (gp ps b)):Nat):Int))) rfl rfl OO (P9 tb ps t G (F.to f s_) Q Y (St.xM f (X:=[]) s_ hT s_) a (gp ps a-(min (gp ps a) (gp ps b))) o_ o_) ?_)
 rintro _ q ⟨rfl,H⟩
 have h:St _ [] q:=yq f H
 refine fK h 13 ?_
 refine ld (a:=⟨tb,1,none⟩) (v:=t.dv) rfl rfl yd rfl (kn h s_ F.b rfl) (fK h 1 ?_)
 refine iK (k:=b) (i:=(b:Int)) rfl rfl rfl yd gr F.d o_ o_ W (jk (u:=(Za (((gp ps b):Nat):Int))) rfl rfl yf rfl (yw h s_ d_ F.d) W rfl (fK h 1 ?_))
 refine ar (a:=(((gp ps b):Nat):Int)) (b:=(((min (gp ps a) (gp ps b)):Nat):Int)) (c:=(((gp ps b):Nat):Int)-(((min (gp ps a) (gp ps b)):Nat):Int)) (e:=((gp ps b-(min (gp ps a) (gp ps b)):Nat):Int)) rfl rfl rfl rfl (by rw[oT o_];omega) (jI (vl:=(zQ tb b ((gp ps b-(min (gp ps a) (gp ps b)):Nat):Int))) rfl rfl OO (P9 tb ps t q (F.to h s_) Q Y (St.xM h (X:=[]) s_ hT s_) b (gp ps b-(min (gp ps a) (gp ps b))) o_ o_) ?_)
 rintro _ I ⟨rfl,J⟩
 have l:St _ [] I:=yq h J
 refine fK l 11 ?_
 by_cases K:(((gL ps (gp ps a-(min (gp ps a) (gp ps b))) a:Nat):Int):Int)=(((gL ps (gp ps b-(min (gp ps a) (gp ps b))) b:Nat):Int):Int)
 . refine fQ l 13 ?_
   refine iC (v:=(Za ((gL ps (gp ps a-(min (gp ps a) (gp ps b))) a:Nat):Int))) (v' := Zf) Tryz.results210 rfl rfl ?_
   exact⟨_,true,rfl,VE Q S hb o_,l.gz s_⟩
 . obtain⟨U,ah,_⟩:=qq Q S (k:=gp ps a-(min (gp ps a) (gp ps b))) o_
   obtain⟨aa,ai,_⟩:=qq Q hb (k:=gp ps b-(min (gp ps a) (gp ps b))) o_
   have ad:gL ps (gp ps a-(min (gp ps a) (gp ps b))) a≠gL ps (gp ps b-(min (gp ps a) (gp ps b))) b:=by omega
   obtain⟨A,Z⟩:∃ A,A=gL ps (gp ps a-(min (gp ps a) (gp ps b))) a:=⟨_,rfl⟩
   obtain⟨B,ab⟩:∃ B,B=gL ps (gp ps b-(min (gp ps a) (gp ps b))) b:=⟨_,rfl⟩
   refine fK l 1 ?_
   rw[<-Z]at U ah ad ⊢
   rw[<-ab]at aa ai ad ⊢
   refine gF l 12 ?_
   refine lp (α:=Nat×Nat) (fun(j,s)=>[(0,(Zb tb)),(1,(Za ((gL ps s A:Nat):Int))),(2,(Za ((gL ps s B:Nat):Int))),(9,(Za ((j:Int)-1)))]) (fun(j,s) w1=>St [(w,[])] [] w1/\o6 ps A B (min (gp ps a) (gp ps b)) j s/\j<=13) (fun(j,s)=>j) (13,0) ⟨rfl,gm (by first|rfl|omega),gm (by first|rfl|omega),gm (by first|rfl|omega),trivial⟩ (⟨l,o6.start ad o_,o_⟩) ?_
   rintro⟨j,s⟩ L M ⟨R,T,ay⟩
   have aA:=T.le
   obtain⟨aD,aE,_⟩:=qq Q U (k:=s) o_
   obtain⟨aF,aG,_⟩:=qq Q aa (k:=s) o_
   refine fS R 4 ?_
   by_cases N:(((j:Int)-1):Int)≥(0:Int)
   . have az:=Ay (ps:=ps) (k:=j-1)
     have ae:(jr ps (j-1))[(gL ps s A)]? = some (fJ (jr ps (j-1)) (gL ps s A)):=gy o_
     have af:(jr ps (j-1))[(gL ps s B)]? = some (fJ (jr ps (j-1)) (gL ps s B)):=gy o_
     have aj:o6 ps A B (min (gp ps a) (gp ps b)) (j-1+1) s:=by rw[Nat.sub_add_cancel o_];exact T
     obtain⟨ao,ap⟩:=aj.next Q an U aa o_ o_
     refine gJ R 14 fun O g=>?_
     refine jB (o:=2) (o' := 2+(j-1)) (i:=((j:Int)-1)) rfl rfl rfl qt j6 o_ (by first|omega|(simp only[mj];omega)) (ld (a:=⟨tb,2+(j-1),none⟩) (v:=((fJ t.jl (j-1)).1)) rfl rfl yd rfl (kn g s_ F.b2 (v7 (by rw[F.ok.len];omega) rfl)) (fK g 1 ?_))
     refine iK (k:=(gL ps s A)) (i:=((gL ps s A:Nat):Int)) rfl rfl rfl yd gr (F.r (j-1) o_) o_ o_ ae (jk (u:=(Za (fJ (jr ps (j-1)) (gL ps s A)))) rfl rfl yf rfl (yw g s_ d_ (F.r (j-1) o_)) ae rfl (fK g 4 ?_))
     refine jB (o:=2) (o' := 2+(j-1)) (i:=((j:Int)-1)) rfl rfl rfl qt j6 o_ (by first|omega|(simp only[mj];omega)) (ld (a:=⟨tb,2+(j-1),none⟩) (v:=((fJ t.jl (j-1)).1)) rfl rfl yd rfl (kn g s_ F.b2 (v7 (by rw[F.ok.len];omega) rfl)) (fK g 1 ?_))
     refine iK (k:=(gL ps s B)) (i:=((gL ps s B:Nat):Int)) rfl rfl rfl yd gr (F.r (j-1) o_) o_ o_ af (jk (u:=(Za (fJ (jr ps (j-1)) (gL ps s B)))) rfl rfl yf rfl (yw g s_ d_ (F.r (j-1) o_)) af rfl (fK g 8 ?_))
     by_cases x:((fJ (jr ps (j-1)) (gL ps s A)):Int)=((fJ (jr ps (j-1)) (gL ps s B)):Int)
     . have ac:=ao x
       refine fK g 9 ?_
       refine ar (a:=((j:Int)-1)) (b:=1) (c:=((j:Int)-1)-1) (e:=((j:Int)-1-1)) rfl rfl rfl rfl (oT o_) (fQ g 2 ?_)
       refine tN (?_)
       exact again ((j-1),s) ⟨rfl,rfl,rfl,gm (by first|rfl|omega),trivial⟩ (⟨g,ac,o_⟩) (by show ((j-1):Nat)<j;omega)
     . obtain⟨ac,aB,aC⟩:=ap x
       refine fK g 14 ?_
       refine ar (a:=((j:Int)-1)) (b:=1) (c:=((j:Int)-1)-1) (e:=((j:Int)-1-1)) rfl rfl rfl rfl (oT o_) (fQ g 2 ?_)
       refine tN (?_)
       exact again ((j-1),(s+2 ^ (j-1))) ⟨rfl,gm (by first|rfl|omega),gm (by first|rfl|omega),gm (by first|rfl|omega),trivial⟩ (⟨g,ac,o_⟩) (by show ((j-1):Nat)<j;omega)
   . have am:j=0:=by omega
     refine fK R 1 ?_
     subst am
     obtain⟨ak,al⟩:=T.fin Q U o_
     refine fK R 14 ?_
     refine jB (o:=2) (o' := 2) (i:=0) rfl rfl rfl qt j6 d_ rfl (ld (a:=⟨tb,2,none⟩) (v:=((fJ t.jl 0).1)) rfl rfl yd rfl (kn R s_ F.b rfl) (fK R 1 ?_))
     refine iK (k:=(gL ps s A)) (i:=((gL ps s A:Nat):Int)) rfl rfl rfl yd gr F.p o_ o_ (gy o_) (jk (u:=(Za (fJ ps (gL ps s A)))) rfl rfl yf rfl (yw R s_ d_ F.p) (gy o_) rfl ?_)
     by_cases P:((fJ ps (gL ps s A)):Int)<(0:Int)
     . refine fQ R 12 ?_
       refine iC (v:=Zc) (v' := Zp) Tryz.results210 rfl rfl ?_
       exact⟨0,false,rfl,VF Q S hb Z ab T (ak o_),R.gz s_⟩
     . refine fK R 11 ?_
       refine jB (o:=2) (o' := 2) (i:=0) rfl rfl rfl qt j6 d_ rfl (ld (a:=⟨tb,2,none⟩) (v:=((fJ t.jl 0).1)) rfl rfl yd rfl (kn R s_ F.b rfl) (fK R 1 ?_))
       refine iK (k:=(gL ps s A)) (i:=((gL ps s A:Nat):Int)) rfl rfl rfl yd gr F.p o_ o_ (gy o_) (jk (u:=(Za (fJ ps (gL ps s A)))) rfl rfl yf rfl (yw R s_ d_ F.p) (gy o_) rfl (fQ R 5 ?_))
       refine iC (v:=(Za (fJ ps (gL ps s A)))) (v' := Zf) Tryz.results210 rfl rfl ?_
       obtain⟨f1,f2,f3⟩:=al o_
       exact⟨gL ps (s+1) A,true,by rw[f2],VG Q S hb Z ab T f1 f3,R.gz s_⟩
end
section
open Go Go.Sx
structure Mf where
 bt:Nat
 tb:Nat
 t:Lt
 f:List Nat
 lv:Value
 rv:Value
 pv:Value
 hv:Value
 sv:Value
 fv:Value
 mp:Nat
def Mf.R(mb n:Nat)(es:List Ge)(q:Mf):fU:=j7 (gV es n q.f) (gj [blk mb 269 (Zh q.bt),blk q.bt 266 [(Zb q.tb),(Za n),q.lv,q.rv,q.pv,q.hv,q.sv,q.fv,(.map (some q.mp))],(Lt.R q.tb (fT es n q.f).p q.t),fL fV q.lv 3 1 ((fT es n q.f).l),fL fV q.rv 3 1 ((fT es n q.f).r),fL fV q.pv 3 1 ((fT es n q.f).p),fL fV q.hv 2 1 ((fT es n q.f).h),fL fR q.sv 3 1 ((fT es n q.f).s)])
theorem abh(v:Value)(n:Nat)(es:List Ge)(w:World)(hv:iw 3 Ge.cells (fun _=>True) w v es)(hg:n9 n es)(hn:n<=4096)(hm:es.length<=16384) :
 CR ya 134 #[(Za n),v] w (fun r w' => ∃ (mb:Nat) (q:Mf),r = .tuple (Zy mb)/\fZ (gj []) w w' (Mf.R mb n es q)):=by
 refine en Tryz.func134 Tryz.ntmps134 ?_
 have a7:=yt w
 refine fS a7 10 ?_
 refine cl IB (Kj v n es w hv hg hn hm) ?_
 rintro _ aw ⟨d,t,y,o,T,z,rfl,ac,ht⟩
 have P:=yy (jJ a7 ht)
 have a1:gV es n d:=⟨hg,ac⟩
 have be:=a1.f.room a1.g
 obtain⟨bh,bi,bj,bk,bl⟩:=lC (es:=es) (n:=n) (f:=d)
 have a9:=a1.pQ
 have a8:=a1.Kb
 refine fK P 3 ?_
 refine iH P (fun G ax ay az H=>?_)
 refine jM 0 H (fun ad N=>?_) (h1:=(ia rfl (ia (yu H (i:=1) rfl) (ia (yu H (i:=2) rfl) (ia (yu H (i:=3) rfl) (ia (yu H (i:=4) rfl) (ia (yu H (i:=5) rfl) kT)))))))
 refine fK N 17 ?_
 refine cl OC (PA v n es ad (yw N s_ d_ hv) hg hn hm) ?_
 rintro _ ae ⟨A,b,rfl,af,ht⟩
 have O:=(jJ N ht)
 have a5:=af
 have bd:=a5.len
 refine fK O 21 ?_
 refine cl OE (P6 o (fT es n d).p ae (y8 O 4 rfl).any a9 a8 o_) ?_
 rintro _ aA ⟨B,D,rfl,ht⟩
 have Q:=(jJ O ht)
 refine fK Q 22 ?_
 refine mkV (Prod.fst:Value×List jG->Value) .i64 rfl rfl Q (fun j aB aC aD S=>ja (pvs:=[(0,(Zb B)),(1,(zI n t y o T z)),(2,A),(3,(.map (some j)))]) (v:=.agg #[(Zb B),(Za n),t,y,o,T,z,A,(.map (some j))]) rfl rfl (jq [(0,(Zh B)),(1,(Zr n t y o T z)),(2,[A]),(3,[(.map (some j))])] Tf acv rfl ⟨rfl,rfl,rfl,rfl,rfl,(cells_one (yu S (i:=2) rfl)),rfl,rfl,trivial⟩ rfl) (ij S (fun C ag aE aF I=>?_)))
 refine fK I 7 ?_
 refine iL (m:=b.length) 3 rfl rfl yd I rfl ?_
 have ah:St _ [ot jG.cells 2 324 ([]),blk C 266 [(Zb B),(Za n),t,y,o,T,z,A,(.map (some j))],gM j .i64 (Prod.fst:Value×List jG->Value) ([]),(Lt.R B (fT es n d).p D),fL fR A 3 1 b,blk G 83 (Zr n t y o T z),fL fV t 3 1 ((fT es n d).l),fL fV y 3 1 ((fT es n d).r),fL fV o 3 1 ((fT es n d).p),fL fV T 2 1 ((fT es n d).h),fL fR z 3 1 ((fT es n d).s)] ag:=St.YC I
 have ai:=yg [1,4,2,0,3,5,6,7,8,9,10] ah
 refine gF I 4 ?_
 refine lp (α:=Nat×AM) (fun(k,F)=>[(1,v),(10,(Zb C)),(48,A),(49,(Za b.length)),(50,(Za k))]) (fun(k,F) w1=>St [(w,[])] [blk C 266 [(Zb B),(Za n),t,y,o,T,z,A,(.map (some j))],fL fR A 3 1 b,gM j .i64 (Prod.fst:Value×List jG->Value) F,ot jG.cells 2 324 F,(Lt.R B (fT es n d).p D),blk G 83 (Zr n t y o T z),fL fV t 3 1 ((fT es n d).l),fL fV y 3 1 ((fT es n d).r),fL fV o 3 1 ((fT es n d).p),fL fV T 2 1 ((fT es n d).h),fL fR z 3 1 ((fT es n d).s)] w1/\k<=b.length/\∀ c,(gh F c).2.length<=2*k) (fun(k,F)=>b.length-k) (0,[]) ⟨rfl,rfl,rfl,rfl,gm rO,trivial⟩ (⟨ai,o_,YF⟩) ?_
 rintro⟨k,F⟩ aG aH ⟨a2,hk,a3⟩
 refine fS a2 2 ?_
 by_cases aI:((k:Int):Int)<((b.length:Int):Int)
 . have ba:k<b.length:=by omega
   have bc:fJ b k<es.length:=a5.lt (zd (gy ba))
   have a6:=hg.at bc
   have bf:=a6.1
   have bg:=a6.2.1
   refine tL a2 33 fun aJ aj=>?_
   have ak:=yg [3,0,1,2,4,5,6,7,8,9,10] aj
   have al:=St.Pn ((fJ es (fJ b k)).u:Int) ak
   refine kY mixed [([0,1,2,3,4,5,6,7,8,9,10,11,12,13,14],[3,8,10]),([15],[3])] [16] al (fun aK J=>jO ?_)
   refine fK J 10 ?_
   refine pM (a:=((fJ es (fJ b k)).u:Int)) (mm:=F) (enc:=(Prod.fst:Value×List jG->Value)) (k:=.i64) 4 rfl rfl rfl yS yf C8 rfl J rfl (fK J 2 ?_)
   refine ja (pvs:=[(0,(Za (((fJ b k):Nat):Int))),(1,(Za ((fJ es (fJ b k)).v:Int)))]) (v:=.agg (Zx (((fJ b k):Nat):Int) ((fJ es (fJ b k)).v:Int))) rfl rfl (jq [(0,(Ze (((fJ b k):Nat):Int))),(1,(Ze ((fJ es (fJ b k)).v:Int)))] yN RI rfl ⟨rfl,rfl,rfl,rfl,trivial⟩ rfl) (jL (vs:=(D7 (((fJ b k):Nat):Int) ((fJ es (fJ b k)).v:Int))) (cs:=(Zo (((fJ b k):Nat):Int) ((fJ es (fJ b k)).v:Int))) rfl rfl Dj yN rfl (by simp[Value.cells]) rfl rfl rfl J (fun an aL aM aN K=>fQ K 1 ?_))
   refine uU (lJ rfl pR (lJ rfl pR (lJ rfl (qW (xQ (a:=((fJ es (fJ b k)).u:Int)) (mm:=F) (enc:=(Prod.fst:Value×List jG->Value)) (k:=.i64) 5 rfl rfl yS yf C8 rfl K rfl) rfl rfl) (trivial)))) (jO ?_)
   refine lF (cf:=jG.cells) (ys:=(gh F ((fJ es (fJ b k)).u:Int)).2) (zs:=[(tg b k es)]) (LL:=fun e=>(Mp (row (.slice (some ⟨an,0,none⟩) 1 1) 324 2 1 ([(.int .i64 (((fJ b k):Nat):Int)),(.int .i64 ((fJ es (fJ b k)).v:Int))])) e (((gh F ((fJ es (fJ b k)).u:Int)).2)++[(⟨(fJ b k),((fJ es (fJ b k)).v)⟩:jG)]) (ot jG.cells 2 324 (iZ F ((fJ es (fJ b k)).u:Int))) C B n t y o T z A (some j) b j F (fT es n d) D G)) 1 rfl rfl rfl Dj yN rfl d_ K rfl (kO K (i:=0) rfl) (fun x hx=>zn.1 (show List.all _ _=true from rfl) x hx) (by simp only[ze,zh,maxLen];have h7:=a3 ((fJ es (fJ b k)).u:Int);omega) (by simp only[ze,zh,maxLen];have h7:=a3 ((fJ es (fJ b k)).u:Int);omega) f_ ?_
   intro e aO ao aP
   have U:=yg [1,2,3,4,5,6,7,8,9,10,11,12] ao
   refine fQ U 1 ?_
   refine kJ (kZ ?_)
   refine qm (a:=((fJ es (fJ b k)).u:Int)) (c:=(e,((gh F ((fJ es (fJ b k)).u:Int)).2)++[(tg b k es)])) (mm:=F) (enc:=(Prod.fst:Value×List jG->Value)) (k:=.i64) (L' := (MP e (((gh F ((fJ es (fJ b k)).u:Int)).2)++[(⟨(fJ b k),((fJ es (fJ b k)).v)⟩:jG)]) (ot jG.cells 2 324 (iZ F ((fJ es (fJ b k)).u:Int))) C B n t y o T z A (some j) b j (gD F ((fJ es (fJ b k)).u:Int) (e,((gh F ((fJ es (fJ b k)).u:Int)).2)++[(⟨(fJ b k),((fJ es (fJ b k)).v)⟩:jG)])) (fT es n d) D G)) 4 rfl rfl rfl rfl yS yf U rfl rfl (fun aQ V=>fQ V 1 ?_)
   have W:=St.Pm V
   have a4:=Po a3 ((fJ es (fJ b k)).u:Int) e (tg b k es)
   refine FA tt none W 1 ?_
   have ap:=St.Pn ((fJ es (fJ b k)).v:Int) W
   refine kY mixed [([0,1,2,3,4,5,6,7,8,9,10,11,12,13,14],[3,8,10]),([15],[3])] [16] ap (fun aR L=>jO ?_)
   refine fK L 10 ?_
   refine pM (a:=((fJ es (fJ b k)).v:Int)) (mm:=(gD F ((fJ es (fJ b k)).u:Int) (e,((gh F ((fJ es (fJ b k)).u:Int)).2)++[(tg b k es)]))) (enc:=(Prod.fst:Value×List jG->Value)) (k:=.i64) 4 rfl rfl rfl yS yf C8 rfl L rfl (fK L 2 ?_)
   refine ja (pvs:=[(0,(Za (((fJ b k):Nat):Int))),(1,(Za ((fJ es (fJ b k)).u:Int)))]) (v:=.agg (Zx (((fJ b k):Nat):Int) ((fJ es (fJ b k)).u:Int))) rfl rfl (jq [(0,(Ze (((fJ b k):Nat):Int))),(1,(Ze ((fJ es (fJ b k)).u:Int)))] yN RI rfl ⟨rfl,rfl,rfl,rfl,trivial⟩ rfl) (jL (vs:=(D7 (((fJ b k):Nat):Int) ((fJ es (fJ b k)).u:Int))) (cs:=(Zo (((fJ b k):Nat):Int) ((fJ es (fJ b k)).u:Int))) rfl rfl Dj yN rfl (by simp[Value.cells]) rfl rfl rfl L (fun aq aS aT aU M=>fQ M 1 ?_))
   refine uU (lJ rfl pR (lJ rfl pR (lJ rfl (qW (xQ (a:=((fJ es (fJ b k)).v:Int)) (mm:=(gD F ((fJ es (fJ b k)).u:Int) (e,((gh F ((fJ es (fJ b k)).u:Int)).2)++[(tg b k es)]))) (enc:=(Prod.fst:Value×List jG->Value)) (k:=.i64) 5 rfl rfl yS yf C8 rfl M rfl) rfl rfl) (trivial)))) (jO ?_)
   refine lF (cf:=jG.cells) (ys:=(gh (gD F ((fJ es (fJ b k)).u:Int) (e,((gh F ((fJ es (fJ b k)).u:Int)).2)++[(tg b k es)])) ((fJ es (fJ b k)).v:Int)).2) (zs:=[(D1 b k es)]) (LL:=fun E=>(Mp (row (.slice (some ⟨aq,0,none⟩) 1 1) 324 2 1 ([(.int .i64 (((fJ b k):Nat):Int)),(.int .i64 ((fJ es (fJ b k)).u:Int))])) E (((gh (gD F ((fJ es (fJ b k)).u:Int) (e,((gh F ((fJ es (fJ b k)).u:Int)).2)++[(⟨(fJ b k),((fJ es (fJ b k)).v)⟩:jG)])) ((fJ es (fJ b k)).v:Int)).2)++[(⟨(fJ b k),((fJ es (fJ b k)).u)⟩:jG)]) (ot jG.cells 2 324 (iZ (gD F ((fJ es (fJ b k)).u:Int) (e,((gh F ((fJ es (fJ b k)).u:Int)).2)++[(⟨(fJ b k),((fJ es (fJ b k)).v)⟩:jG)])) ((fJ es (fJ b k)).v:Int))) C B n t y o T z A (some j) b j (gD F ((fJ es (fJ b k)).u:Int) (e,((gh F ((fJ es (fJ b k)).u:Int)).2)++[(⟨(fJ b k),((fJ es (fJ b k)).v)⟩:jG)])) (fT es n d) D G)) 1 rfl rfl rfl Dj yN rfl d_ M rfl (kO M (i:=0) rfl) (fun x hx=>zn.1 (show List.all _ _=true from rfl) x hx) (by simp only[ze,zh,maxLen];have h7:=a4 ((fJ es (fJ b k)).v:Int);omega) (by simp only[ze,zh,maxLen];have h7:=a4 ((fJ es (fJ b k)).v:Int);omega) f_ ?_
   intro E aV ar aW
   have X:=yg [1,2,3,4,5,6,7,8,9,10,11,12] ar
   refine fQ X 1 ?_
   refine kJ (kZ ?_)
   refine qm (a:=((fJ es (fJ b k)).v:Int)) (c:=(E,((gh (gD F ((fJ es (fJ b k)).u:Int) (e,((gh F ((fJ es (fJ b k)).u:Int)).2)++[(tg b k es)])) ((fJ es (fJ b k)).v:Int)).2)++[(D1 b k es)])) (mm:=(gD F ((fJ es (fJ b k)).u:Int) (e,((gh F ((fJ es (fJ b k)).u:Int)).2)++[(tg b k es)]))) (enc:=(Prod.fst:Value×List jG->Value)) (k:=.i64) (L' := (MP E (((gh (gD F ((fJ es (fJ b k)).u:Int) (e,((gh F ((fJ es (fJ b k)).u:Int)).2)++[(⟨(fJ b k),((fJ es (fJ b k)).v)⟩:jG)])) ((fJ es (fJ b k)).v:Int)).2)++[(⟨(fJ b k),((fJ es (fJ b k)).u)⟩:jG)]) (ot jG.cells 2 324 (iZ (gD F ((fJ es (fJ b k)).u:Int) (e,((gh F ((fJ es (fJ b k)).u:Int)).2)++[(⟨(fJ b k),((fJ es (fJ b k)).v)⟩:jG)])) ((fJ es (fJ b k)).v:Int))) C B n t y o T z A (some j) b j (gD (gD F ((fJ es (fJ b k)).u:Int) (e,((gh F ((fJ es (fJ b k)).u:Int)).2)++[(⟨(fJ b k),((fJ es (fJ b k)).v)⟩:jG)])) ((fJ es (fJ b k)).v:Int) (E,((gh (gD F ((fJ es (fJ b k)).u:Int) (e,((gh F ((fJ es (fJ b k)).u:Int)).2)++[(⟨(fJ b k),((fJ es (fJ b k)).v)⟩:jG)])) ((fJ es (fJ b k)).v:Int)).2)++[(⟨(fJ b k),((fJ es (fJ b k)).u)⟩:jG)])) (fT es n d) D G)) 4 rfl rfl rfl rfl yS yf X rfl rfl (fun aX Y=>fQ Y 1 ?_)
   have Z:=St.Pm Y
   have bb:=Po a4 ((fJ es (fJ b k)).v:Int) E (D1 b k es)
   refine rS tt none Z 6 ?_
   refine tN (?_)
   have au:=yg [1,2,3,0,4,5,6,7,8,9,10] Z
   exact again ((k+1),(gD (gD F ((fJ es (fJ b k)).u:Int) (e,((gh F ((fJ es (fJ b k)).u:Int)).2)++[(tg b k es)])) ((fJ es (fJ b k)).v:Int) (E,((gh (gD F ((fJ es (fJ b k)).u:Int) (e,((gh F ((fJ es (fJ b k)).u:Int)).2)++[(tg b k es)])) ((fJ es (fJ b k)).v:Int)).2)++[(D1 b k es)]))) ⟨rfl,rfl,rfl,rfl,gm rO,trivial⟩ (⟨au,o_,bb⟩) (by show (b.length-(k+1):Nat)<b.length-k;omega)
 . refine fK a2 13 ?_
   refine ja (pvs:=[(0,(Zb C))]) (v:=.agg (Zi C)) rfl rfl (jq [(0,(Zh C))] Th acw rfl ⟨rfl,rfl,trivial⟩ rfl) (ij a2 (fun aa aY aZ a0 ab=>?_))
   refine fQ ab 5 ?_
   refine iC (v:=(Zb aa)) (v' := Zc) Tryz.results134 rfl rfl ?_
   have av:=yg [0,1,5,7,8,9,10,11] ab
   exact⟨aa,(⟨C,B,D,d,t,y,o,T,z,A,j⟩:Mf),rfl,uY (yr (p:=gV es n d) (yc [_,_,_,_,_,_,_,_] _ av) a1) s_⟩
structure ue (w:World) (mb n:Nat) (es:List Ge) (q:Mf):Prop where
 fg:gV es n q.f
 b1:(blk mb 269 (Zh q.bt)).holds w
 b2:(blk q.bt 266 [(Zb q.tb),(Za n),q.lv,q.rv,q.pv,q.hv,q.sv,q.fv,(.map (some q.mp))]).holds w
 t:nh w q.tb (fT es n q.f).p q.t
 r:mP w es n q.f q.lv q.rv q.pv q.hv q.sv
theorem ue.of{w:World}{mb n:Nat}{es:List Ge}{q:Mf}(a:Own (Mf.R mb n es q) w):ue w mb n es q:=by
 have h:=Own.of a.un
 exact⟨a.fact,St.at h (i:=0) rfl,St.at h (i:=1) rfl,nh.of (ye h 2 rfl),⟨(y8 h 3 rfl).any,(y8 h 4 rfl).any,(y8 h 5 rfl).any,(y8 h 6 rfl).any,(y8 h 7 rfl).any⟩⟩
theorem ue.to{bs:List (World×List Nat)}{L:List fU}{w w0:World}{mb n:Nat}{es:List Ge}{q:Mf}(h:ue w0 mb n es q)(hs:St bs L w)(hb:(w0,[])∈bs):ue w mb n es q :=
 ⟨h.fg,St.xL hs hb h.b1,St.xL hs hb h.b2,h.t.to hs hb,h.r.to hs hb⟩
theorem JL(mb n:Nat)(es:List Ge)(q:Mf)(w:World)(d:ue w mb n es q)(m:n<=4096)(x:Nat)(o:x<n) :
 CR ya 147 (Zm mb x) w (fun r w' => r = .bool true/\gx [] w w'):=by
 obtain⟨h,i,j,k,l⟩:=lC (es:=es) (n:=n) (f:=q.f)
 have e:=d.fg.f.room d.fg.g
 refine en Tryz.func147 Tryz.ntmps147 ?_
 have b:=yt w
 refine fS b 8 ?_
 refine lS (a:=some ⟨mb,0,none⟩) (c:=true) rfl rfl rfl Tryz.underlying85 rfl (fK b 4 ?_)
 refine ld rfl rfl Bi rfl (kn b s_ d.b1 rfl) (lS (a:=some ⟨q.bt,0,none⟩) (c:=true) rfl rfl rfl Bi rfl (fK b 3 ?_))
 refine cmp rfl rfl rfl (nv o_) (fK b 6 ?_)
 refine ld rfl rfl Bi rfl (kn b s_ d.b1 rfl) (fK b 3 ?_)
 refine ld rfl rfl yf rfl (kn b s_ d.b2 rfl) (cmp rfl rfl rfl (pI o_) (fQ b 5 ?_))
 refine gq (v:=Zf) Tryz.results147 rfl ?_
 exact⟨rfl,b.gz s_⟩
theorem abi(mb n:Nat)(es:List Ge)(q:Mf)(w:World)(y:ue w mb n es q)(C:n<=4096){o:Obj}(E:(jN o).holds w)(u v:Nat)(L:u<n)(hv:v<n) :
 CR ya 148 (Zu mb u v) w (fun r w' => ∃ (z:Nat) (B:Bool),r = .tuple (p8 z B)/\((u=v->z=0/\B=false)/\(u≠v->sC (fT es n q.f).p u v z B))/\gx [] w w'):=by
 obtain⟨G,H,I,J,K⟩:=lC (es:=es) (n:=n) (f:=q.f)
 have F:=y.fg.f.room y.fg.g
 refine en Tryz.func148 Tryz.ntmps148 ?_
 have D:=yt w
 refine fS D 11 ?_
 refine cl ID (JL mb n es q w y C u o_) ?_
 rintro _ h ⟨rfl,i⟩
 have b:=yq D i
 refine fK b 4 ?_
 refine cl ID (JL mb n es q h (y.to b s_) C v o_) ?_
 rintro _ j ⟨rfl,k⟩
 have a:=yq b k
 refine fK a 5 ?_
 by_cases s:((u:Int):Int)=((v:Int):Int)
 . refine fQ a 13 ?_
   refine iC (v:=Zc) (v' := Zp) Tryz.results148 rfl rfl ?_
   exact⟨0,false,rfl,⟨fun _=>⟨rfl,rfl⟩,fun A=>absurd o_ A⟩,a.gz s_⟩
 . refine fK a 12 ?_
   refine ld rfl rfl Bi rfl (kn a s_ y.b1 rfl) (fK a 2 ?_)
   refine ld rfl rfl yQ rfl (kn a s_ y.b2 rfl) (fK a 2 ?_)
   refine cl Xj (aaf q.tb (fT es n q.f).p q.t j (y.to a s_).t y.fg.pQ o_ (St.xM a (X:=[]) s_ E s_) y.fg.Kb u v o_ o_) ?_
   rintro _ x ⟨c,d,rfl,l,m⟩
   have e:=yq a m
   refine fQ e 7 ?_
   refine iC (v:=(Za c)) (v' := (.bool d)) Tryz.results148 rfl rfl ?_
   exact⟨c,d,rfl,⟨fun A=>absurd A o_,fun _=>l⟩,e.gz s_⟩
theorem sC.lt{ps:List Int}{a b z:Nat}{B:Bool}(hp:j3 ps)(h:sC ps a b z B)(e:a<ps.length)(hb:0<ps.length):z<ps.length:=by
 rcases h with ⟨_,s,t,c,_,d,_⟩|⟨_,h,_⟩
 . rw[<-d]
   exact(qq hp e c).1
 . omega
theorem abk(mb n:Nat)(es:List Ge)(q:Mf)(w:World)(A:ue w mb n es q)(C:n<=4096){o:Obj}(E:(jN o).holds w)(u v:Nat)(F:u<n)(hv:v<n) :
 CR ya 85 (Zu mb u v) w (fun r w' => ∃ (θ:Int) (B:Bool),r = .tuple (p8 θ B)/\((u=v->θ = -9223372036854775808/\B=true)/\(u≠v->∃ z,sC (fT es n q.f).p u v z B/\(B=true->θ=fJ (fT es n q.f).h z)/\(B=false->θ=0)))/\gx [] w w'):=by
 obtain⟨I,J,K,L,M⟩:=lC (es:=es) (n:=n) (f:=q.f)
 have H:=A.fg.f.room A.fg.g
 refine en Tryz.func85 Tryz.ntmps85 ?_
 have D:=yt w
 refine fS D 11 ?_
 refine cl ID (JL mb n es q w A C u o_) ?_
 rintro _ j ⟨rfl,l⟩
 have b:=yq D l
 refine fK b 3 ?_
 by_cases t:((u:Int):Int)=((v:Int):Int)
 . refine fQ b 13 ?_
   refine iC (v:=(Za (-9223372036854775808))) (v' := Zf) Tryz.results85 rfl rfl ?_
   exact⟨_,true,rfl,⟨fun _=>⟨rfl,rfl⟩,fun y=>absurd o_ y⟩,b.gz s_⟩
 . refine fK b 12 ?_
   refine cl WT (abi mb n es q j (A.to b s_) C (St.xM b (X:=[]) s_ E s_) u v F hv) ?_
   rintro _ x ⟨c,m,rfl,d,s⟩
   have a:=yq b s
   refine gF a 14 ?_
   cases e:(m:Bool)
   . skip
     subst e
     refine iN a 9 ?_
     refine iC (v:=Zc) (v' := Zp) Tryz.results85 rfl rfl ?_
     exact⟨0,false,rfl,⟨fun y=>absurd y o_,fun y=>⟨_,d.2 y,fun h=>absurd h d_,fun _=>rfl⟩⟩,a.gz s_⟩
   . skip
     subst e
     have N:c<n+q.f.length:=by have G:=sC.lt A.fg.pQ (d.2 o_) o_ o_;omega
     refine fS a 8 ?_
     refine ld rfl rfl Bi rfl (kn a s_ A.b1 rfl) (fK a 3 ?_)
     refine ld rfl rfl nH rfl (kn a s_ A.b2 rfl) (fK a 1 ?_)
     refine iK (k:=c) (i:=(c:Int)) rfl rfl rfl nH ti2 A.r.h o_ o_ (gy o_) (jk rfl rfl sX rfl (yw a s_ d_ A.r.h) (gy o_) rfl (fQ a 5 ?_))
     refine iC (v:=(Za (fJ (fT es n q.f).h c))) (v' := Zf) Tryz.results85 rfl rfl ?_
     exact⟨_,true,rfl,⟨fun y=>absurd y o_,fun y=>⟨_,d.2 y,fun _=>rfl,fun h=>absurd h d_⟩⟩,a.gz s_⟩
end
section
open Go Go.Sx
theorem Ui(fb nb m:Nat)(ed:Int)(xs:List Nd)(w:World)(t:Own (Zl fb nb m ed xs) w)(hm:xs.length=m)(hb:m<=1000001)(s:gf xs)(F:FT)(q:Fo xs F)(v:Nat)(hv:v+1<m) :
 CR ya 205 (Zm fb v) w (fun r w' => ∃ (d:Int) (zs:List Nd) (F2:FT),r = .int .i64 d/\Fo zs F2/\gf zs/\zs.length=m/\fZ (Zl fb nb m ed xs) w w' (Zl fb nb m ed zs)):=by
 refine en Tryz.func205 Tryz.ntmps205 ?_
 have p:=(yp t).unpack
 refine fS p 10 ?_
 refine cl EF (Aq fb nb m ed w (p.at (i:=0) rfl) hb v o_) ?_
 rintro _ g ⟨rfl,h⟩
 have e:=yq p h
 have f:=yc [_,_] _ e
 refine fK e 11 ?_
 refine cl xE (xF fb nb m ed xs g (ye f 0 rfl) (by first|exact hm|omega) hb s F q (v+1) o_ o_) ?_
 rintro _ k ⟨x,rfl,a,l,n,b,j,u⟩
 have c:=(yi f u)
 have o:a.length=m:=by have:=b.len;omega
 refine fK c 10 ?_
 refine jj (o' := (v+1)*9+0) (i:=(v:Int)+1) rfl rfl rfl yh jh (o9 (show (v+1)<(a).length from om)) o_ (fQ c 6 ?_)
 refine gq (v:=(Za ((fJ a (v+1)).total))) Tryz.results205 rfl ?_
 exact⟨(fJ a (v+1)).total,a,_,rfl,b.fo,j,by have:=b.len;omega,yj (yc [_,_] _ c)⟩
end
section
open Go Go.Sx
theorem aa3(fb nb m:Nat)(w:World)(j:Own (kB fb nb m) w)(hb:m<=1000001)(a:Nat)(l:a+1<m) :
 CR ya 205 (Zm fb a) w (fun r w' => ∃ d:Int,r = .int .i64 d/\fZ (kB fb nb m) w w' (kB fb nb m)):=by
 obtain⟨ed,xs,F,b,c,f,k⟩:=CP j
 exact CR.mono (Ui fb nb m ed xs w k b hb c F f a l) fun r w' ⟨d,zs,F2,e,g,h,i,n⟩=>⟨d,e,Dg n i h g⟩
theorem ZB(fO fM ob:Nat)(s:GW)(w:World)(n:Own (GW.R fO fM ob s) w)(v:Nat)(hv:v<fO) :
 CR ya 140 (Zm ob v) w (fun r w' => ∃ d:Int,r = .int .i64 d/\fZ (GW.R fO fM ob s) w w' (GW.R fO fM ob s)):=by
 have y:=n.fact.vn
 have x:=n.fact.v2
 have u:=n.fact.en
 refine en Tryz.func140 Tryz.ntmps140 ?_
 have t:=Own.of n.un
 have q:s.ok fO fM:=n.fact
 have f:=yr (p:=GW.ok fO fM s) (yc [_,_,_,_] _ t) q
 refine fS t 10 ?_
 refine cl IE (I1 fO fM ob s w (ye f 0 rfl) v o_) ?_
 rintro _ l ⟨rfl,o⟩
 have i:=ym 0 f o
 have j:=(jP i).unpack
 refine gJ j 18 fun k g=>?_
 refine ar (e:=((fM+v:Nat):Int)) rfl rfl rfl rfl iT (cl Xg (aa3 s.fb s.nb (fM+fO+1) k (ye g 1 rfl) o_ (fM+v) o_) ?_)
 rintro _ m ⟨c,rfl,o⟩
 have h:=ym 1 g o
 refine ar (e:=(D9 c)) rfl rfl rfl rfl rfl (quo (a:=(D9 c)) (b:=2) (e:=(IntKind.i64.wrap ((D9 c).tdiv 2))) rfl rfl rfl d_ rfl (fQ h 4 ?_))
 refine gq (v:=(Za (IntKind.i64.wrap ((IntKind.i64.wrap (c+1)).tdiv 2)))) Tryz.results140 rfl ?_
 exact⟨_,rfl,yo (yr (p:=s.ok fO fM) (yc [_,_,_,_] _ h) q) za⟩
end
section
open Go Go.Sx
theorem I3{t:TW}{a b:Int}{c d:Nat}{p q:Bool}(h1:t.oc a c p)(e:t.oc b d q):(p&&q)=true/\t.oc a c true/\t.oc b d true\/(p&&q)=false/\¬ (t.cnt a=0/\t.cnt b=0):=by
 have e1:=h1.cnt
 have f:=e.cnt
 cases p<;>cases q<;>simp_all
theorem ahr(c:WC)(F:Nat)(s:WW)(w:World)(H:Own (WW.R c F s) w)(a b:Int) :
 CR ya 139 #[(Zb F),(Zn a),(Zn b)] w (fun r w' => ∃ (J K:Nat) (e:Int),r = .tuple #[.int .i64 (J:Int),.int .i64 (K:Int),.int .i64 e]/\(e=0/\s.u.t.oc a J true/\s.u.t.oc b K true\/e=13/\¬ (s.u.t.cnt a=0/\s.u.t.cnt b=0))/\fZ (WW.R c F s) w w' (WW.R c F s)):=by
 refine en Tryz.func139 Tryz.ntmps139 ?_
 have I:=Own.of H.un
 have D:s.ok c:=H.fact
 have L:=D.w1
 have M:=D.wi
 have N:=D.n0
 have O:=D.n1
 have j:=yr (p:=s.ok c) (yc [_,_,_,_,_] _ I) D
 refine fS I 11 ?_
 refine cl vV (wQ c F s w (ye j 0 rfl)) ?_
 rintro _ o ⟨rfl,E⟩
 have q:=ym 0 j E
 have f:=(jP q).unpack
 refine fK f 13 ?_
 refine cl EB (Gc c.fO c.fM s.ub s.u o (ye f 2 rfl) a) ?_
 rintro _ x ⟨k,y,rfl,g,E⟩
 have h:=ym 2 f E
 refine fK h 14 ?_
 refine cl EB (Gc c.fO c.fM s.ub s.u x (ye h 2 rfl) b) ?_
 rintro _ A ⟨l,z,rfl,i,E⟩
 have d:=ym 2 h E
 refine fK d 13 ?_
 cases m:(y:Bool)
 . skip
   subst m
   refine fQ d 15 ?_
   refine tK (v:=Zc) (v' := Zc) (v'' := (.int .i64 13)) Tryz.results139 rfl rfl rfl ?_
   rcases I3 g i with ⟨B,C,G⟩|⟨B,C⟩
   . exact absurd B (by simp_all)
   . exact⟨0,0,13,rfl,.inr ⟨rfl,C⟩,yo (yr (p:=s.ok c) (yc [_,_,_,_,_] _ d) D) za⟩
 . skip
   subst m
   refine gF d 5 ?_
   cases n:(z:Bool)
   . skip
     subst n
     refine iN d 10 ?_
     refine tK (v:=Zc) (v' := Zc) (v'' := (.int .i64 13)) Tryz.results139 rfl rfl rfl ?_
     rcases I3 g i with ⟨B,C,G⟩|⟨B,C⟩
     . exact absurd B (by simp_all)
     . exact⟨0,0,13,rfl,.inr ⟨rfl,C⟩,yo (yr (p:=s.ok c) (yc [_,_,_,_,_] _ d) D) za⟩
   . skip
     subst n
     refine iN d 13 ?_
     refine tK (v:=(Za ((k:Nat):Int))) (v' := (Za ((l:Nat):Int))) (v'' := Zc) Tryz.results139 rfl rfl rfl ?_
     rcases I3 g i with ⟨B,C,G⟩|⟨B,C⟩
     . exact⟨k,l,0,rfl,.inl ⟨rfl,C,G⟩,yo (yr (p:=s.ok c) (yc [_,_,_,_,_] _ d) D) za⟩
     . exact absurd B (by simp_all)
theorem ahO(c:WC)(A:Nat)(s:WW)(w:World)(E:Own (WW.R c A s) w)(id:Int) :
 CR ya 79 (Z4 A id) w (fun r w' => ∃ (d e:Int),r = .tuple (Zx d e)/\(e=0↔s.u.t.cnt id=0)/\fZ (WW.R c A s) w w' (WW.R c A s)):=by
 refine en Tryz.func79 Tryz.ntmps79 ?_
 have F:=Own.of E.un
 have z:s.ok c:=E.fact
 have K:=z.w1
 have L:=z.wi
 have M:=z.n0
 have N:=z.n1
 have h:=yr (p:=s.ok c) (yc [_,_,_,_,_] _ F) z
 refine fS F 11 ?_
 refine cl WK (ahr c A s w (ye h 0 rfl) id id) ?_
 rintro _ l ⟨f,m,b,rfl,j,C⟩
 have n:=ym 0 h C
 have a:=(jP n).unpack
 refine fK a 13 ?_
 by_cases q:(b:Int)=(0:Int)
 . have D:fW.ok c.fO c.fM s.u:=(y0 a (i:=2) rfl)
   have J:=z.v2
   have G:b=0/\s.u.t.oc id f true/\s.u.t.oc id m true:=j.elim (fun y=>y) (fun y=>by exfalso;omega)
   have O:f<c.fO:=by have y:=TW.oc.lt G.2.1 D.tok (by rw[D.tn];omega);rw[D.tn]at y;exact y
   refine fK a 13 ?_
   refine cl WN (ZB c.fO c.fM s.ob s.g l (ye a 4 rfl) f o_) ?_
   rintro _ x ⟨o,rfl,C⟩
   have k:=ym 4 a C
   refine fQ k 5 ?_
   refine iC (v:=(Za o)) (v' := Zc) Tryz.results79 rfl rfl ?_
   have I:=G.2.1.cnt
   exact⟨_,0,rfl,⟨fun _=>by rw[I];rfl,fun _=>rfl⟩,yo (yr (p:=s.ok c) (yc [_,_,_,_,_] _ k) z) za⟩
 . refine fQ a 13 ?_
   refine iC (v:=Zc) (v' := (Za b)) Tryz.results79 rfl rfl ?_
   have H:b=13/\¬ (s.u.t.cnt id=0/\s.u.t.cnt id=0):=j.elim (fun y=>by exfalso;omega) (fun y=>y)
   exact⟨_,_,rfl,⟨fun B=>(by exfalso;omega),fun B=>absurd ⟨B,B⟩ H.2⟩,yo (yr (p:=s.ok c) (yc [_,_,_,_,_] _ a) z) za⟩
end
section
open Go Go.Sx
theorem T5(c:WC)(j:Nat)(s:WW)(w:World)(k:Own (WW.R c j s) w) :
 CR ya 74 (Zi j) w (fun r w' => r = .int .u64 (IntKind.u64.wrap (s.added+s.jw))/\fZ (WW.R c j s) w w' (WW.R c j s)):=by
 refine en Tryz.func74 Tryz.ntmps74 ?_
 have l:=Own.of k.un
 have i:s.ok c:=k.fact
 have n:=i.w1
 have o:=i.wi
 have q:=i.n0
 have t:=i.n1
 have a:=yr (p:=s.ok c) (yc [_,_,_,_,_] _ l) i
 refine fS l 9 ?_
 refine cl vV (wQ c j s w (ye a 0 rfl)) ?_
 rintro _ g ⟨rfl,m⟩
 have d:=ym 0 a m
 have f:=(jP d).unpack
 refine gJ f 16 fun h b=>?_
 refine ar (e:=IntKind.u64.wrap (s.added+s.jw)) rfl rfl rfl rfl rfl (fQ b 4 ?_)
 refine gq (v:=(Zn (IntKind.u64.wrap (s.added+s.jw)))) Tryz.results74 rfl ?_
 exact⟨rfl,yo (yr (p:=s.ok c) (yc [_,_,_,_,_] _ b) i) za⟩
structure Vk where
 iv:Value
 K:List Int
 es:List Ge
 f:List Nat
 lv:Value
 rv:Value
 pv:Value
 hv:Value
 sv:Value
 cb:Nat
 c:Cv
 mb:Nat
 q:Mf
structure Vk.ok (k:Vk):Prop where
 fg:gV k.es k.K.length k.f
 k7:k.K.Pairwise fun a b=>a<b
 n:k.K.length<=12
def Vk.R(k:Vk):fU:=j7 k.ok (gj [fL gW k.iv 40 1 k.K,fL fV k.lv 3 1 ((fT k.es k.K.length k.f).l),fL fV k.rv 3 1 ((fT k.es k.K.length k.f).r),fL fV k.pv 3 1 ((fT k.es k.K.length k.f).p),fL fV k.hv 2 1 ((fT k.es k.K.length k.f).h),fL fR k.sv 3 1 ((fT k.es k.K.length k.f).s),(Cv.R k.cb k.K.length k.es k.c),(Mf.R k.mb k.K.length k.es k.q)])
abbrev Vk.v(k:Vk):Value:=.agg #[k.iv,(Za k.K.length),k.lv,k.rv,k.pv,k.hv,k.sv,(Zb k.cb),(Zb k.mb)]
structure Vk.of (s:WW) (k:Vk):Prop where
 ids:s.u.oI k.K
 Ry:∃ L,s.u.mo L/\mO k.K L k.es L.length
abbrev zS a b:=(gj [Vk.R a,b]:fU)
abbrev p9(a:Vk) b:=(Cv.R a.cb b a.es a.c:fU)
abbrev Z6(a:Vk) b:=(Mf.R a.mb b a.es a.q:fU)
abbrev Zj(a:Vk):=fT a.es a.K.length a.f
abbrev G3 a (b:Nat) (c:Int) (d:Nat):=(gj [Vk.R a,gj [blk b 2 (Ze c),blk d 38 nq]]:fU)
abbrev G2 a (b c:Nat):=(gj [Vk.R a,gj [blk b 116 nq,blk c 48 nq]]:fU)
abbrev Ms a (b:Nat) (c:Int) (d:Nat) (e:Int) (f:Nat):=(gj [Vk.R a,gj [blk b 40 (Zq c),blk d 2 (Ze e),blk f 42 vE]]:fU)
abbrev pn(a:Vk)(b:Int):=([a.iv,.int .i64 b,a.lv,a.rv,a.pv,a.hv,a.sv,.pointer (some ⟨a.cb,0,none⟩),.pointer (some ⟨a.mb,0,none⟩)]:List Value)
abbrev Mt a (b:Nat) (c:Int) (d:Nat) (e:Int) (f g:Nat) h:=(gj [Vk.R a,gj [blk b 40 (Zq c),blk d 40 (Zq e),blk f 2 [.int .i64 0],blk g 4 [.bool false],h]]:fU)
abbrev HF(a:Vk)(b:Int):=(.agg #[a.iv,.int .i64 b,a.lv,a.rv,a.pv,a.hv,a.sv,.pointer (some ⟨a.cb,0,none⟩),.pointer (some ⟨a.mb,0,none⟩)]:Value)
abbrev BD(a:Nat)(b:Int)(c:Vk)(d:Int):=([.pointer (some ⟨a,0,none⟩),.bool true,.int .u64 b,c.iv,.int .i64 d,c.lv,c.rv,c.pv,c.hv,c.sv,.pointer (some ⟨c.cb,0,none⟩),.pointer (some ⟨c.mb,0,none⟩),.int .i64 1]:List Value)
abbrev L5(a:Vk)(b:Int)(c d:Nat):=(#[.agg #[a.iv,.int .i64 b,a.lv,a.rv,a.pv,a.hv,a.sv,.pointer (some ⟨a.cb,0,none⟩),.pointer (some ⟨a.mb,0,none⟩)],.pointer (some ⟨c,0,none⟩),.pointer (some ⟨d,0,none⟩)]:Array Value)
abbrev G6(a b:Nat)(c:Int)(d:Vk)(e f:Int):=(blk a 89 [.pointer (some ⟨b,0,none⟩),.bool true,.int .u64 c,d.iv,.int .i64 e,d.lv,d.rv,d.pv,d.hv,d.sv,.pointer (some ⟨d.cb,0,none⟩),.pointer (some ⟨d.mb,0,none⟩),.int .i64 f]:fU)
abbrev MA(a b:Nat)(c:Int)(d:Vk)(e:Int) f g:=(gj [blk a 89 (BD b c d e),Vk.R d,WW.R f b g]:fU)
abbrev xz(a b:Nat)(c:Int)(d:Vk)(e f:Int) g h:=(gj [blk a 89 [.pointer (some ⟨b,0,none⟩),.bool true,.int .u64 c,d.iv,.int .i64 e,d.lv,d.rv,d.pv,d.hv,d.sv,.pointer (some ⟨d.cb,0,none⟩),.pointer (some ⟨d.mb,0,none⟩),.int .i64 f],Vk.R d,WW.R g b h]:fU)
abbrev ug(a b:Nat)(c:Int)(d:Vk)(e f:Int) g h i:=(gj [blk a 89 [.pointer (some ⟨b,0,none⟩),.bool true,.int .u64 c,d.iv,.int .i64 e,d.lv,d.rv,d.pv,d.hv,d.sv,.pointer (some ⟨d.cb,0,none⟩),.pointer (some ⟨d.mb,0,none⟩),.int .i64 f],Vk.R d,WW.R g b h,i]:fU)
theorem mO.PG{s:fW}{fO fM:Nat}{K:List Int}{L:List Lv}{es:List Ge}(j:s.ok fO fM)(g:s.mo L)(h:mO K L es L.length):n9 K.length es:=fun e f=>by
 obtain⟨i,hi,e1⟩:=vg f
 have b:i<L.length:=by rw[<-h.len];exact hi
 have a:=h.fst i b
 have d:fJ es i=e:=iE (by rw[zj hi,e1])
 rw[d]at a
 refine⟨a.ul,a.vl,fun c=>(j.Aq ((g.mem _).1 (zd (gy b)))).2 ?_⟩
 rw[<-a.u,<-a.v,c]
theorem ahb(c:WC)(wb:Nat)(s:WW)(w:World)(hO:Own (WW.R c wb s) w)(am:c.fO<=12) :
 CR ya 75 (Zi wb) w (fun r w' => ∃ (k:Vk),r=k.v/\Vk.of s k/\fZ (WW.R c wb s) w w' (gj [(WW.R c wb s),Vk.R k])):=by
 refine en Tryz.func75 Tryz.ntmps75 ?_
 have al:=yp hO
 have F:=sR hO
 have au:=F.1.en
 have ar:=F.1.w1
 refine fS al 2 ?_
 refine iH al (fun U K V W A=>?_)
 refine fK A 5 ?_
 refine cl O1 (Rz c wb s K (ye A 1 rfl) am) ?_
 rintro _ X ⟨d,B,Y,a,Z,g,rfl,b,T⟩
 have L:=yg [1,0] A
 have z:=yy (ym 0 L T)
 have F:=sR (ye z 0 rfl)
 have ak:=mO.PG F.2.1 b.2.1 b.2.2
 have ap:=b.1.len F.2.1 F.2.2
 have aq:=b.2.1.len F.2.1
 have ao:=b.2.2.len
 have an:=F.1.en
 refine fK z 12 ?_
 refine ja (pvs:=[(0,d)]) (v:=.agg #[d,Zc,Zg,Zg,Zg,Zg,Zg,Zt,Zt]) rfl rfl (jq [(0,[d])] Dd acC rfl ⟨rfl,(cells_one (yu z (i:=1) rfl)),trivial⟩ rfl) (iH z (fun aa ab ac ad D=>?_))
 refine jM 0 D (fun M h=>?_) (h1:=(ia (yu D (i:=2) rfl) (ia rfl (ia rfl (ia rfl (ia rfl (ia rfl (ia rfl (ia rfl (ia rfl kT))))))))))
 refine fK h 5 ?_
 refine iL (m:=a.length) 2 rfl rfl yz h rfl (fK h 1 ?_)
 refine cl IB (Kj B a.length g M (y8 h 3 rfl).any ak o_ o_) ?_
 rintro _ ae ⟨E,j,l,n,aj,q,rfl,N,T⟩
 have f:=yy (jJ h T)
 refine fK f 4 ?_
 refine jM 5 f (fun O t=>?_) (h1:=(ia rfl (ia (yu f (i:=0) rfl) (ia (yu f (i:=1) rfl) (ia (yu f (i:=2) rfl) (ia (yu f (i:=3) rfl) (ia (yu f (i:=4) rfl) kT)))))))
 refine fK t 5 ?_
 refine iL (m:=a.length) 7 rfl rfl yz t rfl (fK t 1 ?_)
 refine cl WE (Vx B a.length g O (y8 t 8 rfl).any ak o_ o_) ?_
 rintro _ af ⟨u,G,rfl,T⟩
 have H:=(jJ t T)
 refine fK H 4 ?_
 refine jM 6 H (fun P x=>?_)
 refine fK x 5 ?_
 refine iL (m:=a.length) 8 rfl rfl yz x rfl (fK x 1 ?_)
 refine cl WG (abh B a.length g P (y8 x 9 rfl).any ak o_ o_) ?_
 rintro _ ag ⟨y,I,rfl,T⟩
 have J:=(jJ x T)
 refine fK J 4 ?_
 refine jM 7 J (fun ah e=>?_)
 refine fK e 5 ?_
 refine jM 12 e (fun ai C=>?_) (h1:=(ia (yu e (i:=9) rfl) (ia rfl (ia (yu e (i:=2) rfl) (ia (yu e (i:=3) rfl) (ia (yu e (i:=4) rfl) (ia (yu e (i:=5) rfl) (ia (yu e (i:=6) rfl) (ia rfl (ia rfl kT))))))))))
 refine fQ C 3 ?_
 refine R6 (v:=(.agg #[d,(Za a.length),j,l,n,aj,q,(Zb u),(Zb y)])) Tryz.results75 (nE (cs:=(BX d a.length j l n aj q u y)) rfl Gj rfl Dd rfl (lM C (i:=12) (o:=0) (vs:=(BX d a.length j l n aj q u y)) rfl rfl)) ?_
 have Q:=yg [8,9,2,3,4,5,6,1,0] C
 have S:=(yc [_,_,_,_,_,_,_,_] _ (Q.perm (qB (l₁:=[_]) (l₂:=[_,_,_,_,_,_,_,_])))).swap
 exact⟨(⟨d,a,g,E,j,l,n,aj,q,u,G,y,I⟩:Vk),rfl,⟨b.1,_,b.2.1,b.2.2⟩,yo (yc [_,_] [] (St.swap (yr (p:=Vk.ok (⟨d,a,g,E,j,l,n,aj,q,u,G,y,I⟩:Vk)) S.swap ⟨⟨ak,N⟩,b.1.k7,by show a.length<=12;omega⟩))) za⟩
theorem yP(b e:Nat)(cs:List Value)(w:World)(f:Own (blk b 89 ((Zb e) :: cs)) w) :
 CR ya 30 (Zi b) w (fun r w' => r = .bool true/\fZ (blk b 89 ((Zb e) :: cs)) w w' (blk b 89 ((Zb e) :: cs))):=by
 refine en Tryz.func30 Tryz.ntmps30 ?_
 have d:=yp f
 refine fS d 8 ?_
 refine lS (a:=some ⟨b,0,none⟩) (c:=true) rfl rfl rfl Gy rfl (fK d 5 ?_)
 refine lS (a:=some ⟨e,0,none⟩) (c:=true) rfl rfl rfl Bm rfl (fQ d 5 ?_)
 refine gq (v:=Zf) Tryz.results30 rfl ?_
 exact⟨rfl,yj d⟩
theorem TH(c:WC)(j i:Nat)(s:WW)(cs:List Value)(w:World)(l:Own (rC j ((.pointer (some ⟨i,0,none⟩)) :: cs) c i s) w)(id:Int) :
 CR ya 41 (Z4 j id) w (fun r w' => ∃ B:Bool,r = .bool B/\(B=true↔s.u.t.cnt id=0)/\fZ (rC j ((.pointer (some ⟨i,0,none⟩)) :: cs) c i s) w w' (rC j ((.pointer (some ⟨i,0,none⟩)) :: cs) c i s)):=by
 refine en Tryz.func41 Tryz.ntmps41 ?_
 have k:=(yp l).unpack
 refine fS k 12 ?_
 refine cl Yb (ahO c i s w (ye k 1 rfl) id) ?_
 rintro _ e ⟨f,d,rfl,b,m⟩
 have a:=ym 1 k m
 refine fK a 10 ?_
 by_cases g:(d:Int)=(0:Int)
 . refine fQ a 5 ?_
   refine gq (v:=Zf) Tryz.results41 rfl ?_
   exact⟨true,rfl,⟨fun h=>(by first|exact b.1 o_|cases h),fun h=>(by first|rfl|(exact absurd (b.2 h) o_))⟩,yj (yc [_,_] _ a)⟩
 . refine fQ a 5 ?_
   refine gq (v:=Zp) Tryz.results41 rfl ?_
   exact⟨false,rfl,⟨fun h=>(by first|exact b.1 o_|cases h),fun h=>(by first|rfl|(exact absurd (b.2 h) o_))⟩,yj (yc [_,_] _ a)⟩
theorem aeC:ya.stoodInHeld 81=false:=by kernel_rfl
theorem PD:ya.eqGuardType ya.depth 81=false:=by kernel_rfl
theorem Pf(a b:Bool)(c d:Int)(w:World):(Op.equal 81 (.agg #[.bool a,.int .u64 c]) (.agg #[.bool b,.int .u64 d])).run ya w = .ok ((a==b)&&(c==d)) w :=
 Sm GA aeC d_ d_ (Sp mY _ 0 _ rfl) (Sp mY _ 0 _ rfl) (rV yk _ 1 _ rfl) (rV yk _ 1 _ rfl) (Kx 9998 mY a b) (CZ 9998 yk c d)
theorem Ys(a:Bool)(c:Int)(w:World):(Op.equal 81 (.agg #[.bool a,.int .u64 c]) (.agg #[.bool a,.int .u64 c])).run ya w = .ok true w:=by
 rw[Pf,beq_self_eq_true,beq_self_eq_true]
 rfl
theorem TR(c:WC)(T F:Nat)(s:WW)(w:World){α:Type}(S:fU)(X : α->fU)(Φ : Vk->α->Prop)(W:Nat)(cap:List Value)(Z:gi ya W)(hq:∀ (k:Vk) (w1:World),Vk.of s k->Own (zS k S) w1->CR ya W (k.v :: cap).toArray w1 (fun r w' => r = .tuple #[]/\∃ x,Φ k x/\fZ (zS k S) w1 w' (zS k (X x))))(Y:Own (Mz T F c s S) w)(ab:c.fO<=12) :
 CR ya 38 (Hf T (.func (.func W) #[] cap.toArray)) w (fun r w' => ∃ (k:Vk) (x:α),r = .tuple #[]/\(Vk.of s k /\ Φ k x)/\fZ (Mz T F c s S) w w' (gj [blk T 89 (BD F (IntKind.u64.wrap (s.added+s.jw)) k k.K.length),Vk.R k,(WW.R c F s),X x])):=by
 refine en Tryz.func38 Tryz.ntmps38 ?_
 have U:=(yp Y).unpack
 refine fS U 6 ?_
 refine cl Pb (T5 c F s w (ye U 1 rfl)) ?_
 rintro _ H ⟨rfl,V⟩
 have n:=ym 1 U V
 refine ja (pvs:=[(0,Zf),(1,(Zn (IntKind.u64.wrap (s.added+s.jw))))]) (v:=.agg (BH (IntKind.u64.wrap (s.added+s.jw)))) rfl rfl (jq [(0,[Zf]),(1,(Zq (IntKind.u64.wrap (s.added+s.jw))))] Dc RM rfl ⟨rfl,rfl,rfl,rfl,trivial⟩ rfl) (iH n (fun I J L M q=>?_))
 refine gJ q 11 fun t f=>?_
 refine JW (c:=false) (xs:=#[Zp,tj]) (ys:=(BH (IntKind.u64.wrap (s.added+s.jw)))) rfl rfl rfl PD (fun w=>Pf _ _ _ _ w) (fK f 10 ?_)
 refine cl X7 (ahb c F s t (ye f 2 rfl) ab) ?_
 rintro _ N ⟨b,rfl,h,V⟩
 have u:=yg [2,0,1,3] f
 have y:=yy (ym 0 u V)
 have j:=yg [1,0,2,3,4] y
 have aa:=qw j
 have a:=(jP j).unpack
 refine fK a 2 ?_
 refine jM 10 a (fun O d=>?_) (h1:=(ia (yu a (i:=0) rfl) (ia rfl (ia (yu a (i:=1) rfl) (ia (yu a (i:=2) rfl) (ia (yu a (i:=3) rfl) (ia (yu a (i:=4) rfl) (ia (yu a (i:=5) rfl) (ia rfl (ia rfl kT))))))))))
 refine fK d 5 ?_
 refine sO (cs:=[Zf,(Zn (IntKind.u64.wrap (s.added+s.jw)))]) rfl rfl GA rfl Dc rfl (lM d (i:=9) (o:=0) (vs:=[Zf,(Zn (IntKind.u64.wrap (s.added+s.jw)))]) rfl rfl) (fK d 2 ?_)
 refine jM 10 d (fun P e=>?_)
 refine fK e 6 ?_
 refine ld rfl rfl yf rfl (kQ e 10 rfl rfl) (fK e 3 ?_)
 refine jM 10 e (fun z g=>?_)
 refine fK g 7 ?_
 refine sO (cs:=(pn b b.K.length)) rfl rfl Gj rfl Dd rfl (lM g (i:=10) (o:=3) (vs:=(pn b b.K.length)) rfl rfl) ?_
 have A:=yr (p:=Vk.ok b) (yc [_,_,_,_,_,_,_,_] _ g) aa
 have B:=yg [0,4,1,2,3] A
 have l:=yc [_,_] _ B
 refine qg (fi:=[]) (ca:=cap) rfl rfl rfl Z (hq b z h (ye l 0 rfl)) ?_
 rintro _ Q ⟨rfl,C,D,E⟩
 have m:=(yi l E)
 refine fQ m 1 ?_
 refine iQ Tryz.results38 ?_
 have G:=yg [4,0,2,1] m
 exact⟨b,C,rfl,⟨h,D⟩,yj (yc [_,_,_,_] _ G)⟩
theorem Lo(c:WC)(A B:Nat)(s:WW)(w:World){α:Type}(z:fU)(E : α->fU)(Φ : Vk->α->Prop)(D:Nat)(cap:List Value)(G:gi ya D)(I:∀ (k:Vk) (w1:World),Vk.of s k->Own (zS k z) w1->CR ya D (k.v :: cap).toArray w1 (fun r w' => r = .tuple #[]/\∃ x,Φ k x/\fZ (zS k z) w1 w' (zS k (E x))))(k:Vk)(H:Vk.of s k)(b:Int)(F:Own (ug A B (IntKind.u64.wrap (s.added+s.jw)) k k.K.length b c s z) w) :
 CR ya 38 (Hf A (.func (.func D) #[] cap.toArray)) w (fun r w' => ∃ (x:α),r = .tuple #[] /\ Φ k x/\fZ (ug A B (IntKind.u64.wrap (s.added+s.jw)) k k.K.length b c s z) w w' (ug A B (IntKind.u64.wrap (s.added+s.jw)) k k.K.length b c s (E x))):=by
 refine en Tryz.func38 Tryz.ntmps38 ?_
 have C:=(yp F).unpack
 refine fS C 6 ?_
 refine cl Pb (T5 c B s w (ye C 2 rfl)) ?_
 rintro _ o ⟨rfl,J⟩
 have f:=ym 2 C J
 refine ja (pvs:=[(0,Zf),(1,(Zn (IntKind.u64.wrap (s.added+s.jw))))]) (v:=.agg (BH (IntKind.u64.wrap (s.added+s.jw)))) rfl rfl (jq [(0,[Zf]),(1,(Zq (IntKind.u64.wrap (s.added+s.jw))))] Dc RM rfl ⟨rfl,rfl,rfl,rfl,trivial⟩ rfl) (iH f (fun p q t u g=>?_))
 refine gJ g 11 fun h a=>?_
 refine JW (c:=true) (xs:=(BH (IntKind.u64.wrap (s.added+s.jw)))) (ys:=(BH (IntKind.u64.wrap (s.added+s.jw)))) rfl rfl rfl PD (fun w=>Ys _ _ w) ?_
 have i:=yg [2,4,0,1,3] a
 have d:=yc [_,_] _ i
 refine fK a 11 ?_
 refine qg (fi:=[]) (ca:=cap) rfl rfl rfl G (I k h H (ye d 0 rfl)) ?_
 rintro _ y ⟨rfl,j,l,m⟩
 have e:=(yi d m)
 refine fQ e 1 ?_
 refine iQ Tryz.results38 ?_
 have n:=yg [3,0,4,1] e
 exact⟨j,rfl,l,yj (yc [_,_,_,_] _ n)⟩
end
section
open Go Go.Sx
abbrev Vk.top(k:Vk)(T:Int)(x:Nat):Nat:=i6 (fT k.es k.K.length k.c.f).p (fT k.es k.K.length k.c.f).h T x
abbrev Vk.gH(k:Vk)(T:Int)(x:Nat):Nat:=Go.Sx.gH k.es k.K.length k.c.f (k.top T x)
abbrev Vk.pS(k:Vk)(T:Int)(x:Nat):Nat:=fJ (fT k.es k.K.length k.c.f).s (k.top T x)
theorem gV.Jw{es:List Ge}{n:Nat}{f:List Nat}(h:gV es n f){y:Nat}(a:y<n+f.length):gH es n f y<n:=by
 unfold gH
 split
 . assumption
 . have:=h.st (i:=y-n) o_
   omega
theorem Vk.Jw{k:Vk}(h:gV k.es k.K.length k.c.f){T:Int}{x:Nat}(i:x<k.K.length):k.gH T x<k.K.length:=by
 obtain⟨a,b,d,e,g⟩:=lC (es:=k.es) (n:=k.K.length) (f:=k.c.f)
 refine gV.Jw h ?_
 have:=H7 (hs:=(fT k.es k.K.length k.c.f).h) (T:=T) (x:=x) (ps:=(fT k.es k.K.length k.c.f).p) o_ h.pQ
 show i6 _ _ _ _<_
 omega
theorem VQ{t:TW}{id:Int}(h:t.cnt id=0):t.mem id:=by
 apply Classical.byContradiction
 intro a
 rw[TW.tA a]at h
 cases h
theorem Vk.of.mem{s:WW}{k:Vk}(h:Vk.of s k){u:Int}(a:s.u.t.cnt u=0):u∈k.K:=(h.ids.mem u).2 (VQ a)
theorem NK(N O P:Nat)(u T:Int)(k:Vk)(w:World)(X:Own (Ms k N u O T P) w)(Z:u∈k.K) :
 CR ya 42 #[(HF k k.K.length),(Zb N),(Zb O),(Zb P)] w (fun r w' => r = .tuple #[]/\∃ x:Int×Nat,x=(fJ k.K (k.gH T (gN k.K u)),k.pS T (gN k.K u))/\fZ (Ms k N u O T P) w w' (gj [Vk.R k,(gj [blk N 40 (Zq u),blk O 2 (Ze T),blk P 42 (sJ x.1 x.2)])])):=by
 refine en Tryz.func42 Tryz.ntmps42 ?_
 have V:=Own.of X
 have S:=qw V
 have aa:=S.n
 have W:=(jP V).unpack
 have j:=yg [8,0,1,2,3,4,5,6,7] W
 have d:=yy j
 have Y:gV k.es k.K.length k.c.f:=(y0 W (i:=6) rfl)
 have U:=(wC S.k7 Z).1
 have ab:=Vk.Jw Y (T:=T) U
 refine fS d 2 ?_
 refine ij d (fun b C D E e=>?_)
 refine gF e 3 ?_
 refine Sa (Γ:=Nat) mixed [[],[0],[],[2],[],[2,3,4],[],[0,1,2,3,4,5,6],[0,1,2,3,4,5,6,7],[0,1,2,3,4,5,6,7,8],[0,1,2,3,4,5,6,7,8],[],[0,1,2,3,4,5,6,7,8,9,11],[0,1,2,3,4,5,6,7,8,9,10,11,12]] [11,12] d_ [fun _=>(.pointer (some ⟨b,7,none⟩)),fun _=>(Zb k.cb),fun _=>(Zb b),fun _=>k.iv,fun _=>(Zn u),fun _=>(Za (gN k.K u:Int)),fun _=>(Za T),fun _=>(M4 ((k.gH T (gN k.K u):Nat):Int) ((k.pS T (gN k.K u):Nat):Int)),fun _=>(M4 ((k.gH T (gN k.K u):Nat):Int) ((k.pS T (gN k.K u):Nat):Int)),fun _=>(BQ ((k.gH T (gN k.K u):Nat):Int) ((k.pS T (gN k.K u):Nat):Int)),fun _=>Zc,fun a=>(Zb a),fun _=>undef,fun _=>Zc] [(fun a=>[blk b 87 (pn k k.K.length),blk N 40 (Zq u),blk O 2 (Ze T),blk P 42 vE,fL gW k.iv 40 1 k.K,fL fV k.lv 3 1 ((Zj k).l),fL fV k.rv 3 1 ((Zj k).r),fL fV k.pv 3 1 ((Zj k).p),fL fV k.hv 2 1 ((Zj k).h),fL fR k.sv 3 1 ((Zj k).s),(p9 k k.K.length),(Z6 k k.K.length)],fun _ _=>True),(fun a=>[blk a 102 vt,blk b 87 (pn k k.K.length),blk N 40 (Zq u),blk O 2 (Ze T),blk P 42 vE,fL gW k.iv 40 1 k.K,fL fV k.lv 3 1 ((Zj k).l),fL fV k.rv 3 1 ((Zj k).r),fL fV k.pv 3 1 ((Zj k).p),fL fV k.hv 2 1 ((Zj k).h),fL fR k.sv 3 1 ((Zj k).s),(p9 k k.K.length),(Z6 k k.K.length)],fun _ _=>True),(fun a=>[blk a 102 (Zo ((k.gH T (gN k.K u):Nat):Int) ((k.pS T (gN k.K u):Nat):Int)),blk b 87 (pn k k.K.length),blk N 40 (Zq u),blk O 2 (Ze T),blk P 42 vE,fL gW k.iv 40 1 k.K,fL fV k.lv 3 1 ((Zj k).l),fL fV k.rv 3 1 ((Zj k).r),fL fV k.pv 3 1 ((Zj k).p),fL fV k.hv 2 1 ((Zj k).h),fL fR k.sv 3 1 ((Zj k).s),(p9 k k.K.length),(Z6 k k.K.length)],fun _ _=>True)] 0 _ rfl e (fun _ _=>trivial) ?_ (fun a=>rfl) rfl ?_
 . skip
   refine' Fy 5 ?_
   refine Fx rfl rfl rfl rfl rfl (fun a M F Q=>qc rfl rfl (oN rfl Aj) (CR.mono (AO k.iv k.K u M (Sl.any (y8 F 4 rfl)) S.k7 o_) fun _ _ h=>⟨h.1,⟨F.grow h.2,trivial⟩⟩)) (fun a M F Q=>qc rfl rfl (oN rfl Aj) (CR.mono (AO k.iv k.K u M (Sl.any (y8 F 5 rfl)) S.k7 o_) fun _ _ h=>⟨h.1,⟨F.grow h.2,trivial⟩⟩)) ?_
   refine' Fy 1 ?_
   refine Fx rfl rfl rfl rfl rfl (fun a M F Q=>qc rfl rfl (oN rfl O5) (CR.mono (N2 k.cb k.K.length k.es k.c M (sF.of (ye F 10 rfl)) o_ (gN k.K u) U T) fun _ _ h=>⟨h.1,⟨F.grow h.2,trivial⟩⟩)) (fun a M F Q=>qc rfl rfl (oN rfl O5) (CR.mono (N2 k.cb k.K.length k.es k.c M (sF.of (ye F 11 rfl)) o_ (gN k.K u) U T) fun _ _ h=>⟨h.1,⟨F.grow h.2,trivial⟩⟩)) ?_
   refine' Fy 3 ?_
   refine CN rfl rfl rfl rfl (fun a M F Q=>Fg (cs:=vt) rfl uQ rfl F (fun m _ h=>⟨m,⟨h,trivial⟩,rfl,kC rfl sT⟩)) (CN rfl rfl rfl rfl (fun a M F Q=>JF 0 rfl rfl rfl rfl uQ rfl rfl F rfl rfl rfl rfl (fun _ h=>⟨a,⟨h,trivial⟩,rfl,lX.refl _ _ _⟩)) ?_)
   refine' Fy 1 ?_
   exact J5
 rintro a G g -
 refine FA tt none g 1 ?_
 refine kY mixed [([0,1,2,3,4,5,6,7,8],[1,3,5,7]),([9,10],[7])] [11,12] g (fun H o=>jO ?_)
 refine jZ o 10 fun I q=>?_
 refine kJ (jO ?_)
 refine jZ q 3 fun J t=>?_
 refine kJ (kZ ?_)
 refine jZ t 3 fun L v=>?_
 refine iQ Tryz.results42 ?_
 have y:=yg [2,3,4,0,1,5,6,7,8,9,10,11,12] v
 have z:=yc [_,_,_] _ y
 have A:=yg [3,4,5,6,7,8,9,10,0,1,2] z
 have B:=yr (p:=Vk.ok k) (yc [_,_,_,_,_,_,_,_] _ A) S
 exact⟨rfl,(fJ k.K (k.gH T (gN k.K u)),k.pS T (gN k.K u)),rfl,yj (yc [_,_] _ B)⟩
theorem Gf(c:WC)(b a:Nat)(s:WW)(cs:List Value)(w:World)(g:Own (rC b ((.pointer (some ⟨a,0,none⟩)) :: cs) c a s) w)(id:Int)(h:s.u.t.cnt id=0):CR ya 41 (Z4 b id) w (fun r w' => r = .bool true/\fZ (rC b ((.pointer (some ⟨a,0,none⟩)) :: cs) c a s) w w' (rC b ((.pointer (some ⟨a,0,none⟩)) :: cs) c a s)) :=
 CR.mono (TH c b a s cs w g id) fun r w' ⟨B,d,e,f⟩=>⟨by rw[d,e.2 h],f⟩
theorem ahg(c:WC)(b a:Nat)(s:WW)(cs:List Value)(w:World)(g:Own (rC b ((.pointer (some ⟨a,0,none⟩)) :: cs) c a s) w)(id:Int)(i:s.u.t.cnt id≠0):CR ya 41 (Z4 b id) w (fun r w' => r = .bool false/\fZ (rC b ((.pointer (some ⟨a,0,none⟩)) :: cs) c a s) w w' (rC b ((.pointer (some ⟨a,0,none⟩)) :: cs) c a s)) :=
 CR.mono (TH c b a s cs w g id) fun r w' ⟨B,d,e,f⟩=>⟨by rw[d,Bool.eq_false_iff.2 (fun h=>i (e.1 h))],f⟩
theorem ahf(c:WC)(F wb:Nat)(s:WW)(w:World)(hO:Own (uq F wb c s) w)(ag:c.fO<=12)(u T:Int)(hu:s.u.t.cnt u=0) :
 CR ya 12 #[(Zb F),(Zn u),(Za T)] w (fun r w' => ∃ (k:Vk) (x:Int×Nat),r = .tuple #[.agg #[.int .u64 x.1,.int .i64 (x.2:Int)],.int .i64 0]/\(Vk.of s k/\x=(fJ k.K (k.gH T (gN k.K u)),k.pS T (gN k.K u)))/\fZ (uq F wb c s) w w' (MA F wb (IntKind.u64.wrap (s.added+s.jw)) k k.K.length c s)):=by
 refine en Tryz.func12 Tryz.ntmps12 ?_
 have ae:=(yp hO).unpack
 refine fS ae 2 ?_
 refine ij ae (fun b P Q R q=>?_)
 refine ij q (fun d S U V y=>?_)
 refine iH y (fun W z X Y f=>?_)
 refine fK f 7 ?_
 refine cl vU (yP F wb _ z (ye f 3 rfl)) ?_
 rintro _ A ⟨rfl,ht⟩
 have h:=ym 3 f ht
 have B:=yg [3,4,0,1,2] h
 have j:=yc [_,_] _ B
 refine fK h 11 ?_
 refine cl Ce (Gf c F wb s _ A (ye j 0 rfl) u hu) ?_
 rintro _ Z ⟨rfl,C⟩
 have l:=(yi j C)
 refine fK l 8 ?_
 refine iH l (fun e D aa ab m=>?_)
 refine fK m 5 ?_
 refine mD (vf:=[]) (vc:=(vF b d e)) rfl rfl rfl ?_
 have E:=yg [5,4,0,1,2,3] m
 have G:=yc [_,_,_] _ E
 have H:=yg [1,2,0,3] G
 have n:=yc [_,_,_] _ H
 refine cl Cd (TR c F wb s D (gj [blk b 40 (Zq u),blk d 2 (Ze T),blk e 42 vE]) (fun x:Int×Nat=>gj [blk b 40 (Zq u),blk d 2 (Ze T),blk e 42 (sJ x.1 x.2)]) (fun k x=>x=(fJ k.K (k.gH T (gN k.K u)),k.pS T (gN k.K u))) 42 (vF b d e) O4 (fun k w1 af hO=>NK b d e u T k w1 hO (af.mem hu)) (ye n 0 rfl) ag) ?_
 rintro _ ac ⟨I,a,rfl,J,L⟩
 have M:=(yi n L)
 have N:=yg [3,0,1,2,4] M
 have p:=yy N
 refine fK p 5 ?_
 refine jM 6 p (fun ad g=>?_)
 refine fQ g 4 ?_
 refine nO (v:=(.agg #[(Zn a.1),(Za a.2)])) (v' := Zc) Tryz.results12 (nE (cs:=(sJ a.1 a.2)) rfl Bn rfl wN rfl (lM g (i:=6) (o:=0) (vs:=(sJ a.1 a.2)) rfl rfl)) (oC rfl) ?_
 have O:=yg [3,4,5] g
 exact⟨I,a,rfl,J,yj (yc [_,_,_] _ O)⟩
theorem ahe(c:WC)(I F:Nat)(s:WW)(cs:List Value)(w:World)(K:Own (rC I ((.pointer (some ⟨F,0,none⟩)) :: cs) c F s) w)(u T:Int)(M:s.u.t.cnt u≠0) :
 CR ya 12 #[(Zb I),(Zn u),(Za T)] w (fun r w' => r = .tuple #[.agg G9,.int .i64 13]/\fZ (rC I ((.pointer (some ⟨F,0,none⟩)) :: cs) c F s) w w' (rC I ((.pointer (some ⟨F,0,none⟩)) :: cs) c F s)):=by
 refine en Tryz.func12 Tryz.ntmps12 ?_
 have J:=(yp K).unpack
 refine fS J 2 ?_
 refine ij J (fun n p q x g=>?_)
 refine ij g (fun y z A B h=>?_)
 refine iH h (fun C j D E a=>?_)
 refine fK a 7 ?_
 refine cl vU (yP I F _ j (ye a 3 rfl)) ?_
 rintro _ k ⟨rfl,L⟩
 have b:=ym 3 a L
 have l:=yg [3,4,0,1,2] b
 have d:=yc [_,_] _ l
 refine fK b 11 ?_
 refine cl Ce (ahg c I F s _ k (ye d 0 rfl) u M) ?_
 rintro _ G ⟨rfl,m⟩
 have e:=(yi d m)
 refine fK e 6 ?_
 refine ja (pvs:=[]) (v:=.agg G9) rfl rfl (jq [] wN RK rfl trivial rfl) (jZ e 6 fun H f=>?_)
 refine nO (v:=(.agg G9)) (v' := (.int .i64 13)) Tryz.results12 (nE (cs:=vE) rfl Bn rfl wN rfl (lM f (i:=2) (o:=0) (vs:=vE) rfl rfl)) (oC rfl) ?_
 exact⟨rfl,yj (yc [_,_] _ f)⟩
end
section
open Go Go.Sx
theorem Own.still{R:fU}{w w' : World}(h:Own R w)(a:gx [] w w'):fZ R w w' R:=yo (yq (yp h) a) za
def Vk.mm(k:Vk)(u v:Nat)(x:Int×Bool):Prop:=(u=v->x.1 = -9223372036854775808/\x.2=true) /\
 (u≠v->∃ z,sC (fT k.es k.K.length k.q.f).p u v z x.2/\(x.2=true->x.1=fJ (fT k.es k.K.length k.q.f).h z)/\(x.2=false->x.1=0))
theorem abj(k:Vk)(w:World)(a:Own (Z6 k k.K.length) w)(f:k.K.length<=4096){o:Obj}(e:(jN o).holds w)(u v:Nat)(g:u<k.K.length)(hv:v<k.K.length) :
 CR ya 85 (Zu k.mb u v) w (fun r w' => ∃ (z:Int) (y:Bool),r = .tuple (p8 z y)/\k.mm u v (z,y)/\fZ (Z6 k k.K.length) w w' (Z6 k k.K.length)) :=
 CR.mono (abk k.mb k.K.length k.es k.q w (ue.of a) f e u v g hv) fun r w' ⟨z,y,b,c,d⟩=>⟨z,y,b,c,Own.still a d⟩
theorem abu(M N O L:Nat){o:Obj}(a a2:Int)(k:Vk)(w:World)(Q:Own (Mt k M a N a2 O L (jN o)) w)(S:a∈k.K)(T:a2∈k.K) :
 CR ya 84 #[(HF k k.K.length),(Zb M),(Zb N),(Zb O),(Zb L)] w (fun r w' => r = .tuple #[]/\∃ x:Int×Bool,k.mm (gN k.K a) (gN k.K a2) x/\fZ (Mt k M a N a2 O L (jN o)) w w' (gj [Vk.R k,(gj [blk M 40 (Zq a),blk N 40 (Zq a2),blk O 2 (Ze x.1),blk L 4 [(.bool x.2)],(jN o)])])):=by
 refine en Tryz.func84 Tryz.ntmps84 ?_
 have P:=Own.of Q
 have F:=qw P
 have Y:=F.n
 have W:=(jP P).unpack
 have g:=yg [8,0,1,2,3,4,5,6,7] W
 have e:=yy g
 have U:=(wC F.k7 S).1
 have V:=(wC F.k7 T).1
 refine fS e 2 ?_
 refine ij e (fun D E G H f=>?_)
 refine gF f 2 ?_
 refine kY mixed [([0,1,2,3,4,6,7,8,5],[1,7,8]),([9],[1])] [10,11,12,13,14,15] f (fun h c=>jO ?_)
 refine fK c 8 ?_
 refine cl Aj (AO k.iv k.K a h (Sl.any (y8 c 6 rfl)) F.k7 o_) ?_
 rintro _ j ⟨rfl,l⟩
 have d:=yq c l
 refine fQ d 1 ?_
 refine kJ (jO ?_)
 refine cl Aj (AO k.iv k.K a2 j (Sl.any (y8 d 6 rfl)) F.k7 o_) ?_
 rintro _ m ⟨rfl,q⟩
 have b:=yq d q
 refine fQ b 1 ?_
 refine kJ (kZ ?_)
 refine cl Yg (abj k m (ye b 13 rfl) o_ (St.at b (i:=5) rfl) (gN k.K a) (gN k.K a2) U V) ?_
 rintro _ I ⟨s,t,rfl,u,X⟩
 have v:=ym 13 b X
 refine jZ v 6 fun J y=>?_
 refine iQ Tryz.results84 ?_
 have z:=yg [1,2,3,4,5,0,6,7,8,9,10,11,12,13] y
 have A:=yc [_,_,_,_,_] _ z
 have B:=yg [2,3,4,5,6,7,8,9,0,1] A
 have C:=yr (p:=Vk.ok k) (yc [_,_,_,_,_,_,_,_] _ B) F
 exact⟨rfl,(s,t),u,yj (yc [_,_] _ C)⟩
theorem ahi{o:Obj}(c:WC)(F T:Nat)(s:WW)(k:Vk)(ai:Vk.of s k)(b:Int)(w:World)(hO:Own (ug F T (IntKind.u64.wrap (s.added+s.jw)) k k.K.length b c s (jN o)) w)(a a2:Int)(hu:s.u.t.cnt a=0)(ak:s.u.t.cnt a2=0) :
 CR ya 47 #[(Zb F),(Zn a),(Zn a2)] w (fun r w' => ∃ (x:Int×Bool),r = .tuple #[.int .i64 x.1,.bool x.2,.int .i64 0]/\k.mm (gN k.K a) (gN k.K a2) x/\fZ (ug F T (IntKind.u64.wrap (s.added+s.jw)) k k.K.length b c s (jN o)) w w' (ug F T (IntKind.u64.wrap (s.added+s.jw)) k k.K.length b c s (jN o))):=by
 refine en Tryz.func47 Tryz.ntmps47 ?_
 have aj:=(yp hO).unpack
 refine fS aj 2 ?_
 refine ij aj (fun d V W X A=>?_)
 refine ij A (fun e B Y Z h=>?_)
 refine fK h 9 ?_
 refine cl vU (yP F T _ B (ye h 2 rfl)) ?_
 rintro _ C ⟨rfl,ht⟩
 have j:=ym 2 h ht
 have D:=yg [2,4,0,1,3,5] j
 have l:=yc [_,_] _ D
 refine fK j 11 ?_
 refine cl Ce (Gf c F T s _ C (ye l 0 rfl) a hu) ?_
 rintro _ E ⟨rfl,G⟩
 have m:=(yi l G)
 have n:=yc [_,_] _ m
 refine fK m 4 ?_
 refine cl Ce (Gf c F T s _ E (ye n 0 rfl) a2 ak) ?_
 rintro _ aa ⟨rfl,H⟩
 have p:=(yi n H)
 refine fK p 9 ?_
 refine iH p (fun f ab ac ad q=>?_)
 refine fK q 4 ?_
 refine iH q (fun g I ae af y=>?_)
 refine fK y 5 ?_
 refine mD (vf:=[]) (vc:=(MT d e f g)) rfl rfl rfl ?_
 have J:=yg [5,4,1,0,7,2,3,6] y
 have L:=yc [_,_,_,_,_] _ J
 have M:=yg [1,3,2,0] L
 have z:=yc [_,_,_,_] _ M
 refine cl Cd (Lo c F T s I (gj [blk d 40 (Zq a),blk e 40 (Zq a2),blk f 2 [Zc],blk g 4 [Zp],(jN o)]) (fun x:Int×Bool=>gj [blk d 40 (Zq a),blk e 40 (Zq a2),blk f 2 (Ze x.1),blk g 4 [(.bool x.2)],(jN o)]) (fun k x=>k.mm (gN k.K a) (gN k.K a2) x) 84 (MT d e f g) Yf (fun k w1 ai hO=>abu d e f g a a2 k w1 hO (ai.mem hu) (ai.mem ak)) k ai b (ye z 0 rfl)) ?_
 rintro _ ag ⟨i,rfl,N,O⟩
 have P:=(yi z O)
 have Q:=yg [3,0,1,2] P
 have R:=yy Q
 refine jZ R 12 fun ah S=>?_
 refine tK (v:=(Za i.1)) (v' := (.bool i.2)) (v'' := Zc) Tryz.results47 rfl rfl rfl ?_
 have U:=yg [5,6,7,4] S
 exact⟨i,rfl,N,yj (yc [_,_,_,_] _ U)⟩
end
end Go.Proofs.YtoceanggliccgaaGreatDoor
