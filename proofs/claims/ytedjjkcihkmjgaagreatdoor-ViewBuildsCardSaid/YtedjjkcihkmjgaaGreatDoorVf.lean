/- Walks through code, under what is said of arguments. -/
import Derived.Test.YtedjjkcihkmjgaaGreatDoorVe
import Derived.Shelf.Spec.TrailingZeros
import Derived.Shelf.Lays7
set_option linter.unusedVariables false
set_option linter.unusedSimpArgs false
set_option maxRecDepth 100000
set_option maxHeartbeats 4000000
namespace Go.Proofs.YtedjjkcihkmjgaaGreatDoor
open Go Go.Sx Go.Proofs.Tryz
structure Lt where
 dv:Value
 jl:List (Value×List Int)
structure Lt.ok (ps:List Int) (t:Lt):Prop where
 len:t.jl.length=13
 row:∀ q,q<13->(cE t.jl q).2=jM ps q
def Lt.R(tb:Nat)(ps:List Int)(t:Lt):fJ:=lC (t.ok ps) (fN [blk tb 376 (Zi :: t.dv :: (t.jl).flatMap jd),(qd fQ 3 t.jl),cL fL t.dv 3 1 ((List.range ps.length).map (fV ps))])
abbrev Oy a b c (d e:Nat) (f:Int) g h i j k l m n o p (q:nJ) r (s:Nat):=([cL j3.cells a 373 2 b,c,blk d 231 [.pointer (some ⟨e,0,none⟩),.int .i64 f,g,h,i,j,k,l,.map m],cL fL l 3 1 n,gP o .i64 (Prod.fst:Value×List j3->Value) p,Lt.R e q.p r,blk s 102 (Zs f g h i j k),cL fQ g 3 1 q.l,cL fQ h 3 1 q.r,cL fQ i 3 1 q.p,cL fQ j 2 1 q.h,cL fL k 3 1 q.s]:List fJ)
abbrev Ob a b c d (e f:Nat) (g:Int) h i j k l m n o p q (r:nJ) s (t:Nat):=([a,cL j3.cells b 373 2 c,d,blk e 231 [.pointer (some ⟨f,0,none⟩),.int .i64 g,h,i,j,k,l,m,.map n],cL fL m 3 1 o,gP p .i64 (Prod.fst:Value×List j3->Value) q,Lt.R f r.p s,blk t 102 (Zs g h i j k l),cL fQ h 3 1 r.l,cL fQ i 3 1 r.r,cL fQ j 3 1 r.p,cL fQ k 2 1 r.h,cL fL l 3 1 r.s]:List fJ)
theorem Q8(v:Value)(ps:List Int)(w:World)(hv:gV 1 fQ (fun _=>True) w v ps)(hP:kM ps)(aR:∀ i,i<ps.length -> -1<=cE ps i)(hn:ps.length<=8192) :
 CR ya 254 #[v] w (fun r w' => ∃ (tb:Nat) (t:Lt),r = .tuple (Z1 tb)/\fP (fN []) w w' (Lt.R tb ps t)):=by
 refine enter (vs:=[v]) func254 rfl ntmps254 rfl ?_
 have aL:=k9 w
 refine fM aL 9 ?_
 refine jO (v:=v) rfl rfl yc hv (cH aL 7 ?_)
 refine cmp (a:=(ps.length:Int)) (b:=8192) rfl rfl rfl (ow o_) (cH aL 9 ?_)
 refine jO (v:=v) rfl rfl yc hv (fZ aL 4 ?_)
 refine lp (α:=Nat) (fun i=>[(0,v),(2,Zq),(3,Zc),(4,(Za ps.length)),(17,v),(18,(Za ps.length)),(19,(Za i))]) (fun i w1=>St [(w,[])] [] w1/\i<=ps.length) (fun i=>ps.length-i) 0 oh (⟨aL,o_⟩) ?_
 rintro i am D ⟨T,hi⟩
 refine fM T 2 ?_
 by_cases an:(i:Int)<(ps.length:Int)
 . have a3:=hP.up i o_
   refine cH T 19 ?_
   refine cmp (a:=(cE ps i)) (b := -1) rfl rfl rfl (kT (by have h7:=aR i o_;omega)) (cH T 3 ?_)
   refine cmp (a:=(cE ps i)) (b:=(ps.length:Int)) rfl rfl rfl (p9 (by have h7:=aR i o_;omega)) (fK T 11 ?_)
   exact gM (i+1) oh (⟨T,o_⟩) o1
 . refine cH T 13 ?_
   refine jG (vl:=[v]) rfl rfl eN (X7 v ps D (yu T s_ d_ hv) hP hn) ?_
   rintro _ ao ⟨d,rfl,ht⟩
   have n:=(y9 (R:=cL fL d 3 1 ((List.range ps.length).map (fV ps))) T ht)
   refine cH n 20 ?_
   refine iL (pvs:=[(0,Zi),(1,d)]) (v:=.agg #[Zi,d,Zh,Zh,Zh,Zh,Zh,Zh,Zh,Zh,Zh,Zh,Zh,Zh,Zh]) rfl rfl (i6 [(0,[Zi]),(1,[d])] UF adG rfl ⟨rfl,rfl,rfl,(cells_one (yh n (i:=0) rfl)),trivial⟩ rfl) (gN n (fun h E ap aq u=>?_))
   have G:St _ [(qd fQ 3 (List.replicate 13 ((.slice none 0 0,[]):Value×List Int))),blk h 376 [Zi,d,Zh,Zh,Zh,Zh,Zh,Zh,Zh,Zh,Zh,Zh,Zh,Zh,Zh],cL fL d 3 1 ((List.range ps.length).map (fV ps))] E:=St.Gm 13 u
   have H:=ye [1,0,2] G
   have I:=H
   refine fZ u 10 ?_
   refine lp (α:=Nat×List (Value×List Int)) (fun(F,jl)=>[(0,v),(4,(Za ps.length)),(9,(Zb h)),(41,(Za F))]) (fun(F,jl) w1=>St [(w,[])] [blk h 376 (Zi :: d :: (jl).flatMap jd),(qd fQ 3 jl),cL fL d 3 1 ((List.range ps.length).map (fV ps))] w1/\jl.length=13/\(∀ q,q<F->(cE jl q).2=jM ps q)/\F<=13) (fun(F,jl)=>13-F) (0,(List.replicate 13 ((.slice none 0 0,[]):Value×List Int))) oh (⟨I,s_,fun q hq=>absurd hq (wF _),o_⟩) ?_
   rintro⟨F,jl⟩ au av ⟨aM,aN,aO,a2⟩
   refine fM aM 2 ?_
   by_cases aw:(F:Int)<13
   . refine gh aM 20 fun ax J=>?_
     refine kA (cf:=fQ) (z0:=0) (m:=ps.length) (c:=ps.length) rfl rfl rfl yc fU rfl f_ d_ (zh _) o_ o_ J ?_
     intro y K ay az L
     have l:=St.bR (cf:=fQ) 0 L
     generalize (Value.slice (some ⟨y,0,none⟩) ps.length ps.length)=g at l ⊢
     refine cH l 2 ?_
     refine ia (o:=2) (o' := 2+F) (i:=(F:Int)) rfl rfl rfl si kF o_ (by first|omega|(simp only[nX];omega)) (Hr (v:=g) (vs:=[g]) (L' := [cL fQ g 3 1 (List.replicate ps.length 0),blk h 376 (setAt (Zi :: d :: (jl).flatMap jd) (2+F) [g]),(qd fQ 3 jl),cL fL d 3 1 ((List.range ps.length).map (fV ps))]) 1 rfl rfl rfl (cells_one (yh l (i:=0) rfl)) kF rfl (gD (yh l (i:=0) rfl) je) l rfl (aaC o_) rfl rfl ?_)
     intro M z aA
     have N:=ye [1,0,2,3] z
     have O:St _ [blk h 376 (Zi :: d :: ((cO jl F (fun _=>(g,[])))).flatMap jd),cL fQ g 3 1 (List.replicate ps.length 0),(qd fQ 3 jl),cL fL d 3 1 ((List.range ps.length).map (fV ps))] M:=St.u6 0 N rfl (congrArg (blk h 376) (KF o_))
     have P:=y0 1 O rfl (show _=pO (kU ps F) ps.length 0 from YW.symm)
     have Q:=ye [2,0,1,3] P
     have S:=vm F Q o_
     have U:=ye [2,3,1,4] S
     refine fZ z 9 ?_
     refine lp (α:=Nat) (fun x=>[(0,v),(4,(Za ps.length)),(9,(Zb h)),(10,(Za F)),(41,(Za F)),(51,(Za ps.length)),(52,(Za x))]) (fun x w1=>St [(w,[])] [blk h 376 (Zi :: d :: ((cO jl F (fun _=>(g,[])))).flatMap jd),cL fQ g 3 1 (pO (kU ps F) ps.length x),(qd fQ 3 (jl.eraseIdx F)),cL fL d 3 1 ((List.range ps.length).map (fV ps))] w1/\x<=ps.length) (fun x=>ps.length-x) 0 oh (⟨U,o_⟩) ?_
     rintro x aB V ⟨aJ,aV⟩
     have aX:=YU (f:=kU ps F) aV
     refine fM aJ 2 ?_
     by_cases aC:(x:Int)<(ps.length:Int)
     . have aK:x<ps.length:=by omega
       refine cH aJ 19 ?_
       by_cases aD:(F:Int)=0
       . have aS:F=0:=by omega
         refine gh aJ 10 fun aE s=>?_
         refine ia (o:=2) (o' := 2+F) (i:=(F:Int)) rfl rfl rfl si kF o_ (by first|omega|(simp only[nX];omega)) (ld (a:=⟨h,2+F,none⟩) (v:=g) rfl rfl yc rfl (St.tZ s (i:=0) rfl (xh (by first|omega|(rw[gd];omega)) (by rw[jQ o_]))) (cH s 6 ?_))
         refine iz (f:=(fun _=>(cE ps x))) 1 s (fun aF A=>?_)
         refine fK A 10 ?_
         have W:=y0 1 A rfl (show _=pO (kU ps F) ps.length (x+1) from J5 aK (by rw[aS];rfl))
         exact gM (x+1) oh (⟨W,o_⟩) o1
       . obtain⟨q,hq⟩:∃ q,F=q+1:=⟨F-1,o_⟩
         have aQ:cE (jl.eraseIdx F) q=cE jl q:=YE o_
         have aP:(cE (jl.eraseIdx F) q).2=jM ps q:=by rw[aQ];exact aO q o_
         have aW:(jl.eraseIdx F).length=12:=by rw[List.length_eraseIdx,if_pos o_];omega
         have a0:=KC hP (k:=q) aK
         have aZ:=vP (k:=q) aK
         have aY:=BU (ps:=ps) (k:=q)
         have X:=ye [2,0,1,3] aJ
         have Y:=vm q X o_
         have j:=y0 0 Y rfl (aP)
         refine cH aJ 10 ?_
         refine ar (a:=(F:Int)) (b:=1) (c:=(F:Int)-1) (e:=((q:Nat):Int)) rfl rfl rfl rfl iX (cH j 2 ?_)
         refine ia (o:=2) (o' := 2+q) (i:=((q:Nat):Int)) rfl rfl rfl si kF o_ (by first|omega|(simp only[nX];omega)) (ld (a:=⟨h,2+q,none⟩) (v:=((cE (jl.eraseIdx F) q).1)) rfl rfl yc rfl (St.tZ j (i:=2) rfl (xh (by first|omega|(rw[gd];omega)) (by rw[k6 o_,aQ]))) (cH j 10 ?_))
         by_cases aG:((cE (jM ps q) x):Int)≥0
         . refine cH j 7 ?_
           refine ar (a:=(F:Int)) (b:=1) (c:=(F:Int)-1) (e:=((q:Nat):Int)) rfl rfl rfl rfl iX (cH j 2 ?_)
           refine ia (o:=2) (o' := 2+q) (i:=((q:Nat):Int)) rfl rfl rfl si kF o_ (by first|omega|(simp only[nX];omega)) (ld (a:=⟨h,2+q,none⟩) (v:=((cE (jl.eraseIdx F) q).1)) rfl rfl yc rfl (St.tZ j (i:=2) rfl (xh (by first|omega|(rw[gd];omega)) (by rw[k6 o_,aQ]))) (cH j 1 ?_))
           refine iH (cf:=fQ) (k:=(cE (jM ps q) x).toNat) (i:=(cE (jM ps q) x)) rfl rfl rfl yc fU (yv j 0 rfl) o_ o_ (fW om) (cH j 9 ?_)
           refine ia (o:=2) (o' := 2+F) (i:=(F:Int)) rfl rfl rfl si kF o_ (by first|omega|(simp only[nX];omega)) (ld (a:=⟨h,2+F,none⟩) (v:=g) rfl rfl yc rfl (St.tZ j (i:=2) rfl (xh (by first|omega|(rw[gd];omega)) (by rw[jQ o_]))) (cH j 3 ?_))
           refine iz (f:=(fun _=>(cE (jM ps q) ((cE (jM ps q) x).toNat)))) 3 j (fun aH B=>?_)
           refine fK B 7 ?_
           have Z:=y0 0 B rfl (aP.symm)
           have aa:=St.Gl Z o_
           have ab:=ye [1,2,0,3] aa
           have ac:=y0 1 ab rfl (show _=pO (kU ps F) ps.length (x+1) from J5 aK (by rw[hq];exact aaG hP aK o_))
           exact gM (x+1) oh (⟨ac,o_⟩) o1
         . refine cH j 11 ?_
           refine ia (o:=2) (o' := 2+F) (i:=(F:Int)) rfl rfl rfl si kF o_ (by first|omega|(simp only[nX];omega)) (ld (a:=⟨h,2+F,none⟩) (v:=g) rfl rfl yc rfl (St.tZ j (i:=2) rfl (xh (by first|omega|(rw[gd];omega)) (by rw[jQ o_]))) (cH j 3 ?_))
           refine iz (f:=(fun _=>(cE (jM ps q) x))) 3 j (fun aI C=>?_)
           refine fK C 7 ?_
           have ad:=y0 0 C rfl (aP.symm)
           have ae:=St.Gl ad o_
           have af:=ye [1,2,0,3] ae
           have ag:=y0 1 af rfl (show _=pO (kU ps F) ps.length (x+1) from J5 aK (by rw[hq];exact aaF aK o_))
           exact gM (x+1) oh (⟨ag,o_⟩) o1
     . refine fK aJ 15 ?_
       have aU:x=ps.length:=by omega
       have ah:=y0 1 aJ rfl (show _=(jM ps F) from(congrArg (pO (kU ps F) ps.length) aU).trans YT)
       have ai:=ye [1,2,0,3] ah
       have aj:=St.DH ai o_
       have ak:=ye [1,0,2] aj
       have al:St _ [blk h 376 (Zi :: d :: ((cO jl F (fun _=>(g,jM ps F)))).flatMap jd),(qd fQ 3 (cO jl F (fun _=>(g,jM ps F)))),cL fL d 3 1 ((List.range ps.length).map (fV ps))] V:=St.u6 0 ak rfl (congrArg (blk h 376) ((KF o_).symm.trans (KF o_)))
       exact gM ((F+1),(cO jl F (fun _=>(g,jM ps F)))) oh (⟨al,by rw[gd];exact aN,aaD aN o_ aO,o_⟩) o1
   . refine jk aM 18 (Zb h) Zc ?_
     have a1:F=13:=by omega
     have aT:Lt.ok ps (⟨d,jl⟩:Lt):=⟨aN,fun q hq=>aO q o_⟩
     exact⟨h,(⟨d,jl⟩:Lt),rfl,uu (yn (p:=Lt.ok ps (⟨d,jl⟩:Lt)) (yd [_,_,_] _ aM) aT) s_⟩
structure oe (w:World) (tb:Nat) (ps:List Int) (t:Lt):Prop where
 ok:t.ok ps
 b:(blk tb 376 [.bool true,t.dv,(cE t.jl 0).1,(cE t.jl 1).1,(cE t.jl 2).1,(cE t.jl 3).1,(cE t.jl 4).1,(cE t.jl 5).1,(cE t.jl 6).1,(cE t.jl 7).1,(cE t.jl 8).1,(cE t.jl 9).1,(cE t.jl 10).1,(cE t.jl 11).1,(cE t.jl 12).1]).holds w
 d:gV 1 fL (fun _=>True) w t.dv ((List.range ps.length).map (fV ps))
 r:∀ q,q<13->gV 1 fQ (fun _=>True) w (cE t.jl q).1 (jM ps q)
variable{w0 w':World}{j cb:Nat}{o:Obj}{bs:List (World×List Nat)}{K:List Int}{L:List fJ}{u:Int}(tb mb n:Nat)(es:List Ge)(ps:List Int)(w:World)
theorem oe.of{w:World}{ps:List Int}{t:Lt}(d:Own (Lt.R j ps t) w):oe w j ps t:=by
 have h:=Own.of d.un
 have a:t.ok ps:=d.fact
 refine⟨a,?_,(yv h 2 rfl).any,fun q e=>?_⟩
 . have b:=nV h (i:=0) rfl
   rw[Q3 a.len]at b
   exact b
 . have f:=vm q (h.perm (List.Perm.swap _ _ _)) (by rw[a.len];exact e)
   have c:=(yv f 0 rfl).any
   rw[a.row q e]at c
   exact c
theorem oe.to{w:World}{ps:List Int}{t:Lt}(h:oe w0 j ps t)(hs:St bs L w)(hb:(w0,[])∈bs):oe w j ps t :=
 ⟨h.ok,vo hs hb h.b,yu hs hb d_ h.d,fun q a=>yu hs hb d_ (h.r q a)⟩
theorem oe.p{w:World}{ps:List Int}{t:Lt}(h:oe w j ps t):gV 1 fQ (fun _=>True) w (cE t.jl 0).1 ps:=by
 have:=h.r 0 o_
 rw[aaE]at this
 exact this
theorem Q4(t:Lt)(w:World)(f:oe w n ps t)(h:kM ps)(i:ps.length<=8192) :
 CK ya 256 (Zg n) w (.int .i64 (ps.length:Int)):=by
 have g:((List.range ps.length).map (fV ps)).length=ps.length:=by simp
 refine iE func256 9 fun e=>?_
 refine mG (a:=some ⟨n,0,none⟩) (c:=false) rfl rfl rfl AA rfl (cH e 4 ?_)
 refine ld rfl rfl nH rfl (k8 e s_ f.b rfl) (cH e 12 ?_)
 refine ld rfl rfl yc rfl (k8 e s_ f.b rfl) (jO (v:=t.dv) rfl rfl yc f.d (fK e 4 ?_))
 refine gT (v:=(Za (((List.range ps.length).map (fV ps)).length:Int))) results256 rfl ?_
 exact⟨by rw[g],e.gf s_⟩
theorem Gj(t:Lt)(w:World)(e:oe w n ps t)(d:kM ps)(f:ps.length<=8192)(x:Nat)(h:x<ps.length) :
 CK ya 255 (Zk n x) w (.bool true):=by
 have g:((List.range ps.length).map (fV ps)).length=ps.length:=by simp
 refine iE func255 8 fun b=>?_
 refine gz rfl (ot o_) (cH b 3 ?_)
 refine ig b (Q4 n ps t w e d f) fun c a=>?_
 refine gz rfl (pL o_) (fK a 5 ?_)
 refine gT (v:=Zi) results255 rfl ?_
 exact⟨rfl,a.gf s_⟩
theorem Xl(t:Lt)(w:World)(h:oe w tb ps t)(n:kM ps)(z:ps.length<=8192)(hv:Value)(hs:List Int)(q:gV 1 fQ (fun _=>True) w hv hs)(A:hs.length=ps.length)(T:Int)(j l m:Nat)(h1:(blk j 223 (Ze tb)).holds w)(u:(blk l 78 [hv]).holds w)(v:(blk m 2 (Zd T)).holds w)(x:Nat)(s:x<ps.length) :
 CR ya 257 #[(Za x),(Zb j),(Zb l),(Zb m)] w (fun r w' => ∃ B:Bool,r = .bool B/\(B=true↔0<=cE ps x/\cE hs (cE ps x).toNat<=T)/\gE [] w w'):=by
 have y:((List.range ps.length).map (fV ps)).length=ps.length:=by simp
 refine gj func257 ?_
 have g:=k9 w
 have C:=n.up x s
 refine fM g 10 ?_
 refine ia (o:=2) (o' := 2) (i:=0) rfl rfl rfl si kF d_ rfl (ld rfl rfl yc rfl (k8 g s_ h.b rfl) (cH g 1 ?_))
 refine iH (k:=x) (i:=(x:Int)) rfl rfl rfl yc fU h.p o_ o_ (fW o_) (jf rfl rfl yf rfl h.p (fW o_) rfl (gh g 6 fun c a=>?_))
 by_cases d:((cE ps x):Int)≥0
 . refine cH a 4 ?_
   refine iH (k:=(cE ps x).toNat) (i:=(cE ps x)) rfl rfl rfl yr ti2 q o_ o_ (fW o_) (cH a 2 ?_)
   by_cases e:((cE hs (cE ps x).toNat):Int)<=(T:Int)
   . refine gm a 6 Zi ?_
     exact⟨true,rfl,⟨fun f=>by first|omega|(cases f),fun f=>by first|rfl|(exfalso;omega)⟩,a.gf s_⟩
   . refine gm a 6 Zp ?_
     exact⟨false,rfl,⟨fun f=>by first|omega|(cases f),fun f=>by first|rfl|(exfalso;omega)⟩,a.gf s_⟩
 . refine gm a 13 Zp ?_
   exact⟨false,rfl,⟨fun f=>by first|omega|(cases f),fun f=>by first|rfl|(exfalso;omega)⟩,a.gf s_⟩
theorem Xn(t:Lt)(w:World)(r:oe w tb ps t)(F:kM ps)(V:ps.length<=8192)(hv:Value)(hs:List Int)(U:gV 1 fQ (fun _=>True) w hv hs)(ab:hs.length=ps.length)(T:Int)(B:Nat)(ad:B<ps.length) :
 CK ya 186 #[(Zb tb),(Za B),hv,(Za T)] w (.tuple (uL ((jK ps hs T B:Nat):Int))):=by
 have ae:((List.range ps.length).map (fV ps)).length=ps.length:=by simp
 refine iE func186 2 fun ac=>?_
 refine gN ac (fun e H I J s=>?_)
 refine gN s (fun g K L M u=>?_) (hcs:=(cells_one (Sl.Su U)))
 refine gN u (fun h y N O f=>?_)
 refine cH f 8 ?_
 refine mG (a:=some ⟨tb,0,none⟩) (c:=false) rfl rfl rfl AA rfl (cH f 4 ?_)
 refine ld rfl rfl nH rfl (k8 f s_ r.b rfl) (cH f 12 ?_)
 refine ig f (Gj tb ps t y (r.to f s_) F V B o_) fun P m=>fZ m 8 ?_
 refine jS mixed [([0,1,2,3],[0,1])] [4] m (fun A j=>iY ?_)
 refine cH j 1 ?_
 refine jO (v:=hv) rfl rfl yr U (cH j 1 ?_)
 refine ig j (Q4 tb ps t A (r.to j s_) F V) fun Q l=>fK l 1 ?_
 refine nF (ku rfl oF (ku rfl (mZ (Rz (v:=hv) rfl yr U) rfl rfl) (trivial))) (jX ?_)
 refine gz rfl (q7 o_) (cH l 7 ?_)
 refine kW (vf:=[]) (vc:=(vC e g h)) rfl rfl rfl (fZ l 5 ?_)
 refine lp (α:=Nat) (fun x=>[(1,(Za x)),(4,(Zb e)),(10,(.func (.func 257) #[] (E4 e g h)))]) (fun x w1=>St [(w,[])] [blk h 2 (Zd T),blk g 78 [hv],blk e 223 (Ze tb)] w1/\x<ps.length/\jK ps hs T x=jK ps hs T B) (fun x=>ps.length-x) B oh (⟨l,ad,rfl⟩) ?_
 rintro x R C ⟨z,W,Y⟩
 have af:=F.up x W
 refine fM z 5 ?_
 refine lR (fi:=[]) (ca:=(vC e g h)) rfl rfl rfl eN (Xl tb ps t C (r.to z s_) F V hv hs (yu z s_ d_ U) ab T e g h (nV z (i:=2) rfl) (nV z (i:=1) rfl) (nV z (i:=0) rfl) x W) ?_
 rintro _ S ⟨D,rfl,n,E⟩
 have d:=lI z E
 refine fZ d 2 ?_
 cases q:(D:Bool)
 . skip
   subst q
   refine G2 d 14 (Za x) Zc ?_
   have G:=ye [] d
   have aa:¬ (0<=cE ps x/\cE hs (cE ps x).toNat<=T):=fun h9=>(by have Z:=n.2 h9;cases Z)
   exact⟨by rw[<-Y,FR aa],G.gf s_⟩
 . skip
   subst q
   refine fM d 8 ?_
   refine ia (o:=2) (o' := 2) (i:=0) rfl rfl rfl si kF d_ rfl (ld rfl rfl yc rfl (k8 d s_ r.b rfl) (cH d 1 ?_))
   refine iH (k:=x) (i:=(x:Int)) rfl rfl rfl yc fU r.p o_ o_ (fW o_) (jf rfl rfl yf rfl (yu d s_ d_ r.p) (fW o_) rfl (fK d 3 ?_))
   have X:=n.1 rfl
   exact gM ((cE ps x).toNat) oh (⟨d,o_,(FU F W X.1 X.2).symm.trans Y⟩) o1
structure Cv where
 tb:Nat
 t:Lt
 f:List Nat
 lv:Value
 rv:Value
 pv:Value
 hv:Value
 sv:Value
 ev:Value
def Cv.R(cb n:Nat)(es:List Ge)(c:Cv):fJ:=lC (iN es n c.f) (fN [blk cb 225 [(Zb c.tb),(Za n),c.lv,c.rv,c.pv,c.hv,c.sv,c.ev],(Lt.R c.tb (fO es n c.f).p c.t),cL fQ c.lv 3 1 ((fO es n c.f).l),cL fQ c.rv 3 1 ((fO es n c.f).r),cL fQ c.pv 3 1 ((fO es n c.f).p),cL fQ c.hv 2 1 ((fO es n c.f).h),cL fL c.sv 3 1 ((fO es n c.f).s),cL fL c.ev 3 1 ((List.range (n+(c.f).length)).map (gJ es n (c.f)))])
theorem Xw(v:Value)(n:Nat)(es:List Ge)(w:World)(hv:gV 3 Ge.cells (fun _=>True) w v es)(P:lP n es)(Q:n<=4096)(hm:es.length<=16384) :
 CR ya 183 #[(Za n),v] w (fun r w' => ∃ (cb:Nat) (c:Cv),r = .tuple (Z1 cb)/\fP (fN []) w w' (Cv.R cb n es c)):=by
 refine iE func183 10 fun U=>?_
 refine cl (LI v n es w hv P Q hm) ?_
 rintro _ D ⟨b,h,j,d,O,k,rfl,y,ht⟩
 have s:=yp (y9 U ht)
 have F:iN es n b:=⟨P,y⟩
 have V:=F.f.room F.g
 obtain⟨W,X,Y,Z,aa⟩:=mK (es:=es) (n:=n) (f:=b)
 have T:=F.rY
 have S:=F.Lz
 refine cH s 3 ?_
 refine ir s (fun E G H I e=>?_)
 refine iS 0 e (fun z o=>?_) (h1:=(gD rfl (gD (yh e (i:=1) rfl) (gD (yh e (i:=2) rfl) (gD (yh e (i:=3) rfl) (gD (yh e (i:=4) rfl) (gD (yh e (i:=5) rfl) je)))))))
 refine cH o 17 ?_
 refine cl (Q8 d (fO es n b).p z (yv o 3 rfl).any T S o_) ?_
 rintro _ J ⟨l,A,rfl,ht⟩
 have t:=(y9 o ht)
 refine fZ t 18 ?_
 refine jS mixed [([0,1,2,3],[1])] [4,5,6,7] t (fun B a=>iY ?_)
 refine cH a 3 ?_
 refine cl (Tt es n b F Q h j d O k B ⟨(yv a 2 rfl).any,(yv a 3 rfl).any,(yv a 4 rfl).any,(yv a 5 rfl).any,(yv a 6 rfl).any⟩) ?_
 rintro _ K ⟨m,rfl,ht⟩
 have q:=(y9 a ht)
 refine fK q 1 ?_
 refine jF (jX ?_)
 refine iL (pvs:=[(0,(Zb l)),(1,(Bo n h j d O k)),(2,m)]) (v:=.agg #[(Zb l),(Za n),h,j,d,O,k,m]) rfl rfl (i6 [(0,(Ze l)),(1,(Zs n h j d O k)),(2,[m])] Um ady rfl ⟨rfl,rfl,rfl,rfl,rfl,(cells_one (yh q (i:=0) rfl)),trivial⟩ rfl) (gN q (fun u L M N x=>?_))
 refine jk x 5 (Zb u) Zc ?_
 have C:=ye [0,2,4,5,6,7,8,1] x
 exact⟨u,(⟨l,A,b,h,j,d,O,k,m⟩:Cv),rfl,uu (yn (p:=iN es n b) (yd [_,_,_,_,_,_,_,_] _ C) F) s_⟩
structure uD (w:World) (cb n:Nat) (es:List Ge) (c:Cv):Prop where
 fg:iN es n c.f
 b:(blk cb 225 [(Zb c.tb),(Za n),c.lv,c.rv,c.pv,c.hv,c.sv,c.ev]).holds w
 t:oe w c.tb (fO es n c.f).p c.t
 r:nK w es n c.f c.lv c.rv c.pv c.hv c.sv
 e:gV 1 fL (fun _=>True) w c.ev ((List.range (n+(c.f).length)).map (gJ es n (c.f)))
theorem uD.of{w:World}{n:Nat}{es:List Ge}{c:Cv}(a:Own (Cv.R cb n es c) w):uD w cb n es c:=by
 have h:=Own.of a.un
 exact⟨a.fact,nV h (i:=0) rfl,oe.of (yg h 1 rfl),⟨(yv h 2 rfl).any,(yv h 3 rfl).any,(yv h 4 rfl).any,(yv h 5 rfl).any,(yv h 6 rfl).any⟩,(yv h 7 rfl).any⟩
theorem uD.to{w:World}{n:Nat}{es:List Ge}{c:Cv}(h:uD w0 cb n es c)(hs:St bs L w)(hb:(w0,[])∈bs):uD w cb n es c :=
 ⟨h.fg,vo hs hb h.b,h.t.to hs hb,h.r.to hs hb,yu hs hb d_ h.e⟩
theorem P6(cb n:Nat)(es:List Ge)(c:Cv)(w:World)(e:uD w cb n es c)(o:n<=4096) :
 CK ya 185 (Zg cb) w (.bool true):=by
 obtain⟨i,j,k,l,m⟩:=mK (es:=es) (n:=n) (f:=c.f)
 have h:=e.fg.f.room e.fg.g
 refine iE func185 8 fun d=>?_
 refine lF (a:=some ⟨cb,0,none⟩) (c:=true) rfl rfl rfl underlying103 rfl (cH d 4 ?_)
 refine ld rfl rfl AA rfl (k8 d s_ e.b rfl) (lF (a:=some ⟨c.tb,0,none⟩) (c:=true) rfl rfl rfl AA rfl (fK d 5 ?_))
 refine gT (v:=Zi) results185 rfl ?_
 exact⟨rfl,d.gf s_⟩
theorem XV(cb n:Nat)(es:List Ge)(c:Cv)(w:World)(i:uD w cb n es c)(k:n<=4096)(x:Nat)(A:x<n)(T:Int) :
 CK ya 111 (Zv cb x T) w (.tuple (uL ((jK (fO es n c.f).p (fO es n c.f).h T x:Nat):Int))):=by
 obtain⟨s,u,v,y,z⟩:=mK (es:=es) (n:=n) (f:=c.f)
 have q:=i.fg.f.room i.fg.g
 refine iE func111 10 fun o=>?_
 refine ig o (P6 cb n es c w i k) fun l d=>cH d 10 ?_
 refine gz rfl (kT o_) (cH d 6 ?_)
 refine ld rfl rfl yf rfl (k8 d s_ i.b rfl) (gz rfl (p9 o_) (gh d 11 fun j a=>?_))
 refine ld rfl rfl AA rfl (k8 a s_ i.b rfl) (cH a 5 ?_)
 refine ld rfl rfl yr rfl (k8 a s_ i.b rfl) (cH a 1 ?_)
 refine ig a (Xn c.tb (fO es n c.f).p c.t j (i.to a s_).t i.fg.rY o_ c.hv (fO es n c.f).h (i.to a s_).r.h o_ T x o_) fun m e=>?_
 refine jk e 7 (Za ((jK (fO es n c.f).p (fO es n c.f).h T x:Nat):Int)) Zc ?_
 exact⟨rfl,e.gf s_⟩
theorem XP(cb n:Nat)(es:List Ge)(c:Cv)(w:World)(m:uD w cb n es c)(E:n<=4096)(x:Nat)(G:x<n)(T:Int) :
 CK ya 60 (Zv cb x T) w (.tuple #[.agg (Zx ((gJ es n c.f (jK (fO es n c.f).p (fO es n c.f).h T x):Nat):Int) ((cE (fO es n c.f).s (jK (fO es n c.f).p (fO es n c.f).h T x):Nat):Int)),.int .i64 0]):=by
 obtain⟨I,J,K,L,M⟩:=mK (es:=es) (n:=n) (f:=c.f)
 have H:=m.fg.f.room m.fg.g
 have D:(jK (fO es n c.f).p (fO es n c.f).h T x)<n+c.f.length:=by have:=JL (hs:=(fO es n c.f).h) (T:=T) (x:=x) (ps:=(fO es n c.f).p) o_ m.fg.rY;omega
 have N:((List.range (n+(c.f).length)).map (gJ es n (c.f))).length=n+c.f.length:=by simp
 have C:((List.range (n+(c.f).length)).map (gJ es n (c.f)))[(jK (fO es n c.f).p (fO es n c.f).h T x)]? = some (gJ es n c.f (jK (fO es n c.f).p (fO es n c.f).h T x)):=by simp[D]
 refine iE func60 2 fun F=>?_
 refine ir F (fun t l u y d=>?_)
 refine cH d 8 ?_
 refine ig d (XV cb n es c l (m.to d s_) E x G T) fun z q=>?_
 refine gh q 22 fun A a=>?_
 refine ld rfl rfl yc rfl (k8 a s_ m.b rfl) (cH a 1 ?_)
 refine iH (k:=(jK (fO es n c.f).p (fO es n c.f).h T x)) (i:=((jK (fO es n c.f).p (fO es n c.f).h T x:Nat):Int)) rfl rfl rfl yc fU m.e o_ o_ C (jf rfl rfl yf rfl (yu a s_ d_ m.e) C rfl (cH a 4 ?_))
 refine ld rfl rfl yc rfl (k8 a s_ m.b rfl) (cH a 1 ?_)
 refine iH (k:=(jK (fO es n c.f).p (fO es n c.f).h T x)) (i:=((jK (fO es n c.f).p (fO es n c.f).h T x:Nat):Int)) rfl rfl rfl yc fU m.r.s o_ o_ (fW o_) (jf rfl rfl yf rfl (yu a s_ d_ m.r.s) (fW o_) rfl (iL (pvs:=[(0,(Za (((gJ es n c.f (jK (fO es n c.f).p (fO es n c.f).h T x)):Nat):Int))),(1,(Za (((cE (fO es n c.f).s (jK (fO es n c.f).p (fO es n c.f).h T x)):Nat):Int)))]) (v:=.agg (Zx (((gJ es n c.f (jK (fO es n c.f).p (fO es n c.f).h T x)):Nat):Int) (((cE (fO es n c.f).s (jK (fO es n c.f).p (fO es n c.f).h T x)):Nat):Int))) rfl rfl (i6 [(0,(Zd (((gJ es n c.f (jK (fO es n c.f).p (fO es n c.f).h T x)):Nat):Int))),(1,(Zd (((cE (fO es n c.f).s (jK (fO es n c.f).p (fO es n c.f).h T x)):Nat):Int)))] xQ SS rfl oh rfl) (jI a 5 fun B j=>?_)))
 refine o5 (v:=(C4 (((gJ es n c.f (jK (fO es n c.f).p (fO es n c.f).h T x)):Nat):Int) (((cE (fO es n c.f).s (jK (fO es n c.f).p (fO es n c.f).h T x)):Nat):Int))) (v' := Zc) results60 (oI (cs:=(Zm (((gJ es n c.f (jK (fO es n c.f).p (fO es n c.f).h T x)):Nat):Int) (((cE (fO es n c.f).s (jK (fO es n c.f).p (fO es n c.f).h T x)):Nat):Int))) rfl underlying138 rfl xQ rfl (mL j (i:=0) (o:=0) (vs:=(Zm (((gJ es n c.f (jK (fO es n c.f).p (fO es n c.f).h T x)):Nat):Int) (((cE (fO es n c.f).s (jK (fO es n c.f).p (fO es n c.f).h T x)):Nat):Int))) rfl rfl)) (qm rfl) ?_
 exact⟨rfl,j.gf s_⟩
open Go.Shelf Go.Lib in
def Tryz.agW:Go.Shelf.Ren:=⟨fun|27=>339|28=>356|29=>357|n=>n,fun|25=>193|3=>3|27=>289|22=>39|4=>4|53=>453|0=>0|5=>5|54=>454|n=>n,fun|0=>0|1=>1|n=>n⟩
open Go.Shelf Go.Lib in
theorem Tryz.tzI:Go.Proofs.Lays7.n27 Proofs.Tryz.prog Tryz.agW where
 mixed:=by kernel_rfl
 f27:=Proofs.Tryz.func339.trans (congrArg some<|by kernel_rfl)
 f28:=Proofs.Tryz.func356.trans (congrArg some<|by kernel_rfl)
 f29:=Proofs.Tryz.func357.trans (congrArg some<|by kernel_rfl)
 t0:=Proofs.Tryz.underlying0
 a0:=Proofs.Tryz.isAgg0
 z0:=Proofs.Tryz.sizeOf0
 v0:=Proofs.Tryz.zeroValue0
 i0:=by kernel_rfl
 t3:=Proofs.Tryz.underlying3
 a3:=Proofs.Tryz.isAgg3
 z3:=Proofs.Tryz.sizeOf3
 v3:=Proofs.Tryz.zeroValue3
 i3:=by kernel_rfl
 t4:=Proofs.Tryz.underlying4
 a4:=Proofs.Tryz.isAgg4
 z4:=Proofs.Tryz.sizeOf4
 v4:=Proofs.Tryz.zeroValue4
 i4:=by kernel_rfl
 t5:=Proofs.Tryz.underlying5
 a5:=Proofs.Tryz.isAgg5
 z5:=Proofs.Tryz.sizeOf5
 v5:=Proofs.Tryz.zeroValue5
 i5:=by kernel_rfl
 t22:=Proofs.Tryz.underlying39
 a22:=Proofs.Tryz.isAgg39
 z22:=Proofs.Tryz.sizeOf39
 v22:=Proofs.Tryz.zeroValue39
 i22:=by kernel_rfl
 t25:=Proofs.Tryz.underlying193
 a25:=Proofs.Tryz.isAgg193
 z25:=Proofs.Tryz.sizeOf193
 v25:=Proofs.Tryz.zeroValue193
 i25:=by kernel_rfl
 t27:=Proofs.Tryz.underlying289
 a27:=Proofs.Tryz.isAgg289
 z27:=Proofs.Tryz.sizeOf289
 v27:=Proofs.Tryz.zeroValue289
 i27:=by kernel_rfl
 t53:=Proofs.Tryz.underlying453
 a53:=Proofs.Tryz.isAgg453
 z53:=Proofs.Tryz.sizeOf453
 v53:=Proofs.Tryz.zeroValue453
 i53:=by kernel_rfl
 t54:=Proofs.Tryz.underlying454
 a54:=Proofs.Tryz.isAgg454
 z54:=Proofs.Tryz.sizeOf454
 g0:=by kernel_rfl
 g1:=by kernel_rfl
def af4(o:Obj):Prop:=∀ w:World,w.heap[1]? = some o->∀ j,j<64->w.cell? ⟨1,j,none⟩=some (.int .u8 ((Go.Lib.deBruijn64tab.getD j 0:Nat):Int))
def kE(o:Obj):fJ where
 gq:=[1]
 holds w:=w.heap[1]? = some o/\af4 o
 loc w w' h hh:=⟨(h 1 s_).trans hh.1,hh.2⟩
theorem My{w:World}(h:(kE o).holds w):1<w.heap.size:=(su.1 h.1).1
theorem af7{w:World}(h:(kE o).holds w):Own (kE o) w:=⟨h,by simp[kE],fun b hb=>by simp[kE]at hb;subst hb;exact My h⟩
theorem St.xl{w:World}{X:List Nat}(h:St bs L w)(hb:(w0,X)∈bs)(a:(kE o).holds w0)(b:1∉X):(kE o).holds w :=
 ⟨(h.keep hb (My a) b).trans a.1,a.2⟩
theorem af5{w:World}(a:(kE o).holds w)(h:fP (kE o) w w' (kE o)):gE [] w w' :=
 ⟨h.gf.os,h.gf.tape,h.gf.output,h.gf.size,fun b hb _=>by
  by_cases e:b=1
  . subst e
    exact h.holds.1.trans a.1.symm
  . exact h.gf.block b hb (by simp[kE,e])⟩
theorem af6{w:World}(h:∀ j,j<64->w.cell? ⟨1,j,none⟩=some (.int .u8 ((Go.Lib.deBruijn64tab.getD j 0:Nat):Int))):∃ o,(kE o).holds w:=by
 have a:=World.block_lt_of_cell? w _ (h 0 d_)
 refine⟨w.heap[1],wz a,fun d b j c=>?_⟩
 rw[<-h j c]
 exact World.cell?_of_block (b.trans (wz a).symm)
theorem agX(a:(kE o).holds w)(d:Nat)(hd:d<18446744073709551616) :
 CR ya 339 (yN d) w (fun r w' => r = .int .i64 ((Go.Lib.ctz 64 d:Nat):Int)/\w' = w):=by
 have h:=Go.Proofs.Any7.bits_TrailingZeros Tryz.tzI d hd w (fun _ j c=>a.2 w a.1 j c)
 exact Calls.mono h fun e w' b=>⟨_,b.1,rfl,b.2⟩
theorem acZ(d:Nat)(w:World) :
 CR ya 318 (Z3 d) w (fun r w' => ∃ g,w.heap.size<=g/\r = .func (.func 338) #[] (Zg g)/\(blk g 3 (Zd d)).holds w' /\ gE [] w w'):=by
 refine iE func318 2 fun h=>?_
 refine gN h (fun b e c f a=>?_)
 refine cH a 5 ?_
 refine kW (vf:=[]) (vc:=(Ze b)) rfl rfl rfl (fK a 4 ?_)
 refine gT (v:=(.func (.func 338) #[] (Zg b))) results318 rfl ?_
 exact⟨_,kS (h.size za) c,rfl,a.at (i:=0) rfl,a.gf s_⟩
theorem agY(a:(kE o).holds w)(d:Nat)(hd:d<18446744073709551616) :
 CK ya 339 (yN d) w (.int .i64 ((Go.Lib.ctz 64 d:Nat):Int)) :=
 CR.mono (agX w a d hd) fun r w' h=>⟨h.1,h.2▸gE.refl _ _⟩
theorem acY(n:Nat->fJ)(l s g:Nat)(w:World)(A:∀ (d:Nat) (bs:List (World×List Nat)) (L:List fJ) (w1:World),d≠0->d<=g->(w,(n g).gq)∈bs->St bs (n d :: L) w1->YR ya l (Zd ((Go.Lib.ctz 64 d:Nat):Int)) w1 (fun v w' => v = .bool true/\St bs (n (d &&& (d-1)) :: L) w'))(u:Own (n g) w)(z:(blk s 3 (Zd g)).holds w)(D:s∉(n g).gq)(y:(kE o).holds w)(t:1∉(n g).gq)(B:g<8192) :
 CR ya 338 (Da (.func (.yield l) #[] #[]) s) w (fun r w' => r = .tuple #[]/\fP (n g) w w' (n 0)):=by
 refine gj func338 ?_
 have q:=yy u
 refine fM q 2 ?_
 refine ld rfl rfl yf rfl (Du z (o:=0) rfl) (fZ q 5 ?_)
 refine lp (α:=Nat) (fun d=>[(0,(.func (.yield l) #[] #[])),(3,(Zo d))]) (fun d w1=>St [(w,(n g).gq)] [n d] w1/\d<=g) (fun d=>d) g oh (⟨q,o_⟩) ?_
 rintro d i f ⟨p,C⟩
 refine fM p 4 ?_
 by_cases j:(d:Int)=0
 . refine jU p 8 ?_
   obtain rfl:d=0:=by omega
   exact⟨rfl,yj (R:=n g) p s_⟩
 . refine cH p 12 ?_
   refine ig p (agY f (St.xl p (X:=(n g).gq) s_ y t) d o_) fun k h=>?_
   refine yl (vl:=(Zd ((Go.Lib.ctz 64 d:Nat):Int))) rfl rfl rfl (A d _ _ _ o_ o_ s_ h) ?_
   rintro _ m ⟨rfl,c⟩
   refine cH c 10 ?_
   refine gL (e:=((d-1:Nat):Int)) rfl (by rw[Ej o_];omega) (bi (a:=(d:Int)) (b:=((d-1:Nat):Int)) (e:=((d &&& (d-1):Nat):Int)) rfl rfl rfl (congrArg some (Go.bits_and_u64_nat d (d-1) o_ o_)) (fK c 2 ?_))
   obtain⟨E,F⟩:=JP (x:=d) o_ o_
   have G:0<2 ^ Go.Lib.ctz 64 d:=Nat.pow_pos d_
   exact gM (d &&& (d-1)) oh (⟨c,o_⟩) o1
theorem oe.b2{w:World}{ps:List Int}{t:Lt}(h:oe w j ps t):(blk j 376 (.bool true :: t.dv :: t.jl.flatMap jd)).holds w:=by
 rw[Q3 h.ok.len]
 exact h.b
theorem Rb(t:Lt)(w:World)(F:oe w tb ps t)(hP:kM ps)(hn:ps.length<=8192)(hT:(kE o).holds w)(x u:Nat)(hx:x<ps.length)(hd:u<=fV ps x) :
 CK ya 258 (Zv tb x u) w (.tuple (Bi ((gI ps u x:Nat):Int))):=by
 have af:((List.range ps.length).map (fV ps)).length=ps.length:=by simp
 have ax:=JT hP hx
 have am:u<8192:=by omega
 refine uc (vs:=(Be tb x u)) func258 rfl ntmps258 rfl ?_
 have al:=k9 w
 have ag:((List.range ps.length).map (fV ps))[x]? = some (fV ps x):=by simp[hx]
 refine fM al 2 ?_
 refine gN al (fun c N O P n=>?_)
 refine gN n (fun e Q R S p=>?_)
 refine gh p 9 fun q h=>?_
 refine ig h (Gj tb ps t q (F.to h s_) hP hn x o_) fun s a=>cH a 3 ?_
 by_cases U:(u:Int)<0
 . refine fK a 24 ?_
   exfalso
   omega
 . refine cH a 7 ?_
   refine ld rfl rfl yc rfl (k8 a s_ F.b rfl) (cH a 1 ?_)
   refine iH (k:=x) (i:=(x:Int)) rfl rfl rfl yc fU F.d o_ o_ ag (jf rfl rfl yf rfl (yu a s_ d_ F.d) ag rfl ?_)
   by_cases V:(u:Int)>(((fV ps x):Nat):Int)
   . refine fK a 13 ?_
     exfalso
     omega
   . refine cH a 11 ?_
     refine cl (acZ u s) ?_
     rintro _ y ⟨f,A,rfl,B,C⟩
     have j:=St.OQ a C A B
     have D:=ye [2,1,0] j
     have E:St [(w,[])] [blk c 223 (Ze tb),blk e 3 (Zd ((gI ps (u-u) x:Nat):Int)),blk f 3 (Zd u)] y:=by rw[Nat.sub_self];exact D
     refine fZ j 3 ?_
     refine rf (α:=Nat) (ps:=[30]) (fi:=[]) (ca:=(Ze f)) (fun z=>[blk c 223 (Ze tb),blk e 3 (Zd ((gI ps (u-z) x:Nat):Int)),blk f 3 (Zd u)]) (fun z=>z=0) E rfl eN ?_ ?_
     . intro fn dd l wl rc ad ak
       have G:=ye [0,2,3,1,4] ak
       have ac:=yd (Db (gK l rc) c tb e ((gI ps (u-u) x:Nat):Int)) [jy dd (some []),blk f 3 (Zd u)] G
       have ai:rc.state = .ready:=by rw[ad]
       have ap:rc.pending=none:=by rw[ad]
       have aq:∀ (d:Nat) (bs:List (World×List Nat)) (L:List fJ) (w1:World),d≠0->d<=u->(wl,((fN (Db (gK l rc) c tb e ((gI ps (u-u) x:Nat):Int)))).gq)∈bs->St bs ((fN (Db (gK l rc) c tb e ((gI ps (u-d) x:Nat):Int))) :: L) w1->YR ya l (Zd ((Go.Lib.ctz 64 d:Nat):Int)) w1 (fun v w' => v = .bool true/\St bs ((fun(z:Nat)=>fN (Db (gK l rc) c tb e ((gI ps (u-z) x:Nat):Int))) (d &&& (d-1)) :: L) w'):=by
        intro d bs LT wr ae af ao T
        have T:=T.unpack
        have T:=St.under ac (w:=w) s_ (fun b hb=>by rw[nO];exact zj.2 (.inl hb)) T ao
        have hU:=CY.next hP hx hd am (⟨af,rfl⟩:CY ps x u d (gI ps (u-d) x)) ae
        have an:=hU.1
        have aw:=XW ae o_
        refine tq (vl:=(Zd ((Go.Lib.ctz 64 d:Nat):Int))) 0 ad T rfl rfl rfl (jh T 3 ?_)
        refine tN (tW 0 T rfl ai rfl ?_)
        intro W H
        have ah:(jM ps (Go.Lib.ctz 64 d))[(gI ps (u-d) x)]? = some ((gI ps (2 ^ Go.Lib.ctz 64 d) (gI ps (u-d) x):Nat):Int):=by rw[<-hU.2.1];exact fW (by rw[BU];exact an)
        have ay:=BU (ps:=ps) (k:=Go.Lib.ctz 64 d)
        refine ny H 6 fun Y g=>?_
        refine ia (o:=2) (o' := 2+(Go.Lib.ctz 64 d)) (i:=((Go.Lib.ctz 64 d:Nat):Int)) rfl rfl rfl si kF o_ (by first|omega|(simp only[nX];omega)) (ld rfl rfl yc rfl (k8 g s_ F.b2 (xh (by rw[F.ok.len];omega) rfl)) (cH g 1 ?_))
        refine iH (k:=(gI ps (u-d) x)) (i:=((gI ps (u-d) x:Nat):Int)) rfl rfl rfl yc fU (F.r (Go.Lib.ctz 64 d) o_) o_ o_ ah (jf rfl rfl yf rfl (yu g s_ d_ (F.r (Go.Lib.ctz 64 d) o_)) ah rfl (jI g 3 fun Z I=>?_))
        refine qa 0 I rfl ai ap rfl ?_
        intro aa J
        have aj:=J
        rw[hU.2.2.at_]at aj
        exact⟨_,rfl,rfl,yd [_,_,_] _ aj.Yk⟩
       refine CR.mono (acY (fun(z:Nat)=>fN (Db (gK l rc) c tb e ((gI ps (u-z) x:Nat):Int))) l f u wl aq (yg ac 0 rfl) (ac.at (i:=2) rfl) (ac.Sn (by simp[jb,blk,jy])) (St.xl ak (X:=[]) s_ hT s_) (ac.acX (w0:=w) s_ (My hT)) o_) ?_
       rintro _ w9 ⟨-,av⟩
       have au:=(yw ac av)
       have K:=ye [0,3,1,2,4] au
       exact⟨_,rfl,K⟩
     . rintro z dd ab hC m
       refine rX tt none m 10 ?_
       refine uU 0 m rfl rfl ?_
       intro w8 ar
       have M:=ye [] ar
       exact⟨_,results_tmp2 results258 _ _ _,_,rfl,by rw[ox,ox];exact⟨by subst hC;rfl,M.gf s_⟩⟩
theorem aaB(t:Lt)(w:World)(F:oe w tb ps t)(Q:kM ps)(Y:ps.length<=8192)(hT:(kE o).holds w)(an:∀ i,i<ps.length -> -1<=cE ps i)(a b:Nat)(S:a<ps.length)(hb:b<ps.length) :
 CR ya 189 (Zv tb a b) w (fun r w' => ∃ (z:Nat) (B:Bool),r = .tuple (qG z B)/\tG ps a b z B/\gE [] w w'):=by
 have ax:((List.range ps.length).map (fV ps)).length=ps.length:=by simp
 have aq:=JS (ps:=ps) (i:=a)
 have av:=JS (ps:=ps) (i:=b)
 have au:=JT Q S
 have aw:=JT Q hb
 refine enter (vs:=(Be tb a b)) func189 rfl ntmps189 rfl ?_
 have ag:=k9 w
 have V:((List.range ps.length).map (fV ps))[a]? = some (fV ps a):=by simp[S]
 have W:((List.range ps.length).map (fV ps))[b]? = some (fV ps b):=by simp[hb]
 refine fM ag 11 ?_
 refine jG (vl:=(uI tb a)) rfl rfl eN (Gj tb ps t w F Q Y a o_) ?_
 rintro _ n ⟨rfl,y⟩
 have m:St _ [] n:=lI ag y
 refine cH m 4 ?_
 refine jG (vl:=(uI tb b)) rfl rfl eN (Gj tb ps t n (F.to m s_) Q Y b o_) ?_
 rintro _ C ⟨rfl,D⟩
 have E:St _ [] C:=lI m D
 refine gh E 12 fun G f=>?_
 refine ld (a:=⟨tb,1,none⟩) (v:=t.dv) rfl rfl yc rfl (k8 f s_ F.b rfl) (cH f 1 ?_)
 refine iH (k:=a) (i:=(a:Int)) rfl rfl rfl yc fU F.d o_ o_ V (jf (u:=(Za (((fV ps a):Nat):Int))) rfl rfl yf rfl (yu f s_ d_ F.d) V rfl (cH f 3 ?_))
 refine ld (a:=⟨tb,1,none⟩) (v:=t.dv) rfl rfl yc rfl (k8 f s_ F.b rfl) (cH f 1 ?_)
 refine iH (k:=b) (i:=(b:Int)) rfl rfl rfl yc fU F.d o_ o_ W (jf (u:=(Za (((fV ps b):Nat):Int))) rfl rfl yf rfl (yu f s_ d_ F.d) W rfl (min2 (a:=(((fV ps a):Nat):Int)) (b:=(((fV ps b):Nat):Int)) (c:=(((min (fV ps a) (fV ps b)):Nat):Int)) rfl rfl rfl GL (cH f 10 ?_)))
 refine ld (a:=⟨tb,1,none⟩) (v:=t.dv) rfl rfl yc rfl (k8 f s_ F.b rfl) (cH f 1 ?_)
 refine iH (k:=a) (i:=(a:Int)) rfl rfl rfl yc fU F.d o_ o_ V (jf (u:=(Za (((fV ps a):Nat):Int))) rfl rfl yf rfl (yu f s_ d_ F.d) V rfl (cH f 1 ?_))
 refine ar (a:=(((fV ps a):Nat):Int)) (b:=(((min (fV ps a) (fV ps b)):Nat):Int)) (c:=(((fV ps a):Nat):Int)-(((min (fV ps a) (fV ps b)):Nat):Int)) (e:=((fV ps a-(min (fV ps a) (fV ps b)):Nat):Int)) rfl rfl rfl rfl (by rw[kX o_];omega) (jG (vl:=(Be tb a ((fV ps a-(min (fV ps a) (fV ps b)):Nat):Int))) rfl rfl eN (Rb tb ps t G (F.to f s_) Q Y (St.xl f (X:=[]) s_ hT s_) a (fV ps a-(min (fV ps a) (fV ps b))) o_ o_) ?_)
 rintro _ q ⟨rfl,H⟩
 have h:St _ [] q:=lI f H
 refine cH h 13 ?_
 refine ld (a:=⟨tb,1,none⟩) (v:=t.dv) rfl rfl yc rfl (k8 h s_ F.b rfl) (cH h 1 ?_)
 refine iH (k:=b) (i:=(b:Int)) rfl rfl rfl yc fU F.d o_ o_ W (jf (u:=(Za (((fV ps b):Nat):Int))) rfl rfl yf rfl (yu h s_ d_ F.d) W rfl (cH h 1 ?_))
 refine ar (a:=(((fV ps b):Nat):Int)) (b:=(((min (fV ps a) (fV ps b)):Nat):Int)) (c:=(((fV ps b):Nat):Int)-(((min (fV ps a) (fV ps b)):Nat):Int)) (e:=((fV ps b-(min (fV ps a) (fV ps b)):Nat):Int)) rfl rfl rfl rfl (by rw[kX o_];omega) (jG (vl:=(Be tb b ((fV ps b-(min (fV ps a) (fV ps b)):Nat):Int))) rfl rfl eN (Rb tb ps t q (F.to h s_) Q Y (St.xl h (X:=[]) s_ hT s_) b (fV ps b-(min (fV ps a) (fV ps b))) o_ o_) ?_)
 rintro _ I ⟨rfl,J⟩
 have l:St _ [] I:=lI h J
 refine cH l 11 ?_
 by_cases K:((gI ps (fV ps a-(min (fV ps a) (fV ps b))) a:Nat):Int)=((gI ps (fV ps b-(min (fV ps a) (fV ps b))) b:Nat):Int)
 . refine jk l 13 (Za ((gI ps (fV ps a-(min (fV ps a) (fV ps b))) a:Nat):Int)) Zi ?_
   exact⟨_,true,rfl,Xy Q S hb o_,l.gf s_⟩
 . obtain⟨U,ah,_⟩:=rz Q S (k:=fV ps a-(min (fV ps a) (fV ps b))) o_
   obtain⟨aa,ai,_⟩:=rz Q hb (k:=fV ps b-(min (fV ps a) (fV ps b))) o_
   have ad:gI ps (fV ps a-(min (fV ps a) (fV ps b))) a≠gI ps (fV ps b-(min (fV ps a) (fV ps b))) b:=by omega
   obtain⟨A,Z⟩:∃ A,A=gI ps (fV ps a-(min (fV ps a) (fV ps b))) a:=⟨_,rfl⟩
   obtain⟨B,ab⟩:∃ B,B=gI ps (fV ps b-(min (fV ps a) (fV ps b))) b:=⟨_,rfl⟩
   refine cH l 1 ?_
   rw[<-Z]at U ah ad ⊢
   rw[<-ab]at aa ai ad ⊢
   refine fZ l 12 ?_
   refine lp (α:=Nat×Nat) (fun(j,s)=>[(0,(Zb tb)),(1,(Za ((gI ps s A:Nat):Int))),(2,(Za ((gI ps s B:Nat):Int))),(9,(Za ((j:Int)-1)))]) (fun(j,s) w1=>St [(w,[])] [] w1/\qE ps A B (min (fV ps a) (fV ps b)) j s/\j<=13) (fun(j,s)=>j) (13,0) oh (⟨l,qE.start ad o_,o_⟩) ?_
   rintro⟨j,s⟩ L M ⟨R,T,ay⟩
   have aA:=T.le
   obtain⟨aD,aE,_⟩:=rz Q U (k:=s) o_
   obtain⟨aF,aG,_⟩:=rz Q aa (k:=s) o_
   refine fM R 4 ?_
   by_cases N:(((j:Int)-1):Int)≥0
   . have az:=BU (ps:=ps) (k:=j-1)
     have ae:(jM ps (j-1))[(gI ps s A)]? = some (cE (jM ps (j-1)) (gI ps s A)):=fW o_
     have af:(jM ps (j-1))[(gI ps s B)]? = some (cE (jM ps (j-1)) (gI ps s B)):=fW o_
     have aj:qE ps A B (min (fV ps a) (fV ps b)) (j-1+1) s:=by rw[Nat.sub_add_cancel o_];exact T
     obtain⟨ao,ap⟩:=aj.next Q an U aa o_ o_
     refine gh R 14 fun O g=>?_
     refine ia (o:=2) (o' := 2+(j-1)) (i:=((j:Int)-1)) rfl rfl rfl si kF o_ (by first|omega|(simp only[nX];omega)) (ld (a:=⟨tb,2+(j-1),none⟩) (v:=((cE t.jl (j-1)).1)) rfl rfl yc rfl (k8 g s_ F.b2 (xh (by rw[F.ok.len];omega) rfl)) (cH g 1 ?_))
     refine iH (k:=(gI ps s A)) (i:=((gI ps s A:Nat):Int)) rfl rfl rfl yc fU (F.r (j-1) o_) o_ o_ ae (jf (u:=(Za (cE (jM ps (j-1)) (gI ps s A)))) rfl rfl yf rfl (yu g s_ d_ (F.r (j-1) o_)) ae rfl (cH g 4 ?_))
     refine ia (o:=2) (o' := 2+(j-1)) (i:=((j:Int)-1)) rfl rfl rfl si kF o_ (by first|omega|(simp only[nX];omega)) (ld (a:=⟨tb,2+(j-1),none⟩) (v:=((cE t.jl (j-1)).1)) rfl rfl yc rfl (k8 g s_ F.b2 (xh (by rw[F.ok.len];omega) rfl)) (cH g 1 ?_))
     refine iH (k:=(gI ps s B)) (i:=((gI ps s B:Nat):Int)) rfl rfl rfl yc fU (F.r (j-1) o_) o_ o_ af (jf (u:=(Za (cE (jM ps (j-1)) (gI ps s B)))) rfl rfl yf rfl (yu g s_ d_ (F.r (j-1) o_)) af rfl (cH g 8 ?_))
     by_cases x:((cE (jM ps (j-1)) (gI ps s A)):Int)=((cE (jM ps (j-1)) (gI ps s B)):Int)
     . have ac:=ao x
       refine cH g 9 ?_
       refine ar (a:=((j:Int)-1)) (b:=1) (c:=((j:Int)-1)-1) (e:=((j:Int)-1-1)) rfl rfl rfl rfl (kX o_) (fK g 2 ?_)
       exact gM ((j-1),s) oh (⟨g,ac,o_⟩) o1
     . obtain⟨ac,aB,aC⟩:=ap x
       refine cH g 14 ?_
       refine ar (a:=((j:Int)-1)) (b:=1) (c:=((j:Int)-1)-1) (e:=((j:Int)-1-1)) rfl rfl rfl rfl (kX o_) (fK g 2 ?_)
       exact gM ((j-1),(s+2 ^ (j-1))) oh (⟨g,ac,o_⟩) o1
   . have am:j=0:=by omega
     refine cH R 1 ?_
     subst am
     obtain⟨ak,al⟩:=T.fin Q U o_
     refine cH R 14 ?_
     refine ia (o:=2) (o' := 2) (i:=0) rfl rfl rfl si kF d_ rfl (ld (a:=⟨tb,2,none⟩) (v:=((cE t.jl 0).1)) rfl rfl yc rfl (k8 R s_ F.b rfl) (cH R 1 ?_))
     refine iH (k:=(gI ps s A)) (i:=((gI ps s A:Nat):Int)) rfl rfl rfl yc fU F.p o_ o_ (fW o_) (jf (u:=(Za (cE ps (gI ps s A)))) rfl rfl yf rfl (yu R s_ d_ F.p) (fW o_) rfl ?_)
     by_cases P:((cE ps (gI ps s A)):Int)<0
     . refine jk R 12 Zc Zp ?_
       exact⟨0,false,rfl,Xz Q S hb Z ab T (ak o_),R.gf s_⟩
     . refine cH R 11 ?_
       refine ia (o:=2) (o' := 2) (i:=0) rfl rfl rfl si kF d_ rfl (ld (a:=⟨tb,2,none⟩) (v:=((cE t.jl 0).1)) rfl rfl yc rfl (k8 R s_ F.b rfl) (cH R 1 ?_))
       refine iH (k:=(gI ps s A)) (i:=((gI ps s A:Nat):Int)) rfl rfl rfl yc fU F.p o_ o_ (fW o_) (jf (u:=(Za (cE ps (gI ps s A)))) rfl rfl yf rfl (yu R s_ d_ F.p) (fW o_) rfl (fK R 5 ?_))
       refine kC (v:=(Za (cE ps (gI ps s A)))) (v' := Zi) results189 rfl rfl ?_
       obtain⟨f1,f2,f3⟩:=al o_
       exact⟨gI ps (s+1) A,true,by rw[f2],XA Q S hb Z ab T f1 f3,R.gf s_⟩
structure Mf where
 bt:Nat
 tb:Nat
 t:Lt
 f:List Nat
 lv:Value
 rv:Value
 pv:Value
 hv:Value
 sv:Value
 fv:Value
 mp:Nat
def Mf.R(mb n:Nat)(es:List Ge)(q:Mf):fJ:=lC (iN es n q.f) (fN [blk mb 234 (Ze q.bt),blk q.bt 231 [(Zb q.tb),(Za n),q.lv,q.rv,q.pv,q.hv,q.sv,q.fv,(.map (some q.mp))],(Lt.R q.tb (fO es n q.f).p q.t),cL fQ q.lv 3 1 ((fO es n q.f).l),cL fQ q.rv 3 1 ((fO es n q.f).r),cL fQ q.pv 3 1 ((fO es n q.f).p),cL fQ q.hv 2 1 ((fO es n q.f).h),cL fL q.sv 3 1 ((fO es n q.f).s)])
theorem ab0(v:Value)(n:Nat)(es:List Ge)(w:World)(hv:gV 3 Ge.cells (fun _=>True) w v es)(hg:lP n es)(hn:n<=4096)(hm:es.length<=16384) :
 CR ya 184 #[(Za n),v] w (fun r w' => ∃ (mb:Nat) (q:Mf),r = .tuple (Z1 mb)/\fP (fN []) w w' (Mf.R mb n es q)):=by
 refine iE func184 10 fun bc=>?_
 refine cl (LI v n es w hv hg hn hm) ?_
 rintro _ aw ⟨d,t,y,o,T,z,rfl,ac,ht⟩
 have P:=yp (y9 bc ht)
 have a1:iN es n d:=⟨hg,ac⟩
 have be:=a1.f.room a1.g
 obtain⟨bh,bi,bj,bk,bl⟩:=mK (es:=es) (n:=n) (f:=d)
 have a8:=a1.rY
 have a7:=a1.Lz
 refine cH P 3 ?_
 refine ir P (fun G ax ay az H=>?_)
 refine iS 0 H (fun ad N=>?_) (h1:=(gD rfl (gD (yh H (i:=1) rfl) (gD (yh H (i:=2) rfl) (gD (yh H (i:=3) rfl) (gD (yh H (i:=4) rfl) (gD (yh H (i:=5) rfl) je)))))))
 refine cH N 17 ?_
 refine cl (QF v n es ad (yu N s_ d_ hv) hg hn hm) ?_
 rintro _ ae ⟨A,b,rfl,af,ht⟩
 have O:=(y9 N ht)
 have a5:=af
 have bd:=a5.len
 refine cH O 21 ?_
 refine cl (Q8 o (fO es n d).p ae (yv O 4 rfl).any a8 a7 o_) ?_
 rintro _ aA ⟨B,D,rfl,ht⟩
 have Q:=(y9 O ht)
 refine cH Q 22 ?_
 refine mkV (Prod.fst:Value×List j3->Value) .i64 rfl rfl Q (fun j aB aC aD S=>iL (pvs:=[(0,(Zb B)),(1,(Bo n t y o T z)),(2,A),(3,(.map (some j)))]) (v:=.agg #[(Zb B),(Za n),t,y,o,T,z,A,(.map (some j))]) rfl rfl (i6 [(0,(Ze B)),(1,(Zs n t y o T z)),(2,[A]),(3,[(.map (some j))])] Uq adz rfl ⟨rfl,rfl,rfl,rfl,rfl,(cells_one (yh S (i:=2) rfl)),rfl,rfl,trivial⟩ rfl) (gN S (fun C ag aE aF I=>?_)))
 refine cH I 7 ?_
 refine iA (m:=b.length) 3 rfl rfl yc I rfl ?_
 have ah:St _ [pN j3.cells 2 373 ([]),blk C 231 [(Zb B),(Za n),t,y,o,T,z,A,(.map (some j))],gP j .i64 (Prod.fst:Value×List j3->Value) ([]),(Lt.R B (fO es n d).p D),cL fL A 3 1 b,blk G 102 (Zs n t y o T z),cL fQ t 3 1 ((fO es n d).l),cL fQ y 3 1 ((fO es n d).r),cL fQ o 3 1 ((fO es n d).p),cL fQ T 2 1 ((fO es n d).h),cL fL z 3 1 ((fO es n d).s)] ag:=St.YN I
 have ai:=ye [1,4,2,0,3,5,6,7,8,9,10] ah
 refine fZ I 4 ?_
 refine lp (α:=Nat×AM) (fun(k,F)=>[(1,v),(10,(Zb C)),(48,A),(49,(Za b.length)),(50,(Za k))]) (fun(k,F) w1=>St [(w,[])] [blk C 231 [(Zb B),(Za n),t,y,o,T,z,A,(.map (some j))],cL fL A 3 1 b,gP j .i64 (Prod.fst:Value×List j3->Value) F,pN j3.cells 2 373 F,(Lt.R B (fO es n d).p D),blk G 102 (Zs n t y o T z),cL fQ t 3 1 ((fO es n d).l),cL fQ y 3 1 ((fO es n d).r),cL fQ o 3 1 ((fO es n d).p),cL fQ T 2 1 ((fO es n d).h),cL fL z 3 1 ((fO es n d).s)] w1/\k<=b.length/\∀ c,(fS F c).2.length<=2*k) (fun(k,F)=>b.length-k) (0,[]) oh (⟨ai,o_,YQ⟩) ?_
 rintro⟨k,F⟩ aG aH ⟨a2,hk,a3⟩
 refine fM a2 2 ?_
 by_cases aI:(k:Int)<(b.length:Int)
 . have a9:k<b.length:=by omega
   have bb:cE b k<es.length:=a5.lt (zg (fW a9))
   have a6:=hg.at bb
   have bf:=a6.1
   have bg:=a6.2.1
   refine r7 a2 33 fun aJ aj=>?_
   have ak:=ye [3,0,1,2,4,5,6,7,8,9,10] aj
   have al:=St.Qr ((cE es (cE b k)).u:Int) ak
   refine jS mixed [([0,1,2,3,4,5,6,7,8,9,10,11,12,13,14],[3,8,10]),([15],[3])] [16] al (fun aK J=>iY ?_)
   refine cH J 10 ?_
   refine qK (a:=((cE es (cE b k)).u:Int)) (mm:=F) (enc:=(Prod.fst:Value×List j3->Value)) (k:=.i64) 4 rfl rfl rfl AB yf Ea rfl J rfl (cH J 2 ?_)
   refine iL (pvs:=[(0,(Za (((cE b k):Nat):Int))),(1,(Za ((cE es (cE b k)).v:Int)))]) (v:=.agg (Zx (((cE b k):Nat):Int) ((cE es (cE b k)).v:Int))) rfl rfl (i6 [(0,(Zd (((cE b k):Nat):Int))),(1,(Zd ((cE es (cE b k)).v:Int)))] Aq SZ rfl oh rfl) (jB (vs:=(De (((cE b k):Nat):Int) ((cE es (cE b k)).v:Int))) (cs:=(Zm (((cE b k):Nat):Int) ((cE es (cE b k)).v:Int))) rfl rfl HT Aq rfl (by simp[Value.cells]) rfl rfl rfl J (fun an aL aM aN K=>fK K 1 ?_))
   refine nF (ku rfl oF (ku rfl oF (ku rfl (mZ (zP (a:=((cE es (cE b k)).u:Int)) (mm:=F) (enc:=(Prod.fst:Value×List j3->Value)) (k:=.i64) 5 rfl rfl AB yf Ea rfl K rfl) rfl rfl) (trivial)))) (iY ?_)
   refine kR (cf:=j3.cells) (ys:=(fS F ((cE es (cE b k)).u:Int)).2) (zs:=[(uK b k es)]) (LL:=fun e=>(Ob (row (.slice (some ⟨an,0,none⟩) 1 1) 373 2 1 ([(.int .i64 (((cE b k):Nat):Int)),(.int .i64 ((cE es (cE b k)).v:Int))])) e (((fS F ((cE es (cE b k)).u:Int)).2)++[(⟨(cE b k),((cE es (cE b k)).v)⟩:j3)]) (pN j3.cells 2 373 (jo F ((cE es (cE b k)).u:Int))) C B n t y o T z A (some j) b j F (fO es n d) D G)) 1 rfl rfl rfl HT Aq rfl d_ K rfl (kG K (i:=0) rfl) (fun x hx=>zr.1 (show List.all _ _=true from rfl) x hx) (by simp only[zb,zd,maxLen];have h7:=a3 ((cE es (cE b k)).u:Int);omega) (by simp only[zb,zd,maxLen];have h7:=a3 ((cE es (cE b k)).u:Int);omega) f_ ?_
   intro e aO ao aP
   have U:=ye [1,2,3,4,5,6,7,8,9,10,11,12] ao
   refine fK U 1 ?_
   refine jF (jX ?_)
   refine rq (a:=((cE es (cE b k)).u:Int)) (c:=(e,((fS F ((cE es (cE b k)).u:Int)).2)++[(uK b k es)])) (mm:=F) (enc:=(Prod.fst:Value×List j3->Value)) (k:=.i64) (L' := (Oy e (((fS F ((cE es (cE b k)).u:Int)).2)++[(⟨(cE b k),((cE es (cE b k)).v)⟩:j3)]) (pN j3.cells 2 373 (jo F ((cE es (cE b k)).u:Int))) C B n t y o T z A (some j) b j (gr F ((cE es (cE b k)).u:Int) (e,((fS F ((cE es (cE b k)).u:Int)).2)++[(⟨(cE b k),((cE es (cE b k)).v)⟩:j3)])) (fO es n d) D G)) 4 rfl rfl rfl rfl AB yf U rfl rfl (fun aQ V=>fK V 1 ?_)
   have W:=St.Qq V
   have a4:=Qs a3 ((cE es (cE b k)).u:Int) e (uK b k es)
   refine SE tt none W 1 ?_
   have ap:=St.Qr ((cE es (cE b k)).v:Int) W
   refine jS mixed [([0,1,2,3,4,5,6,7,8,9,10,11,12,13,14],[3,8,10]),([15],[3])] [16] ap (fun aR L=>iY ?_)
   refine cH L 10 ?_
   refine qK (a:=((cE es (cE b k)).v:Int)) (mm:=(gr F ((cE es (cE b k)).u:Int) (e,((fS F ((cE es (cE b k)).u:Int)).2)++[(uK b k es)]))) (enc:=(Prod.fst:Value×List j3->Value)) (k:=.i64) 4 rfl rfl rfl AB yf Ea rfl L rfl (cH L 2 ?_)
   refine iL (pvs:=[(0,(Za (((cE b k):Nat):Int))),(1,(Za ((cE es (cE b k)).u:Int)))]) (v:=.agg (Zx (((cE b k):Nat):Int) ((cE es (cE b k)).u:Int))) rfl rfl (i6 [(0,(Zd (((cE b k):Nat):Int))),(1,(Zd ((cE es (cE b k)).u:Int)))] Aq SZ rfl oh rfl) (jB (vs:=(De (((cE b k):Nat):Int) ((cE es (cE b k)).u:Int))) (cs:=(Zm (((cE b k):Nat):Int) ((cE es (cE b k)).u:Int))) rfl rfl HT Aq rfl (by simp[Value.cells]) rfl rfl rfl L (fun aq aS aT aU M=>fK M 1 ?_))
   refine nF (ku rfl oF (ku rfl oF (ku rfl (mZ (zP (a:=((cE es (cE b k)).v:Int)) (mm:=(gr F ((cE es (cE b k)).u:Int) (e,((fS F ((cE es (cE b k)).u:Int)).2)++[(uK b k es)]))) (enc:=(Prod.fst:Value×List j3->Value)) (k:=.i64) 5 rfl rfl AB yf Ea rfl M rfl) rfl rfl) (trivial)))) (iY ?_)
   refine kR (cf:=j3.cells) (ys:=(fS (gr F ((cE es (cE b k)).u:Int) (e,((fS F ((cE es (cE b k)).u:Int)).2)++[(uK b k es)])) ((cE es (cE b k)).v:Int)).2) (zs:=[(Fw b k es)]) (LL:=fun E=>(Ob (row (.slice (some ⟨aq,0,none⟩) 1 1) 373 2 1 ([(.int .i64 (((cE b k):Nat):Int)),(.int .i64 ((cE es (cE b k)).u:Int))])) E (((fS (gr F ((cE es (cE b k)).u:Int) (e,((fS F ((cE es (cE b k)).u:Int)).2)++[(⟨(cE b k),((cE es (cE b k)).v)⟩:j3)])) ((cE es (cE b k)).v:Int)).2)++[(⟨(cE b k),((cE es (cE b k)).u)⟩:j3)]) (pN j3.cells 2 373 (jo (gr F ((cE es (cE b k)).u:Int) (e,((fS F ((cE es (cE b k)).u:Int)).2)++[(⟨(cE b k),((cE es (cE b k)).v)⟩:j3)])) ((cE es (cE b k)).v:Int))) C B n t y o T z A (some j) b j (gr F ((cE es (cE b k)).u:Int) (e,((fS F ((cE es (cE b k)).u:Int)).2)++[(⟨(cE b k),((cE es (cE b k)).v)⟩:j3)])) (fO es n d) D G)) 1 rfl rfl rfl HT Aq rfl d_ M rfl (kG M (i:=0) rfl) (fun x hx=>zr.1 (show List.all _ _=true from rfl) x hx) (by simp only[zb,zd,maxLen];have h7:=a4 ((cE es (cE b k)).v:Int);omega) (by simp only[zb,zd,maxLen];have h7:=a4 ((cE es (cE b k)).v:Int);omega) f_ ?_
   intro E aV ar aW
   have X:=ye [1,2,3,4,5,6,7,8,9,10,11,12] ar
   refine fK X 1 ?_
   refine jF (jX ?_)
   refine rq (a:=((cE es (cE b k)).v:Int)) (c:=(E,((fS (gr F ((cE es (cE b k)).u:Int) (e,((fS F ((cE es (cE b k)).u:Int)).2)++[(uK b k es)])) ((cE es (cE b k)).v:Int)).2)++[(Fw b k es)])) (mm:=(gr F ((cE es (cE b k)).u:Int) (e,((fS F ((cE es (cE b k)).u:Int)).2)++[(uK b k es)]))) (enc:=(Prod.fst:Value×List j3->Value)) (k:=.i64) (L' := (Oy E (((fS (gr F ((cE es (cE b k)).u:Int) (e,((fS F ((cE es (cE b k)).u:Int)).2)++[(⟨(cE b k),((cE es (cE b k)).v)⟩:j3)])) ((cE es (cE b k)).v:Int)).2)++[(⟨(cE b k),((cE es (cE b k)).u)⟩:j3)]) (pN j3.cells 2 373 (jo (gr F ((cE es (cE b k)).u:Int) (e,((fS F ((cE es (cE b k)).u:Int)).2)++[(⟨(cE b k),((cE es (cE b k)).v)⟩:j3)])) ((cE es (cE b k)).v:Int))) C B n t y o T z A (some j) b j (gr (gr F ((cE es (cE b k)).u:Int) (e,((fS F ((cE es (cE b k)).u:Int)).2)++[(⟨(cE b k),((cE es (cE b k)).v)⟩:j3)])) ((cE es (cE b k)).v:Int) (E,((fS (gr F ((cE es (cE b k)).u:Int) (e,((fS F ((cE es (cE b k)).u:Int)).2)++[(⟨(cE b k),((cE es (cE b k)).v)⟩:j3)])) ((cE es (cE b k)).v:Int)).2)++[(⟨(cE b k),((cE es (cE b k)).u)⟩:j3)])) (fO es n d) D G)) 4 rfl rfl rfl rfl AB yf X rfl rfl (fun aX Y=>fK Y 1 ?_)
   have Z:=St.Qq Y
   have ba:=Qs a4 ((cE es (cE b k)).v:Int) E (Fw b k es)
   refine rX tt none Z 6 ?_
   have au:=ye [1,2,3,0,4,5,6,7,8,9,10] Z
   exact gM ((k+1),(gr (gr F ((cE es (cE b k)).u:Int) (e,((fS F ((cE es (cE b k)).u:Int)).2)++[(uK b k es)])) ((cE es (cE b k)).v:Int) (E,((fS (gr F ((cE es (cE b k)).u:Int) (e,((fS F ((cE es (cE b k)).u:Int)).2)++[(uK b k es)])) ((cE es (cE b k)).v:Int)).2)++[(Fw b k es)]))) oh (⟨au,o_,ba⟩) o1
 . refine cH a2 13 ?_
   refine iL (pvs:=[(0,(Zb C))]) (v:=.agg (Zg C)) rfl rfl (i6 [(0,(Ze C))] Us adA rfl oh rfl) (gN a2 (fun aa aY aZ a0 ab=>?_))
   refine jk ab 5 (Zb aa) Zc ?_
   have av:=ye [0,1,5,7,8,9,10,11] ab
   exact⟨aa,(⟨C,B,D,d,t,y,o,T,z,A,j⟩:Mf),rfl,uu (yn (p:=iN es n d) (yd [_,_,_,_,_,_,_,_] _ av) a1) s_⟩
structure vw (w:World) (mb n:Nat) (es:List Ge) (q:Mf):Prop where
 fg:iN es n q.f
 b1:(blk mb 234 (Ze q.bt)).holds w
 b2:(blk q.bt 231 [(Zb q.tb),(Za n),q.lv,q.rv,q.pv,q.hv,q.sv,q.fv,(.map (some q.mp))]).holds w
 t:oe w q.tb (fO es n q.f).p q.t
 r:nK w es n q.f q.lv q.rv q.pv q.hv q.sv
theorem vw.of{w:World}{n:Nat}{es:List Ge}{q:Mf}(a:Own (Mf.R j n es q) w):vw w j n es q:=by
 have h:=Own.of a.un
 exact⟨a.fact,nV h (i:=0) rfl,nV h (i:=1) rfl,oe.of (yg h 2 rfl),⟨(yv h 3 rfl).any,(yv h 4 rfl).any,(yv h 5 rfl).any,(yv h 6 rfl).any,(yv h 7 rfl).any⟩⟩
theorem vw.to{w:World}{n:Nat}{es:List Ge}{q:Mf}(h:vw w0 j n es q)(hs:St bs L w)(hb:(w0,[])∈bs):vw w j n es q :=
 ⟨h.fg,vo hs hb h.b1,vo hs hb h.b2,h.t.to hs hb,h.r.to hs hb⟩
theorem K8(q:Mf)(w:World)(d:vw w mb n es q)(m:n<=4096)(x:Nat)(o:x<n) :
 CK ya 113 (Zk mb x) w (.bool true):=by
 obtain⟨h,i,j,k,l⟩:=mK (es:=es) (n:=n) (f:=q.f)
 have e:=d.fg.f.room d.fg.g
 refine iE func113 8 fun b=>?_
 refine lF (a:=some ⟨mb,0,none⟩) (c:=true) rfl rfl rfl underlying104 rfl (cH b 4 ?_)
 refine ld rfl rfl Eo rfl (k8 b s_ d.b1 rfl) (lF (a:=some ⟨q.bt,0,none⟩) (c:=true) rfl rfl rfl Eo rfl (cH b 3 ?_))
 refine gz rfl (ot o_) (cH b 6 ?_)
 refine ld rfl rfl Eo rfl (k8 b s_ d.b1 rfl) (cH b 3 ?_)
 refine ld rfl rfl yf rfl (k8 b s_ d.b2 rfl) (gz rfl (pL o_) (fK b 5 ?_))
 refine gT (v:=Zi) results113 rfl ?_
 exact⟨rfl,b.gf s_⟩
theorem ab1(q:Mf)(w:World)(i:vw w mb n es q)(y:n<=4096)(A:(kE o).holds w)(u v:Nat)(J:u<n)(hv:v<n) :
 CR ya 114 (Zv mb u v) w (fun r w' => ∃ (z:Nat) (B:Bool),r = .tuple (qG z B)/\((u=v->z=0/\B=false)/\(u≠v->tG (fO es n q.f).p u v z B))/\gE [] w w'):=by
 obtain⟨E,F,G,H,I⟩:=mK (es:=es) (n:=n) (f:=q.f)
 have D:=i.fg.f.room i.fg.g
 refine iE func114 11 fun C=>?_
 refine ig C (K8 mb n es q w i y u o_) fun h b=>cH b 4 ?_
 refine ig b (K8 mb n es q h (i.to b s_) y v o_) fun j a=>cH a 5 ?_
 by_cases s:(u:Int)=(v:Int)
 . refine jk a 13 Zc Zp ?_
   exact⟨0,false,rfl,⟨fun _=>⟨rfl,rfl⟩,fun k=>absurd o_ k⟩,a.gf s_⟩
 . refine cH a 12 ?_
   refine ld rfl rfl Eo rfl (k8 a s_ i.b1 rfl) (cH a 2 ?_)
   refine ld rfl rfl AA rfl (k8 a s_ i.b2 rfl) (cH a 2 ?_)
   refine cl (aaB q.tb (fO es n q.f).p q.t j (i.to a s_).t i.fg.rY o_ (St.xl a (X:=[]) s_ A s_) i.fg.Lz u v o_ o_) ?_
   rintro _ x ⟨c,d,rfl,l,m⟩
   have e:=lI a m
   refine jk e 7 (Za c) (.bool d) ?_
   exact⟨c,d,rfl,⟨fun k=>absurd k o_,fun _=>l⟩,e.gf s_⟩
theorem tG.lt{ps:List Int}{a b z:Nat}{B:Bool}(hp:kM ps)(h:tG ps a b z B)(e:a<ps.length)(hb:0<ps.length):z<ps.length:=by
 rcases h with ⟨_,s,t,c,_,d,_⟩|⟨_,h,_⟩
 . rw[<-d]
   exact(rz hp e c).1
 . omega
theorem ab4(q:Mf)(w:World)(y:vw w mb n es q)(A:n<=4096)(C:(kE o).holds w)(u v:Nat)(E:u<n)(hv:v<n) :
 CR ya 63 (Zv mb u v) w (fun r w' => ∃ (θ:Int) (B:Bool),r = .tuple (qG θ B)/\((u=v->θ = -9223372036854775808/\B=true)/\(u≠v->∃ z,tG (fO es n q.f).p u v z B/\(B=true->θ=cE (fO es n q.f).h z)/\(B=false->θ=0)))/\gE [] w w'):=by
 obtain⟨H,I,J,K,L⟩:=mK (es:=es) (n:=n) (f:=q.f)
 have G:=y.fg.f.room y.fg.g
 refine iE func63 11 fun D=>?_
 refine ig D (K8 mb n es q w y A u o_) fun j b=>cH b 3 ?_
 by_cases t:(u:Int)=(v:Int)
 . refine jk b 13 (Za (-9223372036854775808)) Zi ?_
   exact⟨_,true,rfl,⟨fun _=>⟨rfl,rfl⟩,fun l=>absurd o_ l⟩,b.gf s_⟩
 . refine cH b 12 ?_
   refine cl (ab1 mb n es q j (y.to b s_) A (St.xl b (X:=[]) s_ C s_) u v E hv) ?_
   rintro _ x ⟨c,m,rfl,d,s⟩
   have a:=lI b s
   refine fZ a 14 ?_
   cases e:(m:Bool)
   . skip
     subst e
     refine G2 a 9 Zc Zp ?_
     exact⟨0,false,rfl,⟨fun l=>absurd l o_,fun l=>⟨_,d.2 l,fun h=>absurd h d_,fun _=>rfl⟩⟩,a.gf s_⟩
   . skip
     subst e
     have M:c<n+q.f.length:=by have F:=tG.lt y.fg.rY (d.2 o_) o_ o_;omega
     refine fM a 8 ?_
     refine ld rfl rfl Eo rfl (k8 a s_ y.b1 rfl) (cH a 3 ?_)
     refine ld rfl rfl yr rfl (k8 a s_ y.b2 rfl) (cH a 1 ?_)
     refine iH (k:=c) (i:=(c:Int)) rfl rfl rfl yr ti2 y.r.h o_ o_ (fW o_) (jf rfl rfl ur rfl (yu a s_ d_ y.r.h) (fW o_) rfl (fK a 5 ?_))
     refine kC (v:=(Za (cE (fO es n q.f).h c))) (v' := Zi) results63 rfl rfl ?_
     exact⟨_,true,rfl,⟨fun l=>absurd l o_,fun l=>⟨_,d.2 l,fun _=>rfl,fun h=>absurd h d_⟩⟩,a.gf s_⟩
theorem Vz(fb tb m:Nat)(ed:Int)(xs:List Nd)(w:World)(t:Own (Zl fb tb m ed xs) w)(hm:xs.length=m)(hb:m<=1000001)(s:fT xs)(F:FT)(q:Fo xs F)(v:Nat)(hv:v+1<m) :
 CR ya 251 (Zk fb v) w (fun r w' => ∃ (d:Int) (zs:List Nd) (p:FT),r = .int .i64 d/\Fo zs p/\fT zs/\zs.length=m/\fP (Zl fb tb m ed xs) w w' (Zl fb tb m ed zs)):=by
 refine ja func251 t 10 fun h=>?_
 refine ig h (BN fb tb m ed w (h.at (i:=0) rfl) hb v o_) fun g e=>?_
 have f:=yd [_,_] _ e
 refine cH e 11 ?_
 refine cl (zH fb tb m ed xs g (yg f 0 rfl) (by first|exact hm|omega) hb s F q (v+1) o_ o_) ?_
 rintro _ k ⟨u,rfl,a,l,n,b,j,ht⟩
 have c:=(yw f ht)
 have o:a.length=m:=by have:=b.len;omega
 refine cH c 10 ?_
 refine jC (o' := (v+1)*9+0) (i:=(v:Int)+1) rfl rfl rfl yi jA (o9 (show (v+1)<(a).length from om)) o_ (fK c 6 ?_)
 refine gT (v:=(Za ((cE a (v+1)).total))) results251 rfl ?_
 exact⟨(cE a (v+1)).total,a,_,rfl,b.fo,j,by have:=b.len;omega,yk c⟩
theorem abK(fb tb m:Nat)(w:World)(j:Own (kP fb tb m) w)(hb:m<=1000001)(a:Nat)(l:a+1<m) :
 CR ya 251 (Zk fb a) w (fun r w' => ∃ d:Int,r = .int .i64 d/\fP (kP fb tb m) w w' (kP fb tb m)):=by
 obtain⟨ed,xs,F,b,c,f,k⟩:=DT j
 exact CR.mono (Vz fb tb m ed xs w k b hb c F f a l) fun r w' ⟨d,zs,n,e,g,h,i,ht⟩=>⟨d,e,Ei ht i h g⟩
theorem ZL(de tb mb:Nat)(s:GW)(w:World)(n:Own (GW.R de tb mb s) w)(v:Nat)(hv:v<de) :
 CR ya 181 (Zk mb v) w (fun r w' => ∃ d:Int,r = .int .i64 d/\fP (GW.R de tb mb s) w w' (GW.R de tb mb s)):=by
 have x:=n.fact.vn
 have u:=n.fact.v2
 have t:=n.fact.en
 refine gj func181 ?_
 have q:=Own.of n.un
 have o:s.ok de tb:=n.fact
 have f:=yn (p:=GW.ok de tb s) (yd [_,_,_,_] _ q) o
 refine fM q 10 ?_
 refine gF 0 f (Kf de tb mb s w · v o_) fun l i=>?_
 have j:=(j7 i).unpack
 refine gh j 18 fun k g=>?_
 refine gL (e:=((tb+v:Nat):Int)) rfl iX (cl (abK s.fb s.nb (tb+de+1) k (yg g 1 rfl) o_ (tb+v) o_) ?_)
 rintro _ m ⟨c,rfl,ht⟩
 have h:=yt 1 g ht
 refine gL (e:=(IntKind.i64.wrap (c+1))) rfl rfl (quo (a:=(IntKind.i64.wrap (c+1))) (b:=2) (e:=(IntKind.i64.wrap ((IntKind.i64.wrap (c+1)).tdiv 2))) rfl rfl rfl d_ rfl (fK h 4 ?_))
 refine gT (v:=(Za (IntKind.i64.wrap ((IntKind.i64.wrap (c+1)).tdiv 2)))) results181 rfl ?_
 exact⟨_,rfl,yj (yn (p:=s.ok de tb) (yd [_,_,_,_] _ h) o) za⟩
theorem Kh{t:TW}{a b:Int}{c d:Nat}{p q:Bool}(h1:t.pE a c p)(e:t.pE b d q):(p&&q)=true/\t.pE a c true/\t.pE b d true\/(p&&q)=false/\¬ (t.cnt a=0/\t.cnt b=0):=by
 have e1:=h1.cnt
 have f:=e.cnt
 cases p<;>cases q<;>simp_all
theorem ahA(c:WC)(E:Nat)(s:WW)(w:World)(G:Own (WW.R c E s) w)(a b:Int) :
 CR ya 180 (Iy E a b) w (fun r w' => ∃ (I J:Nat) (e:Int),r = .tuple (C5 I J e)/\(e=0/\s.u.t.pE a I true/\s.u.t.pE b J true\/e=13/\¬ (s.u.t.cnt a=0/\s.u.t.cnt b=0))/\fP (WW.R c E s) w w' (WW.R c E s)):=by
 refine gj func180 ?_
 have H:=Own.of G.un
 have D:s.ok c:=G.fact
 have K:=D.w1
 have L:=D.wi
 have M:=D.n0
 have N:=D.n1
 have j:=yn (p:=s.ok c) (yd [_,_,_,_,_] _ H) D
 refine fM H 11 ?_
 refine gF 0 j (xZ c E s w ·) fun o q=>?_
 have f:=(j7 q).unpack
 refine cH f 13 ?_
 refine cl (HK c.de c.cQ s.ub s.u o (yg f 2 rfl) a) ?_
 rintro _ x ⟨k,y,rfl,g,ht⟩
 have h:=yt 2 f ht
 refine cH h 14 ?_
 refine cl (HK c.de c.cQ s.ub s.u x (yg h 2 rfl) b) ?_
 rintro _ A ⟨l,z,rfl,i,ht⟩
 have d:=yt 2 h ht
 refine cH d 13 ?_
 cases m:(y:Bool)
 . skip
   subst m
   refine fK d 15 ?_
   refine r0 (v:=Zc) (v' := Zc) (v'' := E3) results180 rfl rfl rfl ?_
   rcases Kh g i with ⟨B,C,F⟩|⟨B,C⟩
   . exact absurd B (by simp_all)
   . exact⟨0,0,13,rfl,.inr ⟨rfl,C⟩,yj (yn (p:=s.ok c) (yd [_,_,_,_,_] _ d) D) za⟩
 . skip
   subst m
   refine fZ d 5 ?_
   cases n:(z:Bool)
   . skip
     subst n
     refine jh d 10 ?_
     refine r0 (v:=Zc) (v' := Zc) (v'' := E3) results180 rfl rfl rfl ?_
     rcases Kh g i with ⟨B,C,F⟩|⟨B,C⟩
     . exact absurd B (by simp_all)
     . exact⟨0,0,13,rfl,.inr ⟨rfl,C⟩,yj (yn (p:=s.ok c) (yd [_,_,_,_,_] _ d) D) za⟩
   . skip
     subst n
     refine jh d 13 ?_
     refine r0 (v:=(Za ((k:Nat):Int))) (v' := (Za ((l:Nat):Int))) (v'' := Zc) results180 rfl rfl rfl ?_
     rcases Kh g i with ⟨B,C,F⟩|⟨B,C⟩
     . exact⟨k,l,0,rfl,.inl ⟨rfl,C,F⟩,yj (yn (p:=s.ok c) (yd [_,_,_,_,_] _ d) D) za⟩
     . exact absurd B (by simp_all)
theorem ah0(c:WC)(z:Nat)(s:WW)(w:World)(C:Own (WW.R c z s) w)(id:Int) :
 CR ya 109 (pJ z id) w (fun r w' => ∃ (d e:Int),r = .tuple (Zx d e)/\(e=0↔s.u.t.cnt id=0)/\fP (WW.R c z s) w w' (WW.R c z s)):=by
 refine gj func109 ?_
 have D:=Own.of C.un
 have y:s.ok c:=C.fact
 have I:=y.w1
 have J:=y.wi
 have K:=y.n0
 have L:=y.n1
 have h:=yn (p:=s.ok c) (yd [_,_,_,_,_] _ D) y
 refine fM D 11 ?_
 refine cl (ahA c z s w (yg h 0 rfl) id id) ?_
 rintro _ l ⟨f,m,b,rfl,j,ht⟩
 have n:=yt 0 h ht
 have a:=(j7 n).unpack
 refine cH a 13 ?_
 by_cases q:(b:Int)=0
 . have B:fR.ok c.de c.cQ s.u:=(j6 a (i:=2) rfl)
   have H:=y.v2
   have E:b=0/\s.u.t.pE id f true/\s.u.t.pE id m true:=j.elim (fun v=>v) (fun v=>by exfalso;omega)
   have M:f<c.de:=by have v:=TW.pE.lt E.2.1 B.tok (by rw[B.tn];omega);rw[B.tn]at v;exact v
   refine cH a 13 ?_
   refine cl (ZL c.de c.cQ s.ob s.g l (yg a 4 rfl) f o_) ?_
   rintro _ x ⟨o,rfl,ht⟩
   have k:=yt 4 a ht
   refine jk k 5 (Za o) Zc ?_
   have G:=E.2.1.cnt
   exact⟨_,0,rfl,⟨fun _=>by rw[G];rfl,fun _=>rfl⟩,yj (yn (p:=s.ok c) (yd [_,_,_,_,_] _ k) y) za⟩
 . refine jk a 13 Zc (Za b) ?_
   have F:b=13/\¬ (s.u.t.cnt id=0/\s.u.t.cnt id=0):=j.elim (fun v=>by exfalso;omega) (fun v=>v)
   exact⟨_,_,rfl,⟨fun A=>(by exfalso;omega),fun A=>absurd ⟨A,A⟩ F.2⟩,yj (yn (p:=s.ok c) (yd [_,_,_,_,_] _ a) y) za⟩
theorem Cs(c:WC)(j:Nat)(s:WW)(w:World)(k:Own (WW.R c j s) w) :
 CQ ya 24 (Zg j) w (.int .u64 (Vr s)) (WW.R c j s):=by
 refine gj func24 ?_
 have l:=Own.of k.un
 have i:s.ok c:=k.fact
 have m:=i.w1
 have n:=i.wi
 have o:=i.n0
 have q:=i.n1
 have a:=yn (p:=s.ok c) (yd [_,_,_,_,_] _ l) i
 refine fM l 9 ?_
 refine gF 0 a (xZ c j s w ·) fun g d=>?_
 have f:=(j7 d).unpack
 refine gh f 16 fun h b=>?_
 refine gL (e:=Vr s) rfl rfl (fK b 4 ?_)
 refine gT (v:=(Zo (Vr s))) results24 rfl ?_
 exact⟨rfl,yj (yn (p:=s.ok c) (yd [_,_,_,_,_] _ b) i) za⟩
structure Vk where
 iv:Value
 K:List Int
 es:List Ge
 f:List Nat
 lv:Value
 rv:Value
 pv:Value
 hv:Value
 sv:Value
 cb:Nat
 c:Cv
 mb:Nat
 q:Mf
structure Vk.ok (k:Vk):Prop where
 fg:iN k.es k.K.length k.f
 kN:k.K.Pairwise fun a b=>a<b
 n:k.K.length<=12
def Vk.R(k:Vk):fJ:=lC k.ok (fN [cL iB k.iv 39 1 k.K,cL fQ k.lv 3 1 ((fO k.es k.K.length k.f).l),cL fQ k.rv 3 1 ((fO k.es k.K.length k.f).r),cL fQ k.pv 3 1 ((fO k.es k.K.length k.f).p),cL fQ k.hv 2 1 ((fO k.es k.K.length k.f).h),cL fL k.sv 3 1 ((fO k.es k.K.length k.f).s),(Cv.R k.cb k.K.length k.es k.c),(Mf.R k.mb k.K.length k.es k.q)])
abbrev Vk.v(k:Vk):Value:=.agg #[k.iv,(Za k.K.length),k.lv,k.rv,k.pv,k.hv,k.sv,(Zb k.cb),(Zb k.mb)]
structure Vk.of (s:WW) (k:Vk):Prop where
 ids:s.u.oc k.K
 SN:∃ L,s.u.lX L/\mE k.K L k.es L.length
abbrev vB a b:=(fN [Vk.R a,b]:fJ)
abbrev wN(a:Vk) b:=(Cv.R a.cb b a.es a.c:fJ)
abbrev tO(a:Vk) b:=(Mf.R a.mb b a.es a.q:fJ)
abbrev Zn(a:Vk):=fO a.es a.K.length a.f
abbrev I6 a (b:Nat) (c:Int) (d:Nat):=(fN [Vk.R a,fN [blk b 2 (Zd c),blk d 84 Z4]]:fJ)
abbrev I7 a (b c:Nat):=(fN [Vk.R a,fN [blk b 81 Z4,blk c 78 Z4]]:fJ)
abbrev OC a (b:Nat) (c:Int) (d:Nat) (e:Int) (f:Nat):=(fN [Vk.R a,fN [blk b 39 (Zw c),blk d 2 (Zd e),blk f 73 [.int .u64 0,.int .i64 0]]]:fJ)
abbrev tM(a:Vk)(b:Int):=([a.iv,.int .i64 b,a.lv,a.rv,a.pv,a.hv,a.sv,.pointer (some ⟨a.cb,0,none⟩),.pointer (some ⟨a.mb,0,none⟩)]:List Value)
abbrev OD a (b:Nat) (c:Int) (d:Nat) (e:Int) (f g:Nat) h:=(fN [Vk.R a,fN [blk b 39 (Zw c),blk d 39 (Zw e),blk f 2 Bt,blk g 4 [.bool false],h]]:fJ)
abbrev Ja(a:Vk)(b:Int):=(.agg #[a.iv,.int .i64 b,a.lv,a.rv,a.pv,a.hv,a.sv,.pointer (some ⟨a.cb,0,none⟩),.pointer (some ⟨a.mb,0,none⟩)]:Value)
abbrev Dm(a:Nat)(b:Int)(c:Vk)(d:Int):=([.pointer (some ⟨a,0,none⟩),.bool true,.int .u64 b,c.iv,.int .i64 d,c.lv,c.rv,c.pv,c.hv,c.sv,.pointer (some ⟨c.cb,0,none⟩),.pointer (some ⟨c.mb,0,none⟩),.int .i64 1]:List Value)
abbrev Iz(a:Vk)(b:Int)(c d:Nat):=(#[.agg #[a.iv,.int .i64 b,a.lv,a.rv,a.pv,a.hv,a.sv,.pointer (some ⟨a.cb,0,none⟩),.pointer (some ⟨a.mb,0,none⟩)],.pointer (some ⟨c,0,none⟩),.pointer (some ⟨d,0,none⟩)]:Array Value)
abbrev NK(a b:Nat)(c:Int)(d:Vk)(e f:Int):=(blk a 108 [.pointer (some ⟨b,0,none⟩),.bool true,.int .u64 c,d.iv,.int .i64 e,d.lv,d.rv,d.pv,d.hv,d.sv,.pointer (some ⟨d.cb,0,none⟩),.pointer (some ⟨d.mb,0,none⟩),.int .i64 f]:fJ)
abbrev I8(a b:Nat)(c:Int)(d:Vk)(e:Int) f g:=(fN [blk a 108 (Dm b c d e),Vk.R d,WW.R f b g]:fJ)
abbrev wO(a b:Nat)(c:Int)(d:Vk)(e f:Int) g h:=(fN [blk a 108 [.pointer (some ⟨b,0,none⟩),.bool true,.int .u64 c,d.iv,.int .i64 e,d.lv,d.rv,d.pv,d.hv,d.sv,.pointer (some ⟨d.cb,0,none⟩),.pointer (some ⟨d.mb,0,none⟩),.int .i64 f],Vk.R d,WW.R g b h]:fJ)
abbrev VK(a b:Nat)(c:Int)(d:Vk)(e:Int) f g h:=(fN [blk a 108 (Dm b c d e),Vk.R d,WW.R f b g,h]:fJ)
abbrev sK(a b:Nat)(c:Int)(d:Vk)(e f:Int) g h i:=(fN [blk a 108 [.pointer (some ⟨b,0,none⟩),.bool true,.int .u64 c,d.iv,.int .i64 e,d.lv,d.rv,d.pv,d.hv,d.sv,.pointer (some ⟨d.cb,0,none⟩),.pointer (some ⟨d.mb,0,none⟩),.int .i64 f],Vk.R d,WW.R g b h,i]:fJ)
abbrev OH(a b:Nat)(c:Int)(d:Vk)(e f:Int) g h i j:=(fN [blk a 108 [.pointer (some ⟨b,0,none⟩),.bool true,.int .u64 c,d.iv,.int .i64 e,d.lv,d.rv,d.pv,d.hv,d.sv,.pointer (some ⟨d.cb,0,none⟩),.pointer (some ⟨d.mb,0,none⟩),.int .i64 f],Vk.R d,WW.R g b h,cL fQ i 2 1 j]:fJ)
theorem mE.DE{s:fR}{de:Nat}{L:List Lv}{es:List Ge}(j:s.ok de cb)(g:s.lX L)(h:mE K L es L.length):lP K.length es:=fun e f=>by
 obtain⟨i,hi,e1⟩:=AT f
 have b:i<L.length:=by rw[<-h.len];exact hi
 have a:=h.fst i b
 have d:cE es i=e:=iW (by rw[zy hi,e1])
 rw[d]at a
 refine⟨a.ul,a.vl,fun c=>(j.BN ((g.mem _).1 (zg (fW b)))).2 ?_⟩
 rw[<-a.u,<-a.v,c]
theorem UU(c:WC)(wb:Nat)(s:WW)(w:World)(hO:Own (WW.R c wb s) w)(al:c.de<=12) :
 CR ya 110 (Zg wb) w (fun r w' => ∃ (k:Vk),r=k.v/\Vk.of s k/\fP (WW.R c wb s) w w' (fN [(WW.R c wb s),Vk.R k])):=by
 refine gj func110 ?_
 have ak:=yy hO
 have F:=oV hO
 have ar:=F.1.en
 have aq:=F.1.w1
 refine fM ak 2 ?_
 refine ir ak (fun U K V W A=>?_)
 refine cH A 5 ?_
 refine cl (B8 c wb s K (yg A 1 rfl) al) ?_
 rintro _ X ⟨d,B,Y,a,Z,g,rfl,b,ht⟩
 have L:=ye [1,0] A
 have z:=yp (yt 0 L ht)
 have F:=oV (yg z 0 rfl)
 have aj:=mE.DE F.2.1 b.2.1 b.2.2
 have ao:=b.1.len F.2.1 F.2.2
 have ap:=b.2.1.len F.2.1
 have an:=b.2.2.len
 have am:=F.1.en
 refine cH z 12 ?_
 refine iL (pvs:=[(0,d)]) (v:=.agg #[d,Zc,Zh,Zh,Zh,Zh,Zh,Zq,Zq]) rfl rfl (i6 [(0,[d])] Cn adk rfl ⟨rfl,(cells_one (yh z (i:=1) rfl)),trivial⟩ rfl) (ir z (fun aa ab ac ad D=>?_))
 refine iS 0 D (fun M h=>?_) (h1:=(gD (yh D (i:=2) rfl) (gD rfl (gD rfl (gD rfl (gD rfl (gD rfl (gD rfl (gD rfl (gD rfl je))))))))))
 refine cH h 5 ?_
 refine iA (m:=a.length) 2 rfl rfl yx h rfl (cH h 1 ?_)
 refine cl (LI B a.length g M (yv h 3 rfl).any aj o_ o_) ?_
 rintro _ ae ⟨E,j,l,n,T,q,rfl,N,ht⟩
 have f:=yp (y9 h ht)
 refine cH f 4 ?_
 refine iS 5 f (fun O t=>?_) (h1:=(gD rfl (gD (yh f (i:=0) rfl) (gD (yh f (i:=1) rfl) (gD (yh f (i:=2) rfl) (gD (yh f (i:=3) rfl) (gD (yh f (i:=4) rfl) je)))))))
 refine cH t 5 ?_
 refine iA (m:=a.length) 7 rfl rfl yx t rfl (cH t 1 ?_)
 refine cl (Xw B a.length g O (yv t 8 rfl).any aj o_ o_) ?_
 rintro _ af ⟨u,G,rfl,ht⟩
 have H:=(y9 t ht)
 refine cH H 4 ?_
 refine iS 6 H (fun P x=>?_)
 refine cH x 5 ?_
 refine iA (m:=a.length) 8 rfl rfl yx x rfl (cH x 1 ?_)
 refine cl (ab0 B a.length g P (yv x 9 rfl).any aj o_ o_) ?_
 rintro _ ag ⟨y,I,rfl,ht⟩
 have J:=(y9 x ht)
 refine cH J 4 ?_
 refine iS 7 J (fun ah e=>?_)
 refine cH e 5 ?_
 refine iS 12 e (fun ai C=>?_) (h1:=(gD (yh e (i:=9) rfl) (gD rfl (gD (yh e (i:=2) rfl) (gD (yh e (i:=3) rfl) (gD (yh e (i:=4) rfl) (gD (yh e (i:=5) rfl) (gD (yh e (i:=6) rfl) (gD rfl (gD rfl je))))))))))
 refine fK C 3 ?_
 refine LP (v:=(.agg #[d,(Za a.length),j,l,n,T,q,(Zb u),(Zb y)])) results110 (oI (cs:=(Dr d a.length j l n T q u y)) rfl Em rfl Cn rfl (mL C (i:=12) (o:=0) (vs:=(Dr d a.length j l n T q u y)) rfl rfl)) ?_
 have Q:=ye [8,9,2,3,4,5,6,1,0] C
 have S:=(yd [_,_,_,_,_,_,_,_] _ (Q.perm (qx (l₁:=[_]) (l₂:=[_,_,_,_,_,_,_,_])))).swap
 exact⟨(⟨d,a,g,E,j,l,n,T,q,u,G,y,I⟩:Vk),rfl,⟨b.1,_,b.2.1,b.2.2⟩,yj (yd [_,_] [] (St.swap (yn (p:=Vk.ok (⟨d,a,g,E,j,l,n,T,q,u,G,y,I⟩:Vk)) S.swap ⟨⟨aj,N⟩,b.1.kN,by show a.length<=12;omega⟩))) za⟩
theorem uq(d e:Nat)(cs:List Value)(w:World)(f:Own (blk d 108 ((Zb e) :: cs)) w) :
 CQ ya 36 (Zg d) w (.bool true) (blk d 108 ((Zb e) :: cs)):=by
 refine gj func36 ?_
 have b:=yy f
 refine fM b 8 ?_
 refine lF (a:=some ⟨d,0,none⟩) (c:=true) rfl rfl rfl underlying24 rfl (cH b 5 ?_)
 refine lF (a:=some ⟨e,0,none⟩) (c:=true) rfl rfl rfl CA rfl (fK b 5 ?_)
 refine gT (v:=Zi) results36 rfl ?_
 exact⟨rfl,iM b⟩
theorem UZ(c:WC)(j i:Nat)(s:WW)(cs:List Value)(w:World)(l:Own (Z2 j ((.pointer (some ⟨i,0,none⟩)) :: cs) c i s) w)(id:Int) :
 CR ya 57 (pJ j id) w (fun r w' => ∃ B:Bool,r = .bool B/\(B=true↔s.u.t.cnt id=0)/\fP (Z2 j ((.pointer (some ⟨i,0,none⟩)) :: cs) c i s) w w' (Z2 j ((.pointer (some ⟨i,0,none⟩)) :: cs) c i s)):=by
 refine ja func57 l 12 fun k=>?_
 refine cl (ah0 c i s w (yg k 1 rfl) id) ?_
 rintro _ e ⟨f,d,rfl,b,ht⟩
 have a:=yt 1 k ht
 refine cH a 10 ?_
 by_cases g:(d:Int)=0
 . refine gm a 5 Zi ?_
   exact⟨true,rfl,⟨fun h=>(by first|exact b.1 o_|cases h),fun h=>(by first|rfl|(exact absurd (b.2 h) o_))⟩,yk a⟩
 . refine gm a 5 Zp ?_
   exact⟨false,rfl,⟨fun h=>(by first|exact b.1 o_|cases h),fun h=>(by first|rfl|(exact absurd (b.2 h) o_))⟩,yk a⟩
theorem afQ:ya.stoodInHeld 100=false:=by kernel_rfl
theorem Ka:ya.eqGuardType ya.depth 100=false:=by kernel_rfl
theorem J1(a b:Bool)(c d:Int)(w:World):(Op.equal 100 (.agg #[.bool a,.int .u64 c]) (.agg #[.bool b,.int .u64 d])).run ya w = .ok ((a==b)&&(c==d)) w :=
 aeX El afQ d_ d_ (TB nH _ 0 _ rfl) (TB nH _ 0 _ rfl) (qQ ym _ 1 _ rfl) (qQ ym _ 1 _ rfl) (L4 9998 nH a b) (vg 9998 ym c d)
theorem Yy(a:Bool)(c:Int)(w:World):(Op.equal 100 (.agg #[.bool a,.int .u64 c]) (.agg #[.bool a,.int .u64 c])).run ya w = .ok true w:=by
 rw[J1,beq_self_eq_true,beq_self_eq_true]
 rfl
theorem Va(c:WC)(S F:Nat)(s:WW)(w:World){α:Type}(R:fJ)(U:α->fJ)(Φ:Vk->α->Prop)(T:Nat)(cap:List Value)(W:wG ya T)(Y:∀ (k:Vk) (w1:World),Vk.of s k->Own (vB k R) w1->CR ya T (k.v :: cap).toArray w1 (fun r w' => r = .tuple #[]/\∃ x,Φ k x/\fP (vB k R) w1 w' (vB k (U x))))(V:Own (yK S F c s R) w)(aa:c.de<=12) :
 CR ya 58 (yO S (.func (.func T) #[] cap.toArray)) w (fun r w' => ∃ (k:Vk) (x:α),r = .tuple #[]/\(Vk.of s k /\ Φ k x)/\fP (yK S F c s R) w w' (VK S F (Vr s) k k.K.length c s (U x))):=by
 refine ja func58 V 6 fun Z=>?_
 refine gF 1 Z (Cs c F s w ·) fun H n=>?_
 refine iL (pvs:=[(0,Zi),(1,(Zo (Vr s)))]) (v:=.agg (wQ (Vr s))) rfl rfl (i6 [(0,[Zi]),(1,(Zw (Vr s)))] Ak LB rfl oh rfl) (ir n (fun I J L M q=>?_))
 refine gh q 11 fun t f=>?_
 refine GP (c:=false) (xs:=#[Zp,Z6]) (ys:=(wQ (Vr s))) rfl rfl rfl Ka (fun w=>J1 _ _ _ _ w) (cH f 10 ?_)
 refine cl (UU c F s t (yg f 2 rfl) aa) ?_
 rintro _ N ⟨b,rfl,h,ht⟩
 have u:=ye [2,0,1,3] f
 have y:=yp (yt 0 u ht)
 have j:=ye [1,0,2,3,4] y
 have X:=qT j
 have a:=(j7 j).unpack
 refine cH a 2 ?_
 refine iS 10 a (fun O d=>?_) (h1:=(gD (yh a (i:=0) rfl) (gD rfl (gD (yh a (i:=1) rfl) (gD (yh a (i:=2) rfl) (gD (yh a (i:=3) rfl) (gD (yh a (i:=4) rfl) (gD (yh a (i:=5) rfl) (gD rfl (gD rfl je))))))))))
 refine cH d 5 ?_
 refine uT (cs:=(Fj (Vr s))) rfl rfl El rfl Ak rfl (mL d (i:=9) (o:=0) (vs:=(Fj (Vr s))) rfl rfl) (cH d 2 ?_)
 refine iS 10 d (fun P e=>?_)
 refine cH e 6 ?_
 refine ld rfl rfl yf rfl (mC e 10 rfl rfl) (cH e 3 ?_)
 refine iS 10 e (fun z g=>?_)
 refine cH g 7 ?_
 refine uT (cs:=(tM b b.K.length)) rfl rfl Em rfl Cn rfl (mL g (i:=10) (o:=3) (vs:=(tM b b.K.length)) rfl rfl) ?_
 have A:=yn (p:=Vk.ok b) (yd [_,_,_,_,_,_,_,_] _ g) X
 have B:=ye [0,4,1,2,3] A
 have l:=yd [_,_] _ B
 refine lR (fi:=[]) (ca:=cap) rfl rfl rfl W (Y b z h (yg l 0 rfl)) ?_
 rintro _ Q ⟨rfl,C,D,E⟩
 have m:=(yw l E)
 refine jU m 1 ?_
 have G:=ye [4,0,2,1] m
 exact⟨b,C,rfl,⟨h,D⟩,yk G⟩
theorem HN(c:WC)(A B:Nat)(s:WW)(w:World){α:Type}(z:fJ)(D:α->fJ)(Φ:Vk->α->Prop)(C:Nat)(cap:List Value)(F:wG ya C)(H:∀ (k:Vk) (w1:World),Vk.of s k->Own (vB k z) w1->CR ya C (k.v :: cap).toArray w1 (fun r w' => r = .tuple #[]/\∃ x,Φ k x/\fP (vB k z) w1 w' (vB k (D x))))(k:Vk)(G:Vk.of s k)(b:Int)(E:Own (sK A B (Vr s) k k.K.length b c s z) w) :
 CR ya 58 (yO A (.func (.func C) #[] cap.toArray)) w (fun r w' => ∃ (x:α),r = .tuple #[] /\ Φ k x/\fP (sK A B (Vr s) k k.K.length b c s z) w w' (sK A B (Vr s) k k.K.length b c s (D x))):=by
 refine ja func58 E 6 fun I=>?_
 refine gF 2 I (Cs c B s w ·) fun o f=>?_
 refine iL (pvs:=[(0,Zi),(1,(Zo (Vr s)))]) (v:=.agg (wQ (Vr s))) rfl rfl (i6 [(0,[Zi]),(1,(Zw (Vr s)))] Ak LB rfl oh rfl) (ir f (fun p q t u g=>?_))
 refine gh g 11 fun h a=>?_
 refine GP (c:=true) (xs:=(wQ (Vr s))) (ys:=(wQ (Vr s))) rfl rfl rfl Ka (fun w=>Yy _ _ w) ?_
 have i:=ye [2,4,0,1,3] a
 have d:=yd [_,_] _ i
 refine cH a 11 ?_
 refine lR (fi:=[]) (ca:=cap) rfl rfl rfl F (H k h G (yg d 0 rfl)) ?_
 rintro _ y ⟨rfl,j,l,m⟩
 have e:=(yw d m)
 refine jU e 1 ?_
 have n:=ye [3,0,4,1] e
 exact⟨j,rfl,l,yk n⟩
abbrev Vk.top(k:Vk)(T:Int)(x:Nat):Nat:=jK (fO k.es k.K.length k.c.f).p (fO k.es k.K.length k.c.f).h T x
abbrev Vk.gJ(k:Vk)(T:Int)(x:Nat):Nat:=Go.Sx.gJ k.es k.K.length k.c.f (k.top T x)
abbrev Vk.Ai(k:Vk)(T:Int)(x:Nat):Nat:=cE (fO k.es k.K.length k.c.f).s (k.top T x)
theorem iN.KN{es:List Ge}{n:Nat}{f:List Nat}(h:iN es n f){y:Nat}(a:y<n+f.length):gJ es n f y<n:=by
 unfold gJ
 split
 . assumption
 . have:=h.st (i:=y-n) o_
   omega
variable{k:Vk}
theorem Vk.KN(h:iN k.es k.K.length k.c.f){T:Int}{x:Nat}(i:x<k.K.length):k.gJ T x<k.K.length:=by
 obtain⟨a,b,d,e,g⟩:=mK (es:=k.es) (n:=k.K.length) (f:=k.c.f)
 refine iN.KN h ?_
 have:=JL (hs:=(fO k.es k.K.length k.c.f).h) (T:=T) (x:=x) (ps:=(fO k.es k.K.length k.c.f).p) o_ h.rY
 show jK _ _ _ _<_
 omega
theorem PY{t:TW}{id:Int}(h:t.cnt id=0):t.mem id:=by
 apply Classical.byContradiction
 intro a
 rw[TW.uP a]at h
 cases h
theorem Vk.of.mem{s:WW}(h:Vk.of s k)(a:s.u.t.cnt u=0):u∈k.K:=(h.ids.mem u).2 (PY a)
theorem Xv(P Q mb:Nat)(u T:Int)(k:Vk)(w:World)(hO:Own (OC k P u Q T mb) w)(hu:u∈k.K) :
 CR ya 59 #[(Ja k k.K.length),(Zb P),(Zb Q),(Zb mb)] w (fun r w' => r = .tuple #[]/\∃ x:Int×Nat,x=(cE k.K (k.gJ T (gX k.K u)),k.Ai T (gX k.K u))/\fP (OC k P u Q T mb) w w' (fN [Vk.R k,(fN (NO P u Q T mb x.1 x.2))])):=by
 refine gj func59 ?_
 have Y:=Own.of hO
 have U:=qT Y
 have ac:=U.n
 have aa:=(j7 Y).unpack
 have g:=ye [8,0,1,2,3,4,5,6,7] aa
 have b:=yp g
 have ab:iN k.es k.K.length k.c.f:=(j6 aa (i:=6) rfl)
 have X:=(zY U.kN hu).1
 have ad:=Vk.KN ab (T:=T) X
 refine fM b 2 ?_
 refine gN b (fun B C D E d=>?_)
 refine fZ d 3 ?_
 refine xI mixed [0,1,2,3,4,6] [5,7,11] [(5,[1,6]),(11,[1,3,4,6])] [8,9,10,12,13] d (fun G e=>xY ?_)
 refine fK e 7 ?_
 refine nF trivial (xW [⟨5,13,[],[],Unit,fun _=>(Za (gX k.K u:Int)),fun _=>[]⟩,⟨7,15,[(13,(Za (gX k.K u:Int)))],[],Unit,fun _=>(.tuple #[(C4 ((k.gJ T (gX k.K u):Nat):Int) ((k.Ai T (gX k.K u):Nat):Int)),Zc]),fun _=>[]⟩,⟨11,5,[],[],Nat,fun a=>(Zb a),fun a=>[blk a 138 wS]⟩] e ⟨mT (fun Z V F _=>cl (DV k.iv k.K u V (Sl.any (yv F 4 rfl)) U.kN o_) (fun _ _ h=>by obtain⟨rfl,W⟩:=h;exact have O:=(F.grow W);nh ⟨(),rfl,O,trivial⟩)),mT (fun Z V F _=>cl (XP k.cb k.K.length k.es k.c V (uD.of (yg F 10 rfl)) o_ (gX k.K u) X T) (fun _ _ h=>by obtain⟨rfl,W⟩:=h;exact have O:=(F.grow W);nh ⟨(),rfl,O,trivial⟩)) (hd:=by intro p hp;first|(rcases ze.1 hp with rfl|hp;exact⟨_,by first|exact .head _|exact .tail _ (.head _),rfl,fun _=>rfl,by kernel_rfl⟩;cases hp)),mT (fun Z V F _=>al (cs:=wS) rfl xQ rfl F (fun j _ _ _ h=>have O:=h;nh ⟨j,rfl,O,trivial⟩))⟩ ?_)
 rintro _ _ a H l
 refine r7 l 7 fun I m=>?_
 refine jS mixed [([0,1,2,3,4,5,6,7,8],[1,3,5,7]),([9,10],[7])] [11,12] m (fun J o=>iY ?_)
 refine jI o 10 fun L q=>?_
 refine jF (iY ?_)
 refine jI q 3 fun M s=>?_
 refine jF (jX ?_)
 refine jI s 3 fun N t=>?_
 refine lZ results59 ?_
 have v:=ye [2,3,4,0,1,5,6,7,8,9,10,11,12] t
 have y:=yd [_,_,_] _ v
 have z:=ye [3,4,5,6,7,8,9,10,0,1,2] y
 have A:=yn (p:=Vk.ok k) (yd [_,_,_,_,_,_,_,_] _ z) U
 exact⟨rfl,(cE k.K (k.gJ T (gX k.K u)),k.Ai T (gX k.K u)),rfl,yk A⟩
theorem M3(c:WC)(b a:Nat)(s:WW)(cs:List Value)(w:World)(g:Own (Z2 b ((.pointer (some ⟨a,0,none⟩)) :: cs) c a s) w)(id:Int)(h:s.u.t.cnt id=0):CR ya 57 (pJ b id) w (fun r w' => r = .bool true/\fP (Z2 b ((.pointer (some ⟨a,0,none⟩)) :: cs) c a s) w w' (Z2 b ((.pointer (some ⟨a,0,none⟩)) :: cs) c a s)) :=
 CR.mono (UZ c b a s cs w g id) fun r w' ⟨B,d,e,f⟩=>⟨by rw[d,e.2 h],f⟩
theorem UY(c:WC)(b a:Nat)(s:WW)(cs:List Value)(w:World)(g:Own (Z2 b ((.pointer (some ⟨a,0,none⟩)) :: cs) c a s) w)(id:Int)(i:s.u.t.cnt id≠0):CR ya 57 (pJ b id) w (fun r w' => r = .bool false/\fP (Z2 b ((.pointer (some ⟨a,0,none⟩)) :: cs) c a s) w w' (Z2 b ((.pointer (some ⟨a,0,none⟩)) :: cs) c a s)) :=
 CR.mono (UZ c b a s cs w g id) fun r w' ⟨B,d,e,f⟩=>⟨by rw[d,Bool.eq_false_iff.2 (fun h=>i (e.1 h))],f⟩
theorem ahk(c:WC)(j C:Nat)(s:WW)(w:World)(F:Own (Z7 j C c s) w)(ag:c.de<=12)(u T:Int)(hu:s.u.t.cnt u=0) :
 CR ya 25 (NI j u T) w (fun r w' => ∃ (k:Vk) (x:Int×Nat),r = .tuple (VC x.1 x.2)/\(Vk.of s k/\x=(cE k.K (k.gJ T (gX k.K u)),k.Ai T (gX k.K u)))/\fP (Z7 j C c s) w w' (I8 j C (Vr s) k k.K.length c s)):=by
 refine ja func25 F 2 fun af=>?_
 refine gN af (fun b P Q R q=>?_)
 refine gN q (fun d S U V y=>?_)
 refine ir y (fun W z X Y f=>?_)
 refine cH f 7 ?_
 refine gF 3 f (uq j C _ z ·) fun A h=>?_
 have B:=ye [3,4,0,1,2] h
 refine cH h 11 ?_
 refine gy (M3 c j C s _ A · u hu) B fun Z l=>cH l 8 ?_
 refine ir l (fun e D aa ab m=>?_)
 refine cH m 5 ?_
 refine kW (vf:=[]) (vc:=(vC b d e)) rfl rfl rfl ?_
 have E:=ye [5,4,0,1,2,3] m
 have G:=yd [_,_,_] _ E
 have H:=ye [1,2,0,3] G
 have n:=yd [_,_,_] _ H
 refine cl (Va c j C s D (VE b u d T e) (fun x:Int×Nat=>fN (NO b u d T e x.1 x.2)) (fun k x=>x=(cE k.K (k.gJ T (gX k.K u)),k.Ai T (gX k.K u))) 59 (vC b d e) eN (fun k w1 ae F=>Xv b d e u T k w1 F (ae.mem hu)) (yg n 0 rfl) ag) ?_
 rintro _ ac ⟨I,a,rfl,J,L⟩
 have M:=(yw n L)
 have N:=ye [3,0,1,2,4] M
 have p:=yp N
 refine cH p 5 ?_
 refine iS 6 p (fun ad g=>?_)
 refine fK g 4 ?_
 refine o5 (v:=(NL a.1 a.2)) (v' := Zc) results25 (oI (cs:=(Bj a.1 a.2)) rfl HW rfl Av rfl (mL g (i:=6) (o:=0) (vs:=(Bj a.1 a.2)) rfl rfl)) (qm rfl) ?_
 have O:=ye [3,4,5] g
 exact⟨I,a,rfl,J,yk O⟩
theorem UX(c:WC)(m d:Nat)(s:WW)(cs:List Value)(w:World)(r:Own (Z2 m ((.pointer (some ⟨d,0,none⟩)) :: cs) c d s) w)(u T:Int)(I:s.u.t.cnt u≠0) :
 CQ ya 25 (NI m u T) w (.tuple #[.agg IB,.int .i64 13]) (Z2 m ((.pointer (some ⟨d,0,none⟩)) :: cs) c d s):=by
 refine ja func25 r 2 fun F=>?_
 refine gN F (fun n p q x g=>?_)
 refine gN g (fun y z A B h=>?_)
 refine ir h (fun C j D E a=>?_)
 refine cH a 7 ?_
 refine gF 3 a (uq m d _ j ·) fun k b=>?_
 have l:=ye [3,4,0,1,2] b
 refine cH b 11 ?_
 refine gy (UY c m d s _ k · u I) l fun G e=>cH e 6 ?_
 refine iL (pvs:=[]) (v:=.agg IB) rfl rfl (i6 [] Av S3 rfl trivial rfl) (jI e 6 fun H f=>?_)
 refine o5 (v:=(.agg IB)) (v' := E3) results25 (oI (cs:=[Z6,Zc]) rfl HW rfl Av rfl (mL f (i:=2) (o:=0) (vs:=[Z6,Zc]) rfl rfl)) (qm rfl) ?_
 exact⟨rfl,yk f⟩
theorem Own.still{R:fJ}{w:World}(h:Own R w)(hc:gE [] w w'):fP R w w' R:=yj (lI (yy h) hc) za
def Vk.mm(k:Vk)(u v:Nat)(x:Int×Bool):Prop:=(u=v->x.1 = -9223372036854775808/\x.2=true) /\
 (u≠v->∃ z,tG (fO k.es k.K.length k.q.f).p u v z x.2/\(x.2=true->x.1=cE (fO k.es k.K.length k.q.f).h z)/\(x.2=false->x.1=0))
theorem ab3(k:Vk)(w:World)(a:Own (tO k k.K.length) w)(f:k.K.length<=4096)(e:(kE o).holds w)(u v:Nat)(g:u<k.K.length)(hv:v<k.K.length) :
 CR ya 63 (Zv k.mb u v) w (fun r w' => ∃ (z:Int) (y:Bool),r = .tuple (qG z y)/\k.mm u v (z,y)/\fP (tO k k.K.length) w w' (tO k k.K.length)) :=
 CR.mono (ab4 k.mb k.K.length k.es k.q w (vw.of a) f e u v g hv) fun r w' ⟨z,y,b,c,d⟩=>⟨z,y,b,c,Own.still a d⟩
theorem ach(F L M q:Nat)(a a2:Int)(k:Vk)(w:World)(O:Own (OD k F a L a2 M q (kE o)) w)(P:a∈k.K)(Q:a2∈k.K) :
 CR ya 62 #[(Ja k k.K.length),(Zb F),(Zb L),(Zb M),(Zb q)] w (fun r w' => r = .tuple #[]/\∃ x:Int×Bool,k.mm (gX k.K a) (gX k.K a2) x/\fP (OD k F a L a2 M q (kE o)) w w' (fN [Vk.R k,(fN (NQ F a L a2 M x.1 q x.2 (kE o)))])):=by
 refine gj func62 ?_
 have N:=Own.of O
 have l:=qT N
 have V:=l.n
 have U:=(j7 N).unpack
 have g:=ye [8,0,1,2,3,4,5,6,7] U
 have e:=yp g
 have S:=(zY l.kN P).1
 have T:=(zY l.kN Q).1
 refine fM e 2 ?_
 refine gN e (fun D E G H f=>?_)
 refine fZ f 2 ?_
 refine jS mixed [([0,1,2,3,4,6,7,8,5],[1,7,8]),([9],[1])] [10,11,12,13,14,15] f (fun h c=>iY ?_)
 refine cH c 8 ?_
 refine ig c (DV k.iv k.K a h (Sl.any (yv c 6 rfl)) l.kN o_) fun j d=>fK d 1 ?_
 refine jF (iY ?_)
 refine ig d (DV k.iv k.K a2 j (Sl.any (yv d 6 rfl)) l.kN o_) fun m b=>fK b 1 ?_
 refine jF (jX ?_)
 refine cl (ab3 k m (yg b 13 rfl) o_ (nV b (i:=5) rfl) (gX k.K a) (gX k.K a2) S T) ?_
 rintro _ I ⟨s,t,rfl,u,ht⟩
 have v:=yt 13 b ht
 refine jI v 6 fun J y=>?_
 refine lZ results62 ?_
 have z:=ye [1,2,3,4,5,0,6,7,8,9,10,11,12,13] y
 have A:=yd [_,_,_,_,_] _ z
 have B:=ye [2,3,4,5,6,7,8,9,0,1] A
 have C:=yn (p:=Vk.ok k) (yd [_,_,_,_,_,_,_,_] _ B) l
 exact⟨rfl,(s,t),u,yk C⟩
theorem ahq(c:WC)(l n:Nat)(s:WW)(k:Vk)(F:Vk.of s k)(b:Int)(w:World)(G:Own (sK l n (Vr s) k k.K.length b c s (kE o)) w)(a a2:Int)(H:s.u.t.cnt a=0)(T:s.u.t.cnt a2=0) :
 CR ya 26 (Iy l a a2) w (fun r w' => ∃ (x:Int×Bool),r = .tuple #[.int .i64 x.1,.bool x.2,.int .i64 0]/\k.mm (gX k.K a) (gX k.K a2) x/\fP (sK l n (Vr s) k k.K.length b c s (kE o)) w w' (sK l n (Vr s) k k.K.length b c s (kE o))):=by
 refine ja func26 G 2 fun ai=>?_
 refine gN ai (fun d V W X A=>?_)
 refine gN A (fun e B Y Z h=>?_)
 refine cH h 9 ?_
 refine gF 2 h (uq l n _ B ·) fun C j=>?_
 have D:=ye [2,4,0,1,3,5] j
 refine cH j 11 ?_
 refine gy (M3 c l n s _ C · a H) D fun E m=>cH m 4 ?_
 refine gy (M3 c l n s _ E · a2 T) m fun aa p=>cH p 9 ?_
 refine ir p (fun f ab ac ad q=>?_)
 refine cH q 4 ?_
 refine ir q (fun g I ae af y=>?_)
 refine cH y 5 ?_
 refine kW (vf:=[]) (vc:=(C0 d e f g)) rfl rfl rfl ?_
 have J:=ye [5,4,1,0,7,2,3,6] y
 have L:=yd [_,_,_,_,_] _ J
 have M:=ye [1,3,2,0] L
 have z:=yd [_,_,_,_] _ M
 refine cl (HN c l n s I (VF d a e a2 f g (kE o)) (fun x:Int×Bool=>fN (NQ d a e a2 f x.1 g x.2 (kE o))) (fun k x=>k.mm (gX k.K a) (gX k.K a2) x) 62 (C0 d e f g) eN (fun k w1 F G=>ach d e f g a a2 k w1 G (F.mem H) (F.mem T)) k F b (yg z 0 rfl)) ?_
 rintro _ ag ⟨i,rfl,N,O⟩
 have P:=(yw z O)
 have Q:=ye [3,0,1,2] P
 have R:=yp Q
 refine jI R 12 fun ah S=>?_
 refine r0 (v:=(Za i.1)) (v' := (.bool i.2)) (v'' := Zc) results26 rfl rfl rfl ?_
 have U:=ye [5,6,7,4] S
 exact⟨i,rfl,N,yk U⟩
structure lB where
 a:Int
 b:Int
instance:Inhabited lB:=⟨⟨0,0⟩⟩
def lB.cells(x:lB):List Value:=[.int .u64 x.a,.int .u64 x.b]
abbrev Vk.mg(k:Vk):List Mg:=pR k.es k.K.length k.f k.f.length
def Vk.mI(k:Vk)(j:Nat):List lB:=(k.mg.take j).map fun m=>⟨cE k.K m.a,cE k.K m.b⟩
def Vk.mH(k:Vk)(j:Nat):List Int:=(k.mg.take j).map Mg.h
abbrev OE a (b:Nat) c (d:Nat) e f g:=(fN [Vk.R a,fN [blk b 81 [c],blk d 78 [e],cL lB.cells c 128 2 f,cL fQ e 2 1 g]]:fJ)
abbrev OF(a b:Nat)(c:Int)(d:Vk)(e f:Int) g h i j k l:=(fN [blk a 108 [.pointer (some ⟨b,0,none⟩),.bool true,.int .u64 c,d.iv,.int .i64 e,d.lv,d.rv,d.pv,d.hv,d.sv,.pointer (some ⟨d.cb,0,none⟩),.pointer (some ⟨d.mb,0,none⟩),.int .i64 f],Vk.R d,WW.R g b h,cL lB.cells i 128 2 j,cL fQ k 2 1 l]:fJ)
abbrev Dd(a:Nat) b (c:Nat) d e f g h (i:Nat) j (k:Nat) l m n o p (q r:Nat) s (t:nJ) u v x:=([blk a 81 [b],blk c 78 [d],cL lB.cells b 128 2 e,cL fQ d 2 1 f,cL Mg.cells g 158 5 h,blk i 106 (Dr j k l m n o p q r),cL iB j 39 1 s,cL fQ l 3 1 t.l,cL fQ m 3 1 t.r,cL fQ n 3 1 t.p,cL fQ o 2 1 t.h,cL fL p 3 1 t.s,Cv.R q k u v,Mf.R r k u x]:List fJ)
abbrev N9 a (b:Nat) (c d e f:Int) (g:Nat) h (i:Nat) j k l m n o (p:Nat) q (r:Nat) s t u v x (y z:Nat) aa (ab:nJ) ac ad ae:=([a,blk b 158 (Dp c d e f),blk g 81 [h],blk i 78 [j],cL lB.cells k 128 2 l,cL fQ j 2 1 m,cL Mg.cells n 158 5 o,blk p 106 (Dr q r s t u v x y z),cL iB q 39 1 aa,cL fQ s 3 1 ab.l,cL fQ t 3 1 ab.r,cL fQ u 3 1 ab.p,cL fQ v 2 1 ab.h,cL fL x 3 1 ab.s,Cv.R y r ac ad,Mf.R z r ac ae]:List fJ)
abbrev NZ(a:Nat) b (c:Nat) (d e f g:Int) (h:Nat) i (j:Nat) k l m n o p (q:Nat) r (s:Nat) t u v x y (z A:Nat) ab (w:nJ) ad ae af:=([iD .i64 (Zu a) 2 b,blk c 158 (Dp d e f g),blk h 81 [i],blk j 78 [k],cL lB.cells i 128 2 l,cL fQ m 2 1 n,cL Mg.cells o 158 5 p,blk q 106 (Dr r s t u v x y z A),cL iB r 39 1 ab,cL fQ t 3 1 w.l,cL fQ u 3 1 w.r,cL fQ v 3 1 w.p,cL fQ x 2 1 w.h,cL fL y 3 1 w.s,Cv.R z s ad ae,Mf.R A s ad af]:List fJ)
theorem Vk.ab6(h:iN k.es k.K.length k.f){i:Nat}(hi:i<k.f.length):(cE k.mg i).a<k.K.length/\(cE k.mg i).b<k.K.length:=by
 rw[iW (show k.mg[i]? = some (K9 k.es k.K.length k.f i) by show ((List.range k.f.length).map _)[i]? = _;simp[hi])]
 have:=h.st hi
 show nA _ _ _ _<_/\nB _ _ _ _<_
 omega
theorem Vk.abU(h:j<k.mg.length):k.mI (j+1)=k.mI j++[⟨cE k.K (cE k.mg j).a,cE k.K (cE k.mg j).b⟩]:=Cj _ h
theorem Vk.abS(h:j<k.mg.length):k.mH (j+1)=k.mH j++[(cE k.mg j).h]:=Cj _ h
theorem Vk.abT:(k.mI j).length<=j:=by simp[Vk.mI];omega
theorem Vk.abR:(k.mH j).length<=j:=by simp[Vk.mH];omega
theorem R4(b2 tb:Nat)(k:Vk)(w:World)(hO:Own (I7 k b2 tb) w) :
 CR ya 69 (Iz k k.K.length b2 tb) w (fun r w' => r = .tuple #[]/\∃ x:Value×Value×List lB×List Int,(x.2.2.1=k.mI k.mg.length/\x.2.2.2=k.mH k.mg.length)/\fP (I7 k b2 tb) w w' (OE k b2 x.1 tb x.2.1 x.2.2.1 x.2.2.2)):=by
 refine enter (vs:=[(Ja k k.K.length),(Zb b2),(Zb tb)]) func69 rfl ntmps69 rfl ?_
 have aI:St _ [Vk.R k,(Fv b2 tb)] w:=Own.of hO
 have T:=qT aI
 have aR:=T.n
 have aL:St _ [cL iB k.iv 39 1 k.K,cL fQ k.lv 3 1 ((fO k.es k.K.length k.f).l),cL fQ k.rv 3 1 ((fO k.es k.K.length k.f).r),cL fQ k.pv 3 1 ((fO k.es k.K.length k.f).p),cL fQ k.hv 2 1 ((fO k.es k.K.length k.f).h),cL fL k.sv 3 1 ((fO k.es k.K.length k.f).s),(wN k k.K.length),(tO k k.K.length),(Fv b2 tb)] w:=(j7 aI).unpack
 have S:=ye [8,0,1,2,3,4,5,6,7] aL
 have M:St _ [blk b2 81 Z4,blk tb 78 Z4,cL iB k.iv 39 1 k.K,cL fQ k.lv 3 1 ((fO k.es k.K.length k.f).l),cL fQ k.rv 3 1 ((fO k.es k.K.length k.f).r),cL fQ k.pv 3 1 ((fO k.es k.K.length k.f).p),cL fQ k.hv 2 1 ((fO k.es k.K.length k.f).h),cL fL k.sv 3 1 ((fO k.es k.K.length k.f).s),(wN k k.K.length),(tO k k.K.length)] w:=yp S
 have aK:k.mg.length=k.f.length:=R7
 have aO:=T.fg.f.room T.fg.g
 refine fM M 2 ?_
 refine gN M (fun e U am an t=>?_)
 refine cH t 6 ?_
 refine jG (vl:=(Fi k.K.length k.lv k.rv k.pv k.hv k.sv)) rfl rfl eN (Ye k.es k.K.length k.f T.fg o_ k.lv k.rv k.pv k.hv k.sv U ⟨(qv t (i:=4) rfl f_).any,(qv t (i:=5) rfl f_).any,(qv t (i:=6) rfl f_).any,(qv t (i:=7) rfl f_).any,(qv t (i:=8) rfl f_).any⟩) ?_
 rintro _ D ⟨d,rfl,ht⟩
 have A:St _ [cL Mg.cells d 158 5 k.mg,blk e 106 (tM k k.K.length),blk b2 81 Z4,blk tb 78 Z4,cL iB k.iv 39 1 k.K,cL fQ k.lv 3 1 ((fO k.es k.K.length k.f).l),cL fQ k.rv 3 1 ((fO k.es k.K.length k.f).r),cL fQ k.pv 3 1 ((fO k.es k.K.length k.f).p),cL fQ k.hv 2 1 ((fO k.es k.K.length k.f).h),cL fL k.sv 3 1 ((fO k.es k.K.length k.f).s),(wN k k.K.length),(tO k k.K.length)] D:=(y9 (R:=cL Mg.cells d 158 5 k.mg) t ht)
 refine cH A 10 ?_
 refine iA (m:=k.mg.length) 0 rfl rfl HP A rfl ?_
 have V:=nU A 128 2
 have W:=nU V 2 1
 have X:=ye [4,5,1,0,2,3,6,7,8,9,10,11,12,13] W
 refine fZ A 4 ?_
 refine lp (α:=Nat×Value×Value) (fun(i,F,hv)=>[(1,(Zb b2)),(2,(Zb tb)),(3,(Zb e)),(14,d),(15,(Za k.mg.length)),(16,(Za i))]) (fun(i,F,hv) w1=>St [(w,(I7 k b2 tb).gq)] (Dd b2 F tb hv (k.mI i) (k.mH i) d k.mg e k.iv k.K.length k.lv k.rv k.pv k.hv k.sv k.cb k.mb k.K (fO k.es k.K.length k.f) k.es k.c k.q) w1/\i<=k.mg.length) (fun(i,F,hv)=>k.mg.length-i) (0,Zh,Zh) oh (⟨X,o_⟩) ?_
 rintro⟨i,F,hv⟩ ao B ⟨aF,hi⟩
 have aQ:=Vk.abT (k:=k) (j:=i)
 have aP:=Vk.abR (k:=k) (j:=i)
 refine fM aF 2 ?_
 by_cases ap:(i:Int)<(k.mg.length:Int)
 . have aJ:i<k.f.length:=by have h7:=aK;omega
   have aG:=Vk.ab6 T.fg aJ
   have aM:=aG.1
   have aN:=aG.2
   refine cH aF 13 ?_
   refine ir aF (fun y aq ar au Y=>?_)
   refine r7 Y 4 fun aw Z=>?_
   refine jS mixed [([0,1,2,3,4,5,6,7,8,9,10,11,12,13,14],[0])] [15,16] Z (fun ax N=>iY ?_)
   refine cH N 13 ?_
   refine iL (pvs:=[(0,(Zo (cE k.K ((cE k.mg i).a)))),(1,(Zo (cE k.K ((cE k.mg i).b))))]) (v:=.agg (vA (cE k.K ((cE k.mg i).a)) (cE k.K ((cE k.mg i).b)))) rfl rfl (uN [(0,(Zw (cE k.K ((cE k.mg i).a)))),(1,(Zw (cE k.K ((cE k.mg i).b))))] vi y8 jm rfl oh rfl s_) (jB (vs:=[(I9 (cE k.K ((cE k.mg i).a)) (cE k.K ((cE k.mg i).b)))]) (cs:=[(Zo (cE k.K ((cE k.mg i).a))),(Zo (cE k.K ((cE k.mg i).b)))]) rfl rfl AH vi rfl (by simp[Value.cells]) rfl rfl rfl N ?_)
   intro E aa ay az z
   have z:St _ [row (Zu E) 128 2 1 ([(Zo (cE k.K ((cE k.mg i).a))),(Zo (cE k.K ((cE k.mg i).b)))]),blk y 158 (Dp ((cE k.mg i).a:Int) ((cE k.mg i).b:Int) ((cE k.mg i).h) ((cE k.mg i).s:Int)),blk b2 81 [F],blk tb 78 [hv],cL lB.cells F 128 2 (k.mI i),cL fQ hv 2 1 (k.mH i),cL Mg.cells d 158 5 k.mg,blk e 106 (tM k k.K.length),cL iB k.iv 39 1 k.K,cL fQ k.lv 3 1 ((fO k.es k.K.length k.f).l),cL fQ k.rv 3 1 ((fO k.es k.K.length k.f).r),cL fQ k.pv 3 1 ((fO k.es k.K.length k.f).p),cL fQ k.hv 2 1 ((fO k.es k.K.length k.f).h),cL fL k.sv 3 1 ((fO k.es k.K.length k.f).s),(wN k k.K.length),(tO k k.K.length)] aa:=z
   refine fK z 1 ?_
   refine jF (jX ?_)
   refine kR (cf:=lB.cells) (ys:=(k.mI i)) (zs:=[(⟨(cE k.K ((cE k.mg i).a)),(cE k.K ((cE k.mg i).b))⟩:lB)]) (LL:=fun o=>(N9 (row (.slice (some ⟨E,0,none⟩) 1 1) 128 2 1 ([(.int .u64 (cE k.K ((cE k.mg i).a))),(.int .u64 (cE k.K ((cE k.mg i).b)))])) y ((cE k.mg i).a:Int) ((cE k.mg i).b:Int) ((cE k.mg i).h) ((cE k.mg i).s:Int) b2 F tb hv o ((k.mI i)++[(⟨(cE k.K ((cE k.mg i).a)),(cE k.K ((cE k.mg i).b))⟩:lB)]) (k.mH i) d k.mg e k.iv k.K.length k.lv k.rv k.pv k.hv k.sv k.cb k.mb k.K (fO k.es k.K.length k.f) k.es k.c k.q)) 4 rfl rfl rfl AH vi rfl d_ z rfl (kG z (i:=0) rfl) (fun x hx=>zr.1 (show List.all _ _=true from rfl) x hx) (by simp only[zb,zd,maxLen];omega) (by simp only[zb,zd,maxLen];omega) f_ ?_
   intro o ab G aA
   have G:St _ (N9 (row (.slice (some ⟨E,0,none⟩) 1 1) 128 2 1 ([(.int .u64 (cE k.K ((cE k.mg i).a))),(.int .u64 (cE k.K ((cE k.mg i).b)))])) y ((cE k.mg i).a:Int) ((cE k.mg i).b:Int) ((cE k.mg i).h) ((cE k.mg i).s:Int) b2 F tb hv o ((k.mI i)++[(⟨(cE k.K ((cE k.mg i).a)),(cE k.K ((cE k.mg i).b))⟩:lB)]) (k.mH i) d k.mg e k.iv k.K.length k.lv k.rv k.pv k.hv k.sv k.cb k.mb k.K (fO k.es k.K.length k.f) k.es k.c k.q) ab:=G
   have H:=ye [1,2,3,4,5,6,7,8,9,10,11,12,13,14,15] G
   refine iS 1 H (fun aB O=>?_) (hvs:=(cells_one (yh H (i:=3) rfl))) (h1:=(gD (yh H (i:=3) rfl) je))
   refine cH O 7 ?_
   refine jB (vs:=(Zd ((cE k.mg i).h))) (cs:=(Zd ((cE k.mg i).h))) rfl rfl yr ti2 rfl (by simp[Value.cells]) rfl rfl rfl O ?_
   intro I ac aC aD C
   have C:St _ [iD .i64 (Zu I) 2 ([(cE k.mg i).h]),blk y 158 (Dp ((cE k.mg i).a:Int) ((cE k.mg i).b:Int) ((cE k.mg i).h) ((cE k.mg i).s:Int)),blk b2 81 [o],blk tb 78 [hv],cL lB.cells o 128 2 ((k.mI i)++[(⟨(cE k.K ((cE k.mg i).a)),(cE k.K ((cE k.mg i).b))⟩:lB)]),cL fQ hv 2 1 (k.mH i),cL Mg.cells d 158 5 k.mg,blk e 106 (tM k k.K.length),cL iB k.iv 39 1 k.K,cL fQ k.lv 3 1 ((fO k.es k.K.length k.f).l),cL fQ k.rv 3 1 ((fO k.es k.K.length k.f).r),cL fQ k.pv 3 1 ((fO k.es k.K.length k.f).p),cL fQ k.hv 2 1 ((fO k.es k.K.length k.f).h),cL fL k.sv 3 1 ((fO k.es k.K.length k.f).s),(wN k k.K.length),(tO k k.K.length)] ac:=C
   refine kR (cf:=fQ) (ys:=(k.mH i)) (zs:=[(cE k.mg i).h]) (LL:=fun u=>(NZ I ([(cE k.mg i).h]) y ((cE k.mg i).a:Int) ((cE k.mg i).b:Int) ((cE k.mg i).h) ((cE k.mg i).s:Int) b2 o tb hv ((k.mI i)++[(⟨(cE k.K ((cE k.mg i).a)),(cE k.K ((cE k.mg i).b))⟩:lB)]) u ((k.mH i)++[(cE k.mg i).h]) d k.mg e k.iv k.K.length k.lv k.rv k.pv k.hv k.sv k.cb k.mb k.K (fO k.es k.K.length k.f) k.es k.c k.q)) 5 rfl rfl rfl yr ti2 rfl d_ C rfl (kG C (i:=0) rfl) (fun x hx=>zr.1 (show List.all _ _=true from rfl) x hx) (by simp only[zb,zd,maxLen];omega) (by simp only[zb,zd,maxLen];omega) f_ ?_
   intro u ad J aE
   have J:St _ (NZ I ([(cE k.mg i).h]) y ((cE k.mg i).a:Int) ((cE k.mg i).b:Int) ((cE k.mg i).h) ((cE k.mg i).s:Int) b2 o tb hv ((k.mI i)++[(⟨(cE k.K ((cE k.mg i).a)),(cE k.K ((cE k.mg i).b))⟩:lB)]) u ((k.mH i)++[(cE k.mg i).h]) d k.mg e k.iv k.K.length k.lv k.rv k.pv k.hv k.sv k.cb k.mb k.K (fO k.es k.K.length k.f) k.es k.c k.q) ad:=J
   have L:=ye [1,2,3,4,5,6,7,8,9,10,11,12,13,14,15] J
   refine iS 2 L (fun P Q=>?_) (hvs:=(cells_one (yh L (i:=4) rfl))) (h1:=(gD (yh L (i:=4) rfl) je))
   refine fK Q 7 ?_
   have ae:=ye [1,2,3,4,5,6,7,8,9,10,11,12,13,14] Q
   have af:St _ (Dd b2 o tb u (k.mI (i+1)) ((k.mH i)++[(cE k.mg i).h]) d k.mg e k.iv k.K.length k.lv k.rv k.pv k.hv k.sv k.cb k.mb k.K (fO k.es k.K.length k.f) k.es k.c k.q) P:=y0 2 ae rfl ((Vk.abU o_).symm)
   have ag:St _ (Dd b2 o tb u (k.mI (i+1)) (k.mH (i+1)) d k.mg e k.iv k.K.length k.lv k.rv k.pv k.hv k.sv k.cb k.mb k.K (fO k.es k.K.length k.f) k.es k.c k.q) P:=y0 3 af rfl ((Vk.abS o_).symm)
   exact gM ((i+1),o,u) oh (⟨ag,o_⟩) o1
 . refine jU aF 9 ?_
   have aH:i=k.mg.length:=by omega
   have ah:St _ (Dd b2 F tb hv (k.mI k.mg.length) (k.mH i) d k.mg e k.iv k.K.length k.lv k.rv k.pv k.hv k.sv k.cb k.mb k.K (fO k.es k.K.length k.f) k.es k.c k.q) B:=y0 2 aF rfl (congrArg k.mI aH)
   have ai:St _ (Dd b2 F tb hv (k.mI k.mg.length) (k.mH k.mg.length) d k.mg e k.iv k.K.length k.lv k.rv k.pv k.hv k.sv k.cb k.mb k.K (fO k.es k.K.length k.f) k.es k.c k.q) B:=y0 3 ah rfl (congrArg k.mH aH)
   have aj:St _ [(fN [blk b2 81 [F],blk tb 78 [hv],cL lB.cells F 128 2 (k.mI k.mg.length),cL fQ hv 2 1 (k.mH k.mg.length)]),cL Mg.cells d 158 5 k.mg,blk e 106 (tM k k.K.length),cL iB k.iv 39 1 k.K,cL fQ k.lv 3 1 ((fO k.es k.K.length k.f).l),cL fQ k.rv 3 1 ((fO k.es k.K.length k.f).r),cL fQ k.pv 3 1 ((fO k.es k.K.length k.f).p),cL fQ k.hv 2 1 ((fO k.es k.K.length k.f).h),cL fL k.sv 3 1 ((fO k.es k.K.length k.f).s),(wN k k.K.length),(tO k k.K.length)] B:=yd [_,_,_,_] _ ai
   have ak:=ye [3,4,5,6,7,8,9,10,0,1,2] aj
   have al:St _ [(Vk.R k),(fN [blk b2 81 [F],blk tb 78 [hv],cL lB.cells F 128 2 (k.mI k.mg.length),cL fQ hv 2 1 (k.mH k.mg.length)]),cL Mg.cells d 158 5 k.mg,blk e 106 (tM k k.K.length)] B:=yn (p:=Vk.ok k) (yd [_,_,_,_,_,_,_,_] _ ak) T
   exact⟨rfl,(F,hv,k.mI k.mg.length,k.mH k.mg.length),⟨rfl,rfl⟩,yj (R' := (OE k b2 F tb hv (k.mI k.mg.length) (k.mH k.mg.length))) (yd [_,_] _ al) za⟩
theorem M4(c:WC)(F Q:Nat)(s:WW)(k:Vk)(T:Vk.of s k)(b:Int)(w:World)(R:Own (wO F Q (Vr s) k k.K.length b c s) w) :
 CR ya 28 (Zg F) w (fun r w' => ∃ (S hv:Value),r = .tuple #[S,hv]/\fP (wO F Q (Vr s) k k.K.length b c s) w w' (OF F Q (Vr s) k k.K.length b c s S (k.mI k.mg.length) hv (k.mH k.mg.length))):=by
 refine ja func28 R 2 fun U=>?_
 refine ir U (fun a G H I p=>?_)
 refine ir p (fun d q J L j=>?_)
 refine cH j 6 ?_
 refine gF 2 j (uq F Q _ q ·) fun t l=>?_
 refine cH l 9 ?_
 refine kW (vf:=[]) (vc:=(Zy a d)) rfl rfl rfl ?_
 have u:=ye [1,0,2,3,4] l
 have y:=yd [_,_] _ u
 have z:=ye [1,2,3,0] y
 have m:=yd [_,_,_,_] _ z
 refine cl (HN c F Q s t (Fv a d) (fun x:Value×Value×List lB×List Int=>fN [blk a 81 [x.1],blk d 78 [x.2.1],cL lB.cells x.1 128 2 x.2.2.1,cL fQ x.2.1 2 1 x.2.2.2]) (fun k x=>x.2.2.1=k.mI k.mg.length/\x.2.2.2=k.mH k.mg.length) 69 (Zy a d) eN (fun k w1 T R=>R4 a d k w1 R) k T b (yg m 0 rfl)) ?_
 rintro _ M ⟨e,rfl,A,B⟩
 have C:=(yw m B)
 have D:=ye [3,0,1,2] C
 have n:=yp D
 refine fZ n 3 ?_
 refine jS mixed [([0,1,2],[1])] [3] n (fun N f=>iY ?_)
 refine cH f 2 ?_
 refine iS 0 f (fun O g=>?_) (hvs:=(cells_one (yh f (i:=2) rfl))) (h1:=(gD (yh f (i:=2) rfl) je))
 refine fK g 1 ?_
 refine jF (jX ?_)
 refine iS 1 g (fun P h=>?_) (hvs:=(cells_one (yh g (i:=3) rfl))) (h1:=(gD (yh g (i:=3) rfl) je))
 refine fK h 3 ?_
 refine o5 (v:=e.1) (v' := e.2.1) results28 (xL rfl AH rfl (mC h 0 rfl rfl)) (xL rfl yr rfl (mC h 1 rfl rfl)) ?_
 have E:=ye [4,5,6,2,3] h
 obtain⟨V,W⟩:=A
 have o:=E
 rw[V,W]at o
 exact⟨e.1,e.2.1,rfl,yk o⟩
theorem M5(c:WC)(a:Nat)(s:WW)(w:World)(h:Own (WW.R c a s) w)(x:Lv)(j:x.ok)(k:s.now<=x.t)(l:x.t<=1000000)(i:s.added<1000000)(d:s.u.gO c.de c.cQ x.u x.v=0) :
 CR ya 33 (wR a x) w (fun r w' => ∃ (s2:WW),r = .int .i64 0/\WW.Ins c s s2 x/\fP (WW.R c a s) w w' (WW.R c a s2)) :=
 CR.mono (U4 c a s w h x j k l i) fun r w' ⟨e,s2,f,b,g⟩=>⟨s2,by rw[f,b.room d],b.ins (b.room d),g⟩
theorem KZ{v w t:Int}(h:0<=u/\u<=100/\0<=v/\v<=100/\0<=w/\w<=100/\0<=t/\t<=100):Lv.ok ⟨0,0,u,v,w,t,0⟩ :=
 ⟨kZ (by show _/\_;dsimp only;omega),qc (by show _/\_;dsimp only;omega),qc (by show _/\_;dsimp only;omega),qc (by show _/\_;dsimp only;omega),kZ (by show _/\_;dsimp only;omega),kZ (by show _/\_;dsimp only;omega),kZ (by show _/\_;dsimp only;omega)⟩
def Ix(s:WW):Prop:=∀ K L es,s.u.oc K->s.u.lX L->mE K L es L.length->K=[1,2,3]/\L.length=3/\es=mU
structure Vk.wk (s:WW) (k:Vk):Prop where
 of:Vk.of s k
 K:k.K=[1,2,3]
 es:k.es=mU
theorem Vk.of.wk{s:WW}(h:Vk.of s k)(d:Ix s):Vk.wk s k:=by
 obtain⟨L,b,c⟩:=h.SN
 obtain⟨e1,e,a⟩:=d _ _ _ h.ids b c
 exact⟨h,e1,a⟩
instance:DecidableEq lB:=fun a b=>by
 cases a with|mk a1 a2=>cases b with|mk b1 b2=>exact decidable_of_iff (a1=b1/\a2=b2) s_
abbrev wI:List lB:=[⟨1,2⟩,⟨1,3⟩]
abbrev wH:List Int:=[5,7]
theorem Vk.wk.DB{s:WW}(h:Vk.wk s k)(hc:iN k.es k.K.length k.c.f):cE k.K (k.gJ 7 (gX k.K 3))=1/\k.Ai 7 (gX k.K 3)=3:=by
 obtain⟨_,d,e⟩:=h
 unfold Vk.gJ Vk.Ai Vk.top
 revert hc
 rw[d,e]
 intro hc
 obtain⟨a,b⟩:=Vm hc
 obtain⟨a,b⟩:=Vm (f:=k.c.f) hc
 rw[show gX [1,2,3] 3=2 by decide]
 refine⟨?_,b⟩
 show cE [1,2,3] (Go.Sx.gJ mU 3 k.c.f (jK (fO mU 3 k.c.f).p (fO mU 3 k.c.f).h 7 2))=1
 rw[a]
 rfl
theorem Vk.wk.mmx{s:WW}(h:Vk.wk s k)(hc:iN k.es k.K.length k.q.f){x:Int×Bool}(c:k.mm (gX k.K 1) (gX k.K 3) x):x=(7,true):=by
 obtain⟨_,l,m⟩:=h
 unfold Vk.mm at c
 revert hc c
 rw[l,m]
 intro hc c
 obtain⟨z,e,i,n⟩:=c.2 d_
 rw[show gX [1,2,3] 1=0 by decide,show gX [1,2,3] 3=2 by decide]at e
 obtain⟨d,j⟩:=ahY hc e
 have g:=(i d).trans j
 obtain⟨a,b⟩:=x
 simp only at d g
 rw[d,g]
theorem Vk.wk.mg{s:WW}(h:Vk.wk s k)(hc:iN k.es k.K.length k.f):k.mI k.mg.length=wI/\k.mH k.mg.length=wH:=by
 obtain⟨_,b,c⟩:=h
 unfold Vk.mI Vk.mH Vk.mg
 revert hc
 rw[b,c]
 intro hc
 obtain⟨a,d⟩:=ahX hc
 rw[a]
 exact⟨d_,d_⟩
theorem Vk.parts{w:World}(h:Own (Vk.R k) w):k.ok/\iN k.es k.K.length k.c.f/\iN k.es k.K.length k.q.f:=by
 have a:=Own.of h.un
 exact⟨h.fact,(j6 a (i:=6) rfl),(j6 a (i:=7) rfl)⟩
theorem ahz(c:WC)(a b:Nat)(s:WW)(w:World)(m:Own (Z7 a b c s) w)(o:c.de<=12)(l:Ix s)(n:s.u.t.cnt 3=0):CR ya 25 #[(Zb a),.int .u64 3,.int .i64 7] w (fun r w' => ∃ (k:Vk),r = .tuple #[.agg #[.int .u64 1,.int .i64 3],.int .i64 0]/\Vk.wk s k/\fP (Z7 a b c s) w w' (I8 a b (Vr s) k k.K.length c s)) :=
 CR.mono (ahk c a b s w m o 3 7 n) fun r w' ⟨k,x,h,⟨j,d⟩,e⟩=>by
  have f:=j.wk l
  obtain⟨e1,g⟩:=f.DB (Vk.parts (lq (Own.of e.own) (i:=1) rfl)).2.1
  rw[e1,g]at d
  subst d
  exact⟨k,h,f,e⟩
theorem ahM(c:WC)(a d:Nat)(s:WW)(k:Vk)(l:Vk.of s k)(b:Int)(w:World)(f:Own (sK a d (Vr s) k k.K.length b c s (kE o)) w)(hk:Vk.wk s k)(m:s.u.t.cnt 1=0)(n:s.u.t.cnt 3=0):CR ya 26 #[(Zb a),.int .u64 1,.int .u64 3] w (fun r w' => r = .tuple #[.int .i64 7,.bool true,.int .i64 0]/\fP (sK a d (Vr s) k k.K.length b c s (kE o)) w w' (sK a d (Vr s) k k.K.length b c s (kE o))) :=
 CR.mono (ahq c a d s k l b w f 1 3 m n) fun r w' ⟨x,g,h,j⟩=>by
  have e:=hk.mmx (Vk.parts (lq (Own.of f) (i:=1) rfl)).2.2 h
  subst e
  exact⟨g,j⟩
theorem ahL(c:WC)(a f:Nat)(s:WW)(k:Vk)(l:Vk.of s k)(b:Int)(w:World)(h:Own (wO a f (Vr s) k k.K.length b c s) w)(hk:Vk.wk s k):CR ya 28 (Zg a) w (fun r w' => ∃ (d hv:Value),r = .tuple #[d,hv]/\fP (wO a f (Vr s) k k.K.length b c s) w w' (OF a f (Vr s) k k.K.length b c s d wI hv wH)) :=
 CR.mono (M4 c a f s k l b w h) fun r w' ⟨d,hv,j,g⟩=>by
  have e:=hk.mg (Vk.parts (lq (Own.of h) (i:=1) rfl)).1.fg
  rw[e.1,e.2]at g
  exact⟨d,hv,j,g⟩
theorem HL(d e:Nat)(k:Vk)(b T:Int)(w:World)(g:Own (NK d e T k k.K.length b) w) :
 CQ ya 16 (Zg d) w (.int .i64 b) (NK d e T k k.K.length b):=by
 refine gj func16 ?_
 have f:=yy g
 refine fM f 9 ?_
 refine gF 0 f (uq d e _ w ·) fun c a=>?_
 refine gm a 16 (Za b) ?_
 exact⟨rfl,iM a⟩
end Go.Proofs.YtedjjkcihkmjgaaGreatDoor
