/- What the functions that the statements reach do: walks through the code of the program and of the references, one theorem a function; under what is said of its arguments. -/
import Derived.Test.YtoceanggliccgaaGreatDoorFb
import Derived.Test.YtoceanggliccgaaGreatDoorVa
import Derived.Test.YtoceanggliccgaaGreatDoorFd
import Derived.Test.YtoceanggliccgaaGreatDoorVb
import Derived.Test.YtoceanggliccgaaGreatDoorFc
import Derived.Ground.Names2Prog
import Derived.Shelf.Slices.Delete
set_option linter.unusedVariables false
set_option linter.unusedSimpArgs false
set_option maxRecDepth 100000
set_option maxHeartbeats 4000000
namespace Go.Proofs.YtoceanggliccgaaGreatDoor
section
open Go Go.Sx
theorem Qv(x y:Int)(w:World) :
 CR ya 142 (vq x y) w (fun r w' => r = .bool (decide (x<y))/\gx [] w w'):=by
 refine en Tryz.func142 Tryz.ntmps142 ?_
 have e:=yt w
 refine fS e 8 ?_
 refine cl WV (abA x w) ?_
 rintro _ c ⟨rfl,b⟩
 have a:=yq e b
 refine fK a 8 ?_
 by_cases d:(x:Int)<(y:Int)
 . refine fQ a 6 ?_
   refine gq (v:=Zf) Tryz.results142 rfl ?_
   exact⟨congrArg Value.bool (decide_eq_true o_).symm,a.gz s_⟩
 . refine fQ a 6 ?_
   refine gq (v:=Zp) Tryz.results142 rfl ?_
   exact⟨congrArg Value.bool (decide_eq_false o_).symm,a.gz s_⟩
theorem aac(v:Value)(xs:List Int)(w:World)(J:Own (rE v xs) w)(M:xs.length<=1000000) :
 CR ya 258 #[v,Zc,(Za xs.length)] w (fun r w' => ∃ ys:List Int,r = .tuple #[]/\(ys.Perm xs/\mQ ys ys.length)/\fZ (rE v xs) w w' (rE v ys)):=by
 refine en Tryz.func258 Tryz.ntmps258 ?_
 have H:=yp J
 refine qV H 8 ?_
 refine lp (α:=Nat×List Int) (fun(i,ys)=>[(0,v),(1,Zc),(2,(Za xs.length)),(6,(Za i))]) (fun(i,ys) w1=>St [(w,(rE v xs).gG)] [fL gW v 40 1 ys] w1/\ys.Perm xs/\mQ ys i/\1<=i) (fun(i,ys)=>xs.length+1-i) (1,xs) ⟨rfl,rfl,rfl,gm rO,trivial⟩ (⟨H,List.Perm.refl _,mQ.zero,o_⟩) ?_
 rintro⟨i,ys⟩ m n ⟨B,E,F,hi⟩
 have N:=E.length_eq
 refine fS B 5 ?_
 by_cases o:((i:Int):Int)<((xs.length:Int):Int)
 . refine gF B 15 ?_
   refine lp (α:=Nat×List Int) (fun(j,zs)=>[(0,v),(1,Zc),(2,(Za xs.length)),(6,(Za i)),(7,(Za j))]) (fun(j,zs) w1=>St [(w,(rE v xs).gG)] [fL gW v 40 1 zs] w1/\zs.Perm xs/\tc zs i j/\j<=i) (fun(j,zs)=>j) (i,ys) ⟨rfl,rfl,rfl,rfl,gm rO,trivial⟩ (⟨B,E,F.at,o_⟩) ?_
   rintro⟨j,zs⟩ s t ⟨K,D,C,G⟩
   have O:=D.length_eq
   refine oD K 5 fun h a=>?_
   by_cases u:((j:Int):Int)>(0:Int)
   . refine fK a 9 ?_
     refine iK (cf:=gW) (k:=(j-1)) (i:=(j:Int)-1) rfl rfl rfl yz jD (y8 a 0 rfl) o_ o_ (gy om) (fK a 1 ?_)
     refine cl Oq (Qv (fJ zs j) (fJ zs (j-1)) h) ?_
     rintro _ x ⟨rfl,l⟩
     have b:=yq a l
     refine gF b 3 ?_
     cases d:(decide ((fJ zs j)<(fJ zs (j-1))):Bool)
     . skip
       refine iN b 12 ?_
       refine tN (?_)
       exact again ((i+1),zs) ⟨rfl,rfl,rfl,gm rO,trivial⟩ (⟨b,D,C.done o_ G (of_decide_eq_false d),o_⟩) (by show (xs.length+1-(i+1):Nat)<xs.length+1-i;omega)
     . skip
       refine oD b 14 fun y c=>?_
       refine iK (cf:=gW) (k:=(j-1)) (i:=(j:Int)-1) rfl rfl rfl yz jD (y8 c 0 rfl) o_ o_ (gy om) (fK c 6 ?_)
       refine iO (f:=(fun _=>(fJ zs (j-1)))) 0 c (fun z e=>?_)
       refine iK (cf:=gW) (k:=(j-1)) (i:=(j:Int)-1) rfl rfl rfl yz jD (y8 e 0 rfl) o_ o_ (gy om) (iO (f:=(fun _=>(fJ zs j))) 0 e (fun A g=>?_))
       refine fQ g 8 ?_
       refine tN (?_)
       exact again ((j-1),fN (fN zs j (fun _=>(fJ zs (j-1)))) (j-1) (fun _=>(fJ zs j))) ⟨rfl,rfl,rfl,rfl,gm rO,trivial⟩ (⟨g,(SS o_ o_).trans D,C.swap o_ G o_ (of_decide_eq_true d),o_⟩) (by show ((j-1):Nat)<j;omega)
   . refine fQ a 27 ?_
     refine tN (?_)
     exact again ((i+1),zs) ⟨rfl,rfl,rfl,gm rO,trivial⟩ (⟨a,D,(by rw[show j=0 by omega]at C;exact C.N9),o_⟩) (by show (xs.length+1-(i+1):Nat)<xs.length+1-i;omega)
 . refine fQ B 8 ?_
   refine iQ Tryz.results258 ?_
   exact⟨ys,rfl,⟨E,fun p q I L=>F p q I o_⟩,yj B⟩
theorem UZ(n:Nat)(w:World)(h:n<=12) :
 CR ya 167 (xm n) w (fun r w' => ∃ z,r = .int .i64 z/\gx [] w w'):=by
 refine en Tryz.func167 Tryz.ntmps167 ?_
 have c:=yt w
 refine fS c 9 ?_
 refine cmp rfl rfl rfl (oh o_) (fK c 9 ?_)
 refine cmp rfl rfl rfl (oh o_) (fK c 9 ?_)
 refine cmp rfl rfl rfl (oh o_) (fK c 10 ?_)
 refine ZR 256 rfl rfl rfl Tryz.underlying9 rfl o_ o_ fun a b=>(fQ c 6 ?_)
 refine gq (v:=(Za (0+(a.toNat:Int)))) Tryz.results167 rfl ?_
 exact⟨0+(a.toNat:Int),rfl,c.gz s_⟩
theorem HN(n:Nat)(w:World)(h:n<=12) :
 CR ya 100 (xm n) w (fun r w' => ∃ z,r = .int .i64 z/\gx [] w w'):=by
 refine en Tryz.func100 Tryz.ntmps100 ?_
 have e:=yt w
 refine fS e 12 ?_
 refine cl WZ (UZ n w o_) ?_
 rintro _ d ⟨a,rfl,c⟩
 have b:=yq e c
 refine fQ b 4 ?_
 refine gq (v:=(Za a)) Tryz.results100 rfl ?_
 exact⟨a,rfl,b.gz s_⟩
theorem ach(v:Value)(xs:List Int)(w:World)(i:Own (rE v xs) w)(z:Int)(l:xs.length<=12) :
 CR ya 209 (Mk v xs.length z) w (fun r w' => ∃ ys:List Int,r = .tuple #[]/\(ys.Perm xs/\mQ ys ys.length)/\fZ (rE v xs) w w' (rE v ys)):=by
 refine en Tryz.func209 Tryz.ntmps209 ?_
 have h:=yp i
 refine qV h 11 ?_
 refine lp (α:=Nat) (fun k=>[(0,v),(1,Zc),(2,(Za xs.length)),(3,(Za z)),(8,Zf),(9,Zf)]) (fun k w1=>St [(w,(rE v xs).gG)] [fL gW v 40 1 xs] w1) (fun k=>0) 0 ⟨rfl,rfl,rfl,rfl,rfl,rfl,trivial⟩ h ?_
 rintro k e b g
 refine fS g 13 ?_
 refine cmp rfl rfl rfl (vN o_) (fK g 8 ?_)
 refine cl XA (aac v xs b (ye g 0 rfl) o_) ?_
 rintro _ f ⟨c,rfl,d,j⟩
 have a:=ym 0 g j
 refine fQ a 7 ?_
 refine yC Tryz.results209 ?_
 exact⟨c,rfl,d,yj a⟩
theorem aep(v:Value)(xs:List Int)(w:World)(j:Own (rE v xs) w)(k:xs.length<=12) :
 CR ya 146 #[v] w (fun r w' => ∃ ys:List Int,r = .tuple #[]/\(ys.Perm xs/\mQ ys ys.length)/\fZ (rE v xs) w w' (rE v ys)):=by
 refine en Tryz.func146 Tryz.ntmps146 ?_
 have i:=yp j
 refine fS i 3 ?_
 refine iL (m:=xs.length) 0 rfl rfl yz i rfl (fK i 8 ?_)
 refine cl Ir (HN xs.length w o_) ?_
 rintro _ c ⟨d,rfl,e⟩
 have a:=yq i e
 refine cl Xi (ach v xs c (ye a 0 rfl) d k) ?_
 rintro _ h ⟨f,rfl,g,l⟩
 have b:=ym 0 a l
 refine fQ b 1 ?_
 refine iQ Tryz.results146 ?_
 exact⟨f,rfl,g,yj b⟩
theorem abB(x:Int)(w:World) :
 CR ya 143 (xm x) w (fun r w' => r = .bool false/\gx [] w w'):=by
 refine en Tryz.func143 Tryz.ntmps143 ?_
 have a:=yt w
 refine iN a 14 ?_
 refine gq (v:=Zp) Tryz.results143 rfl ?_
 exact⟨rfl,a.gz s_⟩
theorem U1(v:Value)(xs:List Int)(x:Int)(w:World)(hv:iw 1 gW (fun _=>True) w v xs)(hs:xs.Pairwise fun a b=>a<b)(F:xs.length<=1000000) :
 CR ya 81 #[v,(Zn x)] w (fun r w' => ∃ b:Bool,r = .tuple (p8 (gN xs x:Int) b)/\gx [] w w'):=by
 refine en Tryz.func81 Tryz.ntmps81 ?_
 have C:=yt w
 refine fS C 9 ?_
 refine kX (v:=v) rfl rfl yz hv (gF C 12 ?_)
 refine lp (α:=Nat×Nat) (fun(i,j)=>[(0,v),(1,(Zn x)),(6,(Za xs.length)),(7,(Za i)),(8,(Za j))]) (fun(i,j) w1=>St [(w,[])] [] w1/\oH xs x i j/\i<=j/\j<=xs.length) (fun(i,j)=>j-i) (0,xs.length) ⟨rfl,rfl,rfl,gm rO,gm rO,trivial⟩ (⟨C,oH.start,o_,o_⟩) ?_
 rintro⟨i,j⟩ o d ⟨z,A,D,E⟩
 refine fS z 5 ?_
 by_cases p:((i:Int):Int)<((j:Int):Int)
 . refine fK z 13 ?_
   refine shr (a:=(i:Int)+(j:Int)) (b:=1) (e:=(((i+j) / 2:Nat):Int)) rfl rfl rfl d_ (YG (i+j) 1 64 d_) ?_
   obtain⟨f,g⟩:=pK (show ((i+j) / 2)<xs.length by omega)
   refine fK z 11 ?_
   refine cl Oq (Qv f x d) ?_
   rintro _ q ⟨rfl,m⟩
   have c:=yq z m
   refine gF c 2 ?_
   cases h:(decide (f<x):Bool)
   . skip
     refine iN c 6 ?_
     refine tN (?_)
     exact again (i,((i+j) / 2)) ⟨rfl,rfl,rfl,rfl,gm rO,trivial⟩ (⟨c,A.down hs (by rw[iE g];exact of_decide_eq_false h),o_,o_⟩) (by show (((i+j) / 2)-i:Nat)<j-i;omega)
   . skip
     refine iN c 7 ?_
     refine tN (?_)
     exact again (((i+j) / 2+1),j) ⟨rfl,rfl,rfl,gm rO,rfl,trivial⟩ (⟨c,A.up hs o_ (by rw[iE g];exact of_decide_eq_true h),o_,o_⟩) (by show (j-((i+j) / 2+1):Nat)<j-i;omega)
 . refine fK z 14 ?_
   by_cases s:((i:Int):Int)<((xs.length:Int):Int)
   . obtain⟨k,t⟩:=pK (show i<xs.length by omega)
     refine fK z 7 ?_
     by_cases u:(k:Int)=(x:Int)
     . refine fQ z 18 ?_
       refine iC (v:=(Za i)) (v' := Zf) Tryz.results81 rfl rfl ?_
       have B:i=gN xs x:=oH.gN (by rw[show j=i by omega]at A;exact A) o_
       exact⟨true,by rw[B],z.gz s_⟩
     . refine fK z 6 ?_
       refine cl WQ (abB k d) ?_
       rintro _ y ⟨rfl,n⟩
       have l:=yq z n
       refine fQ l 11 ?_
       refine iC (v:=(Za i)) (v' := Zp) Tryz.results81 rfl rfl ?_
       have B:i=gN xs x:=oH.gN (by rw[show j=i by omega]at A;exact A) o_
       exact⟨false,by rw[B],l.gz s_⟩
   . refine fQ z 25 ?_
     refine iC (v:=(Za i)) (v' := Zp) Tryz.results81 rfl rfl ?_
     have B:i=gN xs x:=oH.gN (by rw[show j=i by omega]at A;exact A) o_
     exact⟨false,by rw[B],z.gz s_⟩
end
section
open Go Go.Sx
def fW.R(fO fM ub:Nat)(s:fW):fU:=j7 (s.ok fO fM) (gj [blk ub 169 (pg fO fM s (some s.mb)),fL Lv.cells s.lv 59 7 s.live,gM s.mb .u64 p_ s.im,jA 3 s.im,(AW.R s.jd s.aw),(TW.R s.tb s.ab s.t)])
abbrev G1(a b c:Nat) d e f:=(gj [fW.R a b c d,fL Lv.cells e 59 7 f]:fU)
theorem Bd(fO fM ub:Nat)(s:fW)(w:World)(d:Own (fW.R fO fM ub s) w) :
 CR ya 82 (Zi ub) w (fun r w' => r = .bool true/\fZ (fW.R fO fM ub s) w w' (fW.R fO fM ub s)):=by
 refine en Tryz.func82 Tryz.ntmps82 ?_
 have b:=Own.of d.un
 have e:s.ok fO fM:=d.fact
 refine fS b 8 ?_
 refine lS (a:=some ⟨ub,0,none⟩) (c:=true) rfl rfl rfl Gt rfl (fK b 5 ?_)
 refine Q0 (a:=some s.mb) (c:=true) rfl rfl rfl yx rfl (fQ b 5 ?_)
 refine gq (v:=Zf) Tryz.results82 rfl ?_
 exact⟨rfl,yo (yr (p:=fW.ok fO fM s) (yc [_,_,_,_,_,_] _ b) e) za⟩
theorem Gc(fO fM ub:Nat)(s:fW)(w:World)(l:Own (fW.R fO fM ub s) w)(id:Int) :
 CR ya 128 (Z4 ub id) w (fun r w' => ∃ (z:Nat) (b:Bool),r = .tuple (p8 z b)/\s.t.oc id z b/\fZ (fW.R fO fM ub s) w w' (fW.R fO fM ub s)):=by
 refine en Tryz.func128 Tryz.ntmps128 ?_
 have n:=Own.of l.un
 have m:s.ok fO fM:=l.fact
 have c:=yr (p:=s.ok fO fM) (yc [_,_,_,_,_,_] _ n) m
 refine fS n 10 ?_
 refine cl Ak (Bd fO fM ub s w (ye c 0 rfl)) ?_
 rintro _ g ⟨rfl,k⟩
 have h:=ym 0 c k
 have a:=(jP h).unpack
 refine fK a 13 ?_
 refine cl EC (FX s.tb s.ab s.t g (ye a 5 rfl) id) ?_
 rintro _ j ⟨d,e,rfl,i,k⟩
 have f:=ym 5 a k
 refine fQ f 7 ?_
 refine iC (v:=(Za d)) (v' := (.bool e)) Tryz.results128 rfl rfl ?_
 exact⟨d,e,rfl,i,yo (yr (p:=fW.ok fO fM s) (yc [_,_,_,_,_,_] _ f) m) za⟩
end
section
open Go Go.Sx
theorem Ll(fO fM ub:Nat)(s:fW)(w:World)(hO:Own (fW.R fO fM ub s) w)(x:Lv) :
 CR ya 122 (xo ub x) w (fun r w' => r = .int .i64 (s.gK fO fM x.u x.v)/\fZ (fW.R fO fM ub s) w w' (fW.R fO fM ub s)):=by
 have ak:s.t.A.used<=s.t.A.n:=hO.fact.tok.ul
 have ah:=hO.fact.n
 have ai:=hO.fact.tn
 have ag:=hO.fact.en
 have aj:=hO.fact.vn
 have af:s.A.used<=s.A.begun:=by have h7:=hO.fact.kU.used;omega
 have ae:=hO.fact.kU.le
 refine en Tryz.func122 Tryz.ntmps122 ?_
 have ad:=Own.of hO.un
 have hU:s.ok fO fM:=hO.fact
 refine fS ad 2 ?_
 refine ij ad (fun L B M N l=>?_)
 have C:=yg [1,2,3,4,5,6,0] l
 have m:=yr (p:=s.ok fO fM) (yc [_,_,_,_,_,_] _ C) hU
 refine fK l 7 ?_
 refine cl Ak (Bd fO fM ub s B (ye m 0 rfl)) ?_
 rintro _ O ⟨rfl,ht⟩
 have D:=ym 0 m ht
 have g:=(jP D).unpack
 refine fK g 13 ?_
 by_cases P:(x.u:Int)=(x.v:Int)
 . refine fQ g 11 ?_
   refine gq (v:=xx) tS rfl ?_
   exact⟨gm (fW.ND o_).symm,yo (yr (p:=fW.ok fO fM s) (yc [_,_,_,_,_,_] _ g) hU) za⟩
 . refine gF g 8 ?_
   refine kY mixed [([0,1,2,3,5,6,7,8,4],[8])] [9] g (fun E k=>jO ?_)
   refine fK k 8 ?_
   refine cl IC (Lq s.jd s.aw E (ye k 4 rfl)) ?_
   rintro _ G ⟨rfl,ht⟩
   have e:=ym 4 k ht
   refine fQ e 1 ?_
   refine kJ (kZ ?_)
   by_cases Q:((s.A.used:Int):Int)≥((fM:Int):Int)
   . refine fQ e 11 ?_
     refine gq (v:=(.int .i64 12)) tS rfl ?_
     exact⟨gm (fW.NC o_ o_).symm,yo (yr (p:=fW.ok fO fM s) (yc [_,_,_,_,_,_] _ e) hU) za⟩
   . refine fK e 12 ?_
     refine cl W6 (agE s.tb s.ab s.t G (ye e 5 rfl)) ?_
     rintro _ H ⟨rfl,ht⟩
     have f:=ym 5 e ht
     refine fK f 10 ?_
     refine ja (pvs:=[(0,(Zn x.u)),(1,(Zn x.v))]) (v:=.agg (vq x.u x.v)) rfl rfl (ur [(0,(Zq x.u)),(1,(Zq x.v))] tO y9 jD rfl ⟨rfl,rfl,rfl,rfl,trivial⟩ rfl s_) (gF f 4 ?_)
     refine ri 3 (iz (fS f 13 ?_))
     refine mB (i:=0) rfl rfl rfl y9 yk rfl jD d_ rfl (fK f 10 ?_)
     refine cl EC (FX s.tb s.ab s.t H (ye f 5 rfl) x.u) ?_
     rintro _ o ⟨S,I,rfl,d,ht⟩
     have c:=ym 5 f ht
     refine gF c 13 ?_
     cases q:(I:Bool)
     . skip
       subst q
       refine iN c 12 ?_
       refine tN (?_)
       refine iz (fS c 13 ?_)
       refine mB (i:=1) rfl rfl rfl y9 yk rfl jD d_ rfl (fK c 10 ?_)
       refine cl EC (FX s.tb s.ab s.t o (ye c 5 rfl) x.v) ?_
       rintro _ U ⟨V,J,rfl,h,ht⟩
       have a:=ym 5 c ht
       refine gF a 13 ?_
       cases y:(J:Bool)
       . skip
         subst y
         refine iN a 12 ?_
         refine tN (?_)
         refine iz (fS a 20 ?_)
         by_cases W:(((s.t.A.used:Int)+1)+1:Int)>((fO:Int):Int)
         . refine fQ a 11 ?_
           refine gq (v:=(.int .i64 11)) tS rfl ?_
           have F:=d.cnt
           simp at F
           have T:=h.cnt
           simp at T
           exact⟨gm (fW.B4 o_ o_ o_).symm,yo (yr (p:=fW.ok fO fM s) (yc [_,_,_,_,_,_] _ a) hU) za⟩
         . refine fQ a 12 ?_
           refine gq (v:=Zc) tS rfl ?_
           have F:=d.cnt
           simp at F
           have T:=h.cnt
           simp at T
           exact⟨gm (fW.Ab o_ o_ o_).symm,yo (yr (p:=fW.ok fO fM s) (yc [_,_,_,_,_,_] _ a) hU) za⟩
       . skip
         subst y
         refine iN a 8 ?_
         refine tN (?_)
         refine iz (fS a 20 ?_)
         by_cases X:((s.t.A.used:Int)+1:Int)>((fO:Int):Int)
         . refine fQ a 11 ?_
           refine gq (v:=(.int .i64 11)) tS rfl ?_
           have F:=d.cnt
           simp at F
           have T:=h.cnt
           simp at T
           exact⟨gm (fW.B4 o_ o_ o_).symm,yo (yr (p:=fW.ok fO fM s) (yc [_,_,_,_,_,_] _ a) hU) za⟩
         . refine fQ a 12 ?_
           refine gq (v:=Zc) tS rfl ?_
           have F:=d.cnt
           simp at F
           have T:=h.cnt
           simp at T
           exact⟨gm (fW.Ab o_ o_ o_).symm,yo (yr (p:=fW.ok fO fM s) (yc [_,_,_,_,_,_] _ a) hU) za⟩
     . skip
       subst q
       refine iN c 8 ?_
       refine tN (?_)
       refine iz (fS c 13 ?_)
       refine mB (i:=1) rfl rfl rfl y9 yk rfl jD d_ rfl (fK c 10 ?_)
       refine cl EC (FX s.tb s.ab s.t o (ye c 5 rfl) x.v) ?_
       rintro _ Y ⟨Z,K,rfl,j,ht⟩
       have b:=ym 5 c ht
       refine gF b 13 ?_
       cases z:(K:Bool)
       . skip
         subst z
         refine iN b 12 ?_
         refine tN (?_)
         refine iz (fS b 20 ?_)
         by_cases aa:((s.t.A.used:Int)+1:Int)>((fO:Int):Int)
         . refine fQ b 11 ?_
           refine gq (v:=(.int .i64 11)) tS rfl ?_
           have F:=d.cnt
           simp at F
           have T:=j.cnt
           simp at T
           exact⟨gm (fW.B4 o_ o_ o_).symm,yo (yr (p:=fW.ok fO fM s) (yc [_,_,_,_,_,_] _ b) hU) za⟩
         . refine fQ b 12 ?_
           refine gq (v:=Zc) tS rfl ?_
           have F:=d.cnt
           simp at F
           have T:=j.cnt
           simp at T
           exact⟨gm (fW.Ab o_ o_ o_).symm,yo (yr (p:=fW.ok fO fM s) (yc [_,_,_,_,_,_] _ b) hU) za⟩
       . skip
         subst z
         refine iN b 8 ?_
         refine tN (?_)
         refine iz (fS b 20 ?_)
         by_cases ac:((s.t.A.used:Int):Int)>((fO:Int):Int)
         . refine fQ b 11 ?_
           refine gq (v:=(.int .i64 11)) tS rfl ?_
           have F:=d.cnt
           simp at F
           have T:=j.cnt
           simp at T
           exact⟨gm (fW.B4 o_ o_ o_).symm,yo (yr (p:=fW.ok fO fM s) (yc [_,_,_,_,_,_] _ b) hU) za⟩
         . refine fQ b 12 ?_
           refine gq (v:=Zc) tS rfl ?_
           have F:=d.cnt
           simp at F
           have T:=j.cnt
           simp at T
           exact⟨gm (fW.Ab o_ o_ o_).symm,yo (yr (p:=fW.ok fO fM s) (yc [_,_,_,_,_,_] _ b) hU) za⟩
end
section
open Go Go.Sx
theorem agS(fO fM ub:Nat)(s:fW)(w:World)(a:Own (fW.R fO fM ub s) w)(x:Lv)(b:s.gK fO fM x.u x.v=0) :
 CR ya 122 (xo ub x) w (fun r w' => r = .int .i64 0/\fZ (fW.R fO fM ub s) w w' (fW.R fO fM ub s)):=by
 have h:=Ll fO fM ub s w a x
 rw[b]at h
 exact h
theorem Ga(tb ab:Nat)(t:TW)(w:World)(f:Own (TW.R tb ab t) w)(id:Int)(m:t.mem id\/t.A.used<t.A.n)(l:gX .u64 id) :
 CR ya 191 (Z4 tb id) w (fun r w' => ∃ (z:Nat) (b:Bool) (a:TW),r = .tuple #[.int .i64 (z:Int),.bool b,.int .i64 0]/\TW.GY t a id/\fZ (TW.R tb ab t) w w' (TW.R tb ab a)):=by
 by_cases hm:t.mem id
 . obtain⟨i,hi,e⟩:=hm
   exact CR.mono (agL tb ab t w f id i hi e) fun r w' ⟨c,d⟩=>⟨i,false,t,c,⟨fun x=>⟨.inl,fun h=>h.elim (fun h=>h) (fun h=>h▸⟨i,hi,e⟩)⟩,rfl,by rw[TW.vO ⟨i,hi,e⟩];rfl⟩,d⟩
 . exact CR.mono (agK tb ab t w f id hm l (m.resolve_left hm)) fun r w' ⟨i,a,c,⟨d,g,j⟩,k⟩=>⟨i,true,a,c,⟨d,g,by rw[TW.tA hm];exact j⟩,k⟩
theorem TB(fO fM ub:Nat)(s:fW)(w:World)(hO:Own (fW.R fO fM ub s) w)(x:Lv)(T:x.ok)(hc:s.gK fO fM x.u x.v=0)(cu:s.last<=9000000000000000000) :
 CR ya 127 #[(Zb ub),(Ec x),(Za x.exp)] w (fun r w' => ∃ (i:Nat) (s2:fW),r = .tuple #[(HA i (s.last+1) x),.int .i64 0]/\((∀ y,s2.has y↔s.has y\/y=⟨(i:Int),s.last+1,x.u,x.v,x.wt,x.t,x.exp⟩)/\s2.last=s.last+1)/\fZ (fW.R fO fM ub s) w w' (fW.R fO fM ub s2)):=by
 have cx:s.t.A.used<=s.t.A.n:=hO.fact.tok.ul
 have cn:=hO.fact.n
 have co:=hO.fact.tn
 have cm:=hO.fact.en
 have cp:=hO.fact.vn
 have ch:s.A.used<=s.A.begun:=by have h7:=hO.fact.kU.used;omega
 have cg:=hO.fact.kU.le
 have ci:s.aw.A.used=s.A.used:=rfl
 have cj:s.aw.A.n=s.A.n:=rfl
 have ck:s.aw.A.begun=s.A.begun:=rfl
 have cv:(s.live++[(⟨0,0,0,0,0,0,0⟩:Lv)]).length=s.live.length+1:=by simp
 have bc:=fW.HY hc
 have ct:=hO.fact.sN
 have cw:=hO.fact.ll
 have F:∀ id,(gh s.im id).2.length<=65536:=fun id=>hO.fact.Jg id
 refine en Tryz.func127 Tryz.ntmps127 ?_
 have ce:=Own.of hO.un
 have hU:s.ok fO fM:=hO.fact
 refine fS ce 2 ?_
 refine ij ce (fun j bd be bf aI=>?_)
 refine iH aI (fun l aJ bg bh ao=>?_)
 have aK:=yg [2,3,4,5,6,7,0,1] ao
 have ap:=yr (p:=s.ok fO fM) (yc [_,_,_,_,_,_] _ aK) hU
 refine fK ao 8 ?_
 refine cl IA (agS fO fM ub s aJ (ye ap 0 rfl) x hc) ?_
 rintro _ aL ⟨rfl,ht⟩
 have aM:=ym 0 ap ht
 have aa:=(jP aM).unpack
 refine fK aa 18 ?_
 refine cl OA (TM s.jd s.aw aL (ye aa 4 rfl) o_) ?_
 rintro _ bi ⟨b,h,rfl,ac,ht⟩
 have aq:=ym 4 aa ht
 have cd:=(y0 aq (i:=4) rfl:h.A.ok)
 have cq:b<=s.live.length:=by rcases ac.pH with h9|h9<;>omega
 have cr:b<=65536:=by omega
 refine tL aq 30 fun bj aN=>?_
 refine kY mixed [([0,1,2,3,4,5,6,7,8],[4,5])] [9] aN (fun bl ar=>jO ?_)
 refine fK ar 7 ?_
 refine ja (pvs:=[(0,(Za ((b:Nat):Int))),(1,(Zn (s.last+1))),(2,(Ec x)),(3,(Za x.exp))]) (v:=.agg #[(Za ((b:Nat):Int)),(Zn (s.last+1)),(Zn x.u),(Zn x.v),(Za x.wt),(Za x.t),(Za x.exp)]) rfl rfl (jq [(0,(Ze ((b:Nat):Int))),(1,(Zq (s.last+1))),(2,(Zz x)),(3,(Ze x.exp))] nF Kf rfl ⟨rfl,rfl,rfl,rfl,rfl,rfl,rfl,rfl,trivial⟩ rfl) (iH ar (fun q bm bn bo ad=>?_))
 refine fQ ad 1 ?_
 refine uU (lJ rfl pR (lJ rfl (qW (tE (cs:=(Zz x)) rfl Bo rfl uR rfl (lM ad (i:=8) (o:=0) (vs:=(Zz x)) rfl rfl)) rfl rfl) (trivial))) (kZ ?_)
 refine tL ad 5 fun bp H=>?_
 refine ri 3 (iz (fS H 7 ?_))
 refine iL (m:=s.live.length) 2 rfl rfl r7 H rfl (fK H 1 ?_)
 by_cases bq:((s.live.length:Int):Int)<=(((b:Nat):Int):Int)
 . refine fK H 13 ?_
   refine ja (pvs:=[]) (v:=.agg G8) rfl rfl (jq [] nF Kf rfl trivial rfl) (jL (vs:=[(.agg G8)]) (cs:=nr) rfl rfl r7 nF rfl (by simp[Value.cells]) rfl rfl rfl H (fun aO br bs bt au=>lF (cf:=Lv.cells) (ys:=s.live) (zs:=[(⟨0,0,0,0,0,0,0⟩:Lv)]) (LL:=fun B=>[row (Z3 aO) 59 7 1 (nr),blk q 59 (qG ((b:Nat):Int) (s.last+1) x),blk ub 169 (BW fO fM (s.last+1) s (some s.mb)),fL Lv.cells B 59 7 (s.live++[(⟨0,0,0,0,0,0,0⟩:Lv)]),gM s.mb .u64 p_ s.im,jA 3 s.im,(AW.R s.jd h),(xu s),blk l 59 nr,blk j 57 (Zz x)]) 3 rfl rfl rfl r7 nF rfl d_ au rfl (kO au (i:=0) rfl) (fun x hx=>zn.1 (show List.all _ _=true from rfl) x hx) (by simp only[zq,ze,zh,maxLen];omega) (by simp only[zq,ze,zh,maxLen];omega) f_ ?_))
   intro B bu aP bv
   have P:=yg [1,2,3,4,5,6,7,8,9] aP
   refine fK P 2 ?_
   refine jM 1 P (fun bw K=>?_) (hvs:=(cells_one (yu P (i:=2) rfl))) (h1:=(ia (yu P (i:=2) rfl) kT))
   refine fQ K 2 ?_
   refine tN (?_)
   refine iz (fS K 7 ?_)
   refine iL (m:=(s.live++[(⟨0,0,0,0,0,0,0⟩:Lv)]).length) 2 rfl rfl r7 K rfl (fK K 1 ?_)
   refine cmp rfl rfl rfl (HP (by simp only[zq,ze,zh];omega)) (gJ K 17 fun bx aQ=>?_)
   refine iO (f:=(fun _=>(⟨((b:Nat):Int),s.last+1,x.u,x.v,x.wt,x.t,x.exp⟩:Lv))) 2 aQ (fun aR C=>?_)
   refine fK C 6 ?_
   refine ld rfl rfl yk rfl (kQ C 8 rfl rfl) (fK C 1 ?_)
   refine ld rfl rfl yk rfl (kQ C 8 rfl rfl) (ja (pvs:=[(0,(Zn x.u)),(1,(Zn x.v))]) (v:=.agg (vq x.u x.v)) rfl rfl (ur [(0,(Zq x.u)),(1,(Zq x.v))] tO y9 jD rfl ⟨rfl,rfl,rfl,rfl,trivial⟩ rfl s_) (gF C 4 ?_))
   refine ri 3 (iz (fS C 13 ?_))
   refine mB (i:=0) rfl rfl rfl y9 yk rfl jD d_ rfl (fK C 10 ?_)
   refine cl ED (Ga s.tb s.ab s.t aR (ye C 6 rfl) x.u (TW.Se o_) T.u) ?_
   rintro _ bz ⟨bA,bB,L,rfl,ae,ht⟩
   have af:=ym 6 C ht
   have bk:=(y0 af (i:=6) rfl:L.ok)
   refine gF af 2 ?_
   have aS:=yg [4,0,1,2,3,5,6,7,8] af
   have aT:=yW x.u aS
   refine kY mixed [([0,1,2,3,4,5,6,7,8,9,10,11,12],[3,8,10]),([13],[3])] [14] aT (fun bC Q=>jO ?_)
   refine fK Q 10 ?_
   refine pM (a:=x.u) (mm:=s.im) (enc:=p_) (k:=.u64) 5 rfl rfl rfl yx yk j6 rfl Q rfl (fK Q 1 ?_)
   refine jL (vs:=(Ze ((b:Nat):Int))) (cs:=(Ze ((b:Nat):Int))) rfl rfl yd gr rfl (by simp[Value.cells]) rfl rfl rfl Q (fun aU bD bE bF S=>fQ S 1 ?_)
   refine uU (lJ rfl pR (lJ rfl pR (lJ rfl (qW (xQ (a:=x.u) (mm:=s.im) (enc:=p_) (k:=.u64) 6 rfl rfl yx yk j6 rfl S rfl) rfl rfl) (trivial)))) (jO ?_)
   refine vI (k:=.i64) (ys:=gw (gh s.im x.u).2) (zs:=[((b:Nat):Int)]) (LL:=fun d=>[ig .i64 (Z3 aU) 3 ([((b:Nat):Int)]),ig .i64 d 3 ((gw (gh s.im x.u).2)++([((b:Nat):Int)])),jA 3 (iZ s.im x.u),blk q 59 (qG ((b:Nat):Int) (s.last+1) x),blk ub 169 (Eg fO fM (s.last+1) s B (some s.mb)),fL Lv.cells B 59 7 (fN (s.live++[(⟨0,0,0,0,0,0,0⟩:Lv)]) b (fun _=>(⟨((b:Nat):Int),s.last+1,x.u,x.v,x.wt,x.t,x.exp⟩:Lv))),gM s.mb .u64 p_ s.im,(AW.R s.jd h),(zR s L),blk l 59 nr,blk j 57 (Zz x)]) 1 rfl rfl rfl yd gr rfl S rfl (kO S (i:=0) rfl) (by simp only[zq,ze,zh,gw,zo,maxLen];have h7:=F x.u;have h8:=F x.v;first|omega|(rw[tF bc.1];omega)) (by simp only[zq,ze,zh,gw,zo,maxLen];have h7:=F x.u;have h8:=F x.v;first|omega|(rw[tF bc.1];omega)) f_ ?_
   intro d bG aV bH
   have av:=yg [1,2,3,4,5,6,7,8,9,10] aV
   refine fQ av 1 ?_
   refine kJ (kZ ?_)
   refine qm (a:=x.u) (c:=(d,(gh s.im x.u).2++[b])) (mm:=s.im) (enc:=p_) (k:=.u64) (L' := (MN d ((gw (gh s.im x.u).2)++([((b:Nat):Int)])) (iZ s.im x.u) q ((b:Nat):Int) (s.last+1) x ub fO fM s B (some s.mb) (fN (s.live++[(⟨0,0,0,0,0,0,0⟩:Lv)]) b (fun _=>(⟨((b:Nat):Int),s.last+1,x.u,x.v,x.wt,x.t,x.exp⟩:Lv))) (gD s.im x.u (d,(gh s.im x.u).2++[b])) h L l j)) 5 rfl rfl rfl rfl yx yk av rfl rfl (fun ax ay=>fQ ay 1 ?_)
   have M:St _ (MI (gD s.im x.u (d,(gh s.im x.u).2++[b])) q ((b:Nat):Int) (s.last+1) x ub fO fM s B (some s.mb) (fN (s.live++[(⟨0,0,0,0,0,0,0⟩:Lv)]) b (fun _=>(⟨((b:Nat):Int),s.last+1,x.u,x.v,x.wt,x.t,x.exp⟩:Lv))) h L l j) ax:=yU (by have h9:=ay;rw[<-CG]at h9;exact h9)
   refine rS tt none M 6 ?_
   refine tN (?_)
   refine iz (fS M 13 ?_)
   refine mB (i:=1) rfl rfl rfl y9 yk rfl jD d_ rfl (fK M 10 ?_)
   refine cl ED (Ga s.tb s.ab L ax (ye M 6 rfl) x.v (ae.room o_) T.v) ?_
   rintro _ bI ⟨bJ,bK,I,rfl,az,ht⟩
   have ag:=ym 6 M ht
   have bk:=(y0 ag (i:=6) rfl:I.ok)
   refine gF ag 2 ?_
   have aW:=yW x.v ag
   refine kY mixed [([0,1,2,3,4,5,6,7,8,9,10,11,12],[3,8,10]),([13],[3])] [14] aW (fun bL U=>jO ?_)
   refine fK U 10 ?_
   refine pM (a:=x.v) (mm:=(gD s.im x.u (d,(gh s.im x.u).2++[b]))) (enc:=p_) (k:=.u64) 5 rfl rfl rfl yx yk j6 rfl U rfl (fK U 1 ?_)
   refine jL (vs:=(Ze ((b:Nat):Int))) (cs:=(Ze ((b:Nat):Int))) rfl rfl yd gr rfl (by simp[Value.cells]) rfl rfl rfl U (fun aX bM bN bO V=>fQ V 1 ?_)
   refine uU (lJ rfl pR (lJ rfl pR (lJ rfl (qW (xQ (a:=x.v) (mm:=(gD s.im x.u (d,(gh s.im x.u).2++[b]))) (enc:=p_) (k:=.u64) 6 rfl rfl yx yk j6 rfl V rfl) rfl rfl) (trivial)))) (jO ?_)
   refine vI (k:=.i64) (ys:=gw (gh (gD s.im x.u (d,(gh s.im x.u).2++[b])) x.v).2) (zs:=[((b:Nat):Int)]) (LL:=fun D=>[ig .i64 (Z3 aX) 3 ([((b:Nat):Int)]),ig .i64 D 3 ((gw (gh (gD s.im x.u (d,(gh s.im x.u).2++[b])) x.v).2)++([((b:Nat):Int)])),jA 3 (iZ (gD s.im x.u (d,(gh s.im x.u).2++[b])) x.v),blk q 59 (qG ((b:Nat):Int) (s.last+1) x),blk ub 169 (Eg fO fM (s.last+1) s B (some s.mb)),fL Lv.cells B 59 7 (fN (s.live++[(⟨0,0,0,0,0,0,0⟩:Lv)]) b (fun _=>(⟨((b:Nat):Int),s.last+1,x.u,x.v,x.wt,x.t,x.exp⟩:Lv))),gM s.mb .u64 p_ (gD s.im x.u (d,(gh s.im x.u).2++[b])),(AW.R s.jd h),(zR s I),blk l 59 nr,blk j 57 (Zz x)]) 1 rfl rfl rfl yd gr rfl V rfl (kO V (i:=0) rfl) (by simp only[zq,ze,zh,gw,zo,maxLen];have h7:=F x.u;have h8:=F x.v;first|omega|(rw[tF bc.1];omega)) (by simp only[zq,ze,zh,gw,zo,maxLen];have h7:=F x.u;have h8:=F x.v;first|omega|(rw[tF bc.1];omega)) f_ ?_
   intro D bP aY bQ
   have aA:=yg [1,2,3,4,5,6,7,8,9,10] aY
   refine fQ aA 1 ?_
   refine kJ (kZ ?_)
   refine qm (a:=x.v) (c:=(D,(gh (gD s.im x.u (d,(gh s.im x.u).2++[b])) x.v).2++[b])) (mm:=(gD s.im x.u (d,(gh s.im x.u).2++[b]))) (enc:=p_) (k:=.u64) (L' := (MN D ((gw (gh (gD s.im x.u (d,(gh s.im x.u).2++[b])) x.v).2)++([((b:Nat):Int)])) (iZ (gD s.im x.u (d,(gh s.im x.u).2++[b])) x.v) q ((b:Nat):Int) (s.last+1) x ub fO fM s B (some s.mb) (fN (s.live++[(⟨0,0,0,0,0,0,0⟩:Lv)]) b (fun _=>(⟨((b:Nat):Int),s.last+1,x.u,x.v,x.wt,x.t,x.exp⟩:Lv))) (gD (gD s.im x.u (d,(gh s.im x.u).2++[b])) x.v (D,(gh (gD s.im x.u (d,(gh s.im x.u).2++[b])) x.v).2++[b])) h I l j)) 5 rfl rfl rfl rfl yx yk aA rfl rfl (fun aZ aB=>fQ aB 1 ?_)
   have ah:St _ (MI (gD (gD s.im x.u (d,(gh s.im x.u).2++[b])) x.v (D,(gh (gD s.im x.u (d,(gh s.im x.u).2++[b])) x.v).2++[b])) q ((b:Nat):Int) (s.last+1) x ub fO fM s B (some s.mb) (fN (s.live++[(⟨0,0,0,0,0,0,0⟩:Lv)]) b (fun _=>(⟨((b:Nat):Int),s.last+1,x.u,x.v,x.wt,x.t,x.exp⟩:Lv))) h I l j) aZ:=yU (by have h9:=aB;rw[<-CG]at h9;exact h9)
   refine rS tt none ah 6 ?_
   refine tN (?_)
   refine iz (fS ah 15 ?_)
   refine jM 7 ah (fun bR ai=>?_)
   refine fQ ai 4 ?_
   refine nO (v:=(HA ((b:Nat):Int) (s.last+1) x)) (v' := Zc) Tryz.results127 (nE (cs:=(qG ((b:Nat):Int) (s.last+1) x)) rfl wS rfl nF rfl (lM ai (i:=7) (o:=0) (vs:=(qG ((b:Nat):Int) (s.last+1) x)) rfl rfl)) (oC rfl) ?_
   have a0:=yg [2,3,4,0,5,6,1,7,8] ai
   have cc:=hU.ins (e:=(⟨(b:Int),s.last+1,x.u,x.v,x.wt,x.t,x.exp⟩:Lv)) ac cd bk rfl rfl ⟨kA (by show _/\_;dsimp only;omega),oO (by show _/\_;dsimp only;omega),T.u,T.v,T.wt,T.t,T.exp⟩ bc.1 (fun z=>by rw[az.mem,ae.mem]) (by rw[az.n,ae.n]) (lv2:=B) (ls:=fN (s.live++[(⟨0,0,0,0,0,0,0⟩:Lv)]) b (fun _=>(⟨((b:Nat):Int),s.last+1,x.u,x.v,x.wt,x.t,x.exp⟩:Lv))) (by unfold x8;rw[if_pos o_]<;>rfl) (im2:=(gD (gD s.im x.u (d,(gh s.im x.u).2++[b])) x.v (D,(gh (gD s.im x.u (d,(gh s.im x.u).2++[b])) x.v).2++[b]))) (by rw[tF bc.1];rfl)
   exact⟨b,(⟨s.jd,s.tb,s.ab,s.mb,B,s.last+1,h,I,fN (s.live++[(⟨0,0,0,0,0,0,0⟩:Lv)]) b (fun _=>(⟨((b:Nat):Int),s.last+1,x.u,x.v,x.wt,x.t,x.exp⟩:Lv)),(gD (gD s.im x.u (d,(gh s.im x.u).2++[b])) x.v (D,(gh (gD s.im x.u (d,(gh s.im x.u).2++[b])) x.v).2++[b]))⟩:fW),rfl,⟨cc.2,rfl⟩,yo (yr (p:=fW.ok fO fM (⟨s.jd,s.tb,s.ab,s.mb,B,s.last+1,h,I,fN (s.live++[(⟨0,0,0,0,0,0,0⟩:Lv)]) b (fun _=>(⟨((b:Nat):Int),s.last+1,x.u,x.v,x.wt,x.t,x.exp⟩:Lv)),(gD (gD s.im x.u (d,(gh s.im x.u).2++[b])) x.v (D,(gh (gD s.im x.u (d,(gh s.im x.u).2++[b])) x.v).2++[b]))⟩:fW)) (yc [_,_,_,_,_,_] _ a0) cc.1) za⟩
 . refine gJ H 18 fun bS a1=>?_
   refine iO (f:=(fun _=>(⟨((b:Nat):Int),s.last+1,x.u,x.v,x.wt,x.t,x.exp⟩:Lv))) 2 a1 (fun a2 E=>?_)
   refine fK E 6 ?_
   refine ld rfl rfl yk rfl (kQ E 8 rfl rfl) (fK E 1 ?_)
   refine ld rfl rfl yk rfl (kQ E 8 rfl rfl) (ja (pvs:=[(0,(Zn x.u)),(1,(Zn x.v))]) (v:=.agg (vq x.u x.v)) rfl rfl (ur [(0,(Zq x.u)),(1,(Zq x.v))] tO y9 jD rfl ⟨rfl,rfl,rfl,rfl,trivial⟩ rfl s_) (gF E 4 ?_))
   refine ri 3 (iz (fS E 13 ?_))
   refine mB (i:=0) rfl rfl rfl y9 yk rfl jD d_ rfl (fK E 10 ?_)
   refine cl ED (Ga s.tb s.ab s.t a2 (ye E 6 rfl) x.u (TW.Se o_) T.u) ?_
   rintro _ bT ⟨bU,bV,N,rfl,aj,ht⟩
   have ak:=ym 6 E ht
   have bk:=(y0 ak (i:=6) rfl:N.ok)
   refine gF ak 2 ?_
   have a3:=yg [4,0,1,2,3,5,6,7,8] ak
   have a4:=yW x.u a3
   refine kY mixed [([0,1,2,3,4,5,6,7,8,9,10,11,12],[3,8,10]),([13],[3])] [14] a4 (fun bW W=>jO ?_)
   refine fK W 10 ?_
   refine pM (a:=x.u) (mm:=s.im) (enc:=p_) (k:=.u64) 5 rfl rfl rfl yx yk j6 rfl W rfl (fK W 1 ?_)
   refine jL (vs:=(Ze ((b:Nat):Int))) (cs:=(Ze ((b:Nat):Int))) rfl rfl yd gr rfl (by simp[Value.cells]) rfl rfl rfl W (fun a5 bX bY bZ X=>fQ X 1 ?_)
   refine uU (lJ rfl pR (lJ rfl pR (lJ rfl (qW (xQ (a:=x.u) (mm:=s.im) (enc:=p_) (k:=.u64) 6 rfl rfl yx yk j6 rfl X rfl) rfl rfl) (trivial)))) (jO ?_)
   refine vI (k:=.i64) (ys:=gw (gh s.im x.u).2) (zs:=[((b:Nat):Int)]) (LL:=fun g=>[ig .i64 (Z3 a5) 3 ([((b:Nat):Int)]),ig .i64 g 3 ((gw (gh s.im x.u).2)++([((b:Nat):Int)])),jA 3 (iZ s.im x.u),blk q 59 (qG ((b:Nat):Int) (s.last+1) x),blk ub 169 (BW fO fM (s.last+1) s (some s.mb)),fL Lv.cells s.lv 59 7 (fN s.live b (fun _=>(⟨((b:Nat):Int),s.last+1,x.u,x.v,x.wt,x.t,x.exp⟩:Lv))),gM s.mb .u64 p_ s.im,(AW.R s.jd h),(zR s N),blk l 59 nr,blk j 57 (Zz x)]) 1 rfl rfl rfl yd gr rfl X rfl (kO X (i:=0) rfl) (by simp only[zq,ze,zh,gw,zo,maxLen];have h7:=F x.u;have h8:=F x.v;first|omega|(rw[tF bc.1];omega)) (by simp only[zq,ze,zh,gw,zo,maxLen];have h7:=F x.u;have h8:=F x.v;first|omega|(rw[tF bc.1];omega)) f_ ?_
   intro g b0 a6 b1
   have aC:=yg [1,2,3,4,5,6,7,8,9,10] a6
   refine fQ aC 1 ?_
   refine kJ (kZ ?_)
   refine qm (a:=x.u) (c:=(g,(gh s.im x.u).2++[b])) (mm:=s.im) (enc:=p_) (k:=.u64) (L' := (MM g ((gw (gh s.im x.u).2)++([((b:Nat):Int)])) (iZ s.im x.u) q ((b:Nat):Int) (s.last+1) x ub fO fM s (some s.mb) (fN s.live b (fun _=>(⟨((b:Nat):Int),s.last+1,x.u,x.v,x.wt,x.t,x.exp⟩:Lv))) (gD s.im x.u (g,(gh s.im x.u).2++[b])) h N l j)) 5 rfl rfl rfl rfl yx yk aC rfl rfl (fun aD aE=>fQ aE 1 ?_)
   have O:St _ (MH (gD s.im x.u (g,(gh s.im x.u).2++[b])) q ((b:Nat):Int) (s.last+1) x ub fO fM s (some s.mb) (fN s.live b (fun _=>(⟨((b:Nat):Int),s.last+1,x.u,x.v,x.wt,x.t,x.exp⟩:Lv))) h N l j) aD:=yU (by have h9:=aE;rw[<-CG]at h9;exact h9)
   refine rS tt none O 6 ?_
   refine tN (?_)
   refine iz (fS O 13 ?_)
   refine mB (i:=1) rfl rfl rfl y9 yk rfl jD d_ rfl (fK O 10 ?_)
   refine cl ED (Ga s.tb s.ab N aD (ye O 6 rfl) x.v (aj.room o_) T.v) ?_
   rintro _ b2 ⟨b3,b4,J,rfl,aF,ht⟩
   have al:=ym 6 O ht
   have bk:=(y0 al (i:=6) rfl:J.ok)
   refine gF al 2 ?_
   have a7:=yW x.v al
   refine kY mixed [([0,1,2,3,4,5,6,7,8,9,10,11,12],[3,8,10]),([13],[3])] [14] a7 (fun b5 Y=>jO ?_)
   refine fK Y 10 ?_
   refine pM (a:=x.v) (mm:=(gD s.im x.u (g,(gh s.im x.u).2++[b]))) (enc:=p_) (k:=.u64) 5 rfl rfl rfl yx yk j6 rfl Y rfl (fK Y 1 ?_)
   refine jL (vs:=(Ze ((b:Nat):Int))) (cs:=(Ze ((b:Nat):Int))) rfl rfl yd gr rfl (by simp[Value.cells]) rfl rfl rfl Y (fun a8 b6 b7 b8 Z=>fQ Z 1 ?_)
   refine uU (lJ rfl pR (lJ rfl pR (lJ rfl (qW (xQ (a:=x.v) (mm:=(gD s.im x.u (g,(gh s.im x.u).2++[b]))) (enc:=p_) (k:=.u64) 6 rfl rfl yx yk j6 rfl Z rfl) rfl rfl) (trivial)))) (jO ?_)
   refine vI (k:=.i64) (ys:=gw (gh (gD s.im x.u (g,(gh s.im x.u).2++[b])) x.v).2) (zs:=[((b:Nat):Int)]) (LL:=fun G=>[ig .i64 (Z3 a8) 3 ([((b:Nat):Int)]),ig .i64 G 3 ((gw (gh (gD s.im x.u (g,(gh s.im x.u).2++[b])) x.v).2)++([((b:Nat):Int)])),jA 3 (iZ (gD s.im x.u (g,(gh s.im x.u).2++[b])) x.v),blk q 59 (qG ((b:Nat):Int) (s.last+1) x),blk ub 169 (BW fO fM (s.last+1) s (some s.mb)),fL Lv.cells s.lv 59 7 (fN s.live b (fun _=>(⟨((b:Nat):Int),s.last+1,x.u,x.v,x.wt,x.t,x.exp⟩:Lv))),gM s.mb .u64 p_ (gD s.im x.u (g,(gh s.im x.u).2++[b])),(AW.R s.jd h),(zR s J),blk l 59 nr,blk j 57 (Zz x)]) 1 rfl rfl rfl yd gr rfl Z rfl (kO Z (i:=0) rfl) (by simp only[zq,ze,zh,gw,zo,maxLen];have h7:=F x.u;have h8:=F x.v;first|omega|(rw[tF bc.1];omega)) (by simp only[zq,ze,zh,gw,zo,maxLen];have h7:=F x.u;have h8:=F x.v;first|omega|(rw[tF bc.1];omega)) f_ ?_
   intro G b9 a9 ca
   have aG:=yg [1,2,3,4,5,6,7,8,9,10] a9
   refine fQ aG 1 ?_
   refine kJ (kZ ?_)
   refine qm (a:=x.v) (c:=(G,(gh (gD s.im x.u (g,(gh s.im x.u).2++[b])) x.v).2++[b])) (mm:=(gD s.im x.u (g,(gh s.im x.u).2++[b]))) (enc:=p_) (k:=.u64) (L' := (MM G ((gw (gh (gD s.im x.u (g,(gh s.im x.u).2++[b])) x.v).2)++([((b:Nat):Int)])) (iZ (gD s.im x.u (g,(gh s.im x.u).2++[b])) x.v) q ((b:Nat):Int) (s.last+1) x ub fO fM s (some s.mb) (fN s.live b (fun _=>(⟨((b:Nat):Int),s.last+1,x.u,x.v,x.wt,x.t,x.exp⟩:Lv))) (gD (gD s.im x.u (g,(gh s.im x.u).2++[b])) x.v (G,(gh (gD s.im x.u (g,(gh s.im x.u).2++[b])) x.v).2++[b])) h J l j)) 5 rfl rfl rfl rfl yx yk aG rfl rfl (fun ba aH=>fQ aH 1 ?_)
   have am:St _ (MH (gD (gD s.im x.u (g,(gh s.im x.u).2++[b])) x.v (G,(gh (gD s.im x.u (g,(gh s.im x.u).2++[b])) x.v).2++[b])) q ((b:Nat):Int) (s.last+1) x ub fO fM s (some s.mb) (fN s.live b (fun _=>(⟨((b:Nat):Int),s.last+1,x.u,x.v,x.wt,x.t,x.exp⟩:Lv))) h J l j) ba:=yU (by have h9:=aH;rw[<-CG]at h9;exact h9)
   refine rS tt none am 6 ?_
   refine tN (?_)
   refine iz (fS am 15 ?_)
   refine jM 7 am (fun cb an=>?_)
   refine fQ an 4 ?_
   refine nO (v:=(HA ((b:Nat):Int) (s.last+1) x)) (v' := Zc) Tryz.results127 (nE (cs:=(qG ((b:Nat):Int) (s.last+1) x)) rfl wS rfl nF rfl (lM an (i:=7) (o:=0) (vs:=(qG ((b:Nat):Int) (s.last+1) x)) rfl rfl)) (oC rfl) ?_
   have bb:=yg [2,3,4,0,5,6,1,7,8] an
   have cc:=hU.ins (e:=(⟨(b:Int),s.last+1,x.u,x.v,x.wt,x.t,x.exp⟩:Lv)) ac cd bk rfl rfl ⟨kA (by show _/\_;dsimp only;omega),oO (by show _/\_;dsimp only;omega),T.u,T.v,T.wt,T.t,T.exp⟩ bc.1 (fun z=>by rw[aF.mem,aj.mem]) (by rw[aF.n,aj.n]) (lv2:=s.lv) (ls:=fN s.live b (fun _=>(⟨((b:Nat):Int),s.last+1,x.u,x.v,x.wt,x.t,x.exp⟩:Lv))) (by unfold x8;rw[if_neg o_]<;>rfl) (im2:=(gD (gD s.im x.u (g,(gh s.im x.u).2++[b])) x.v (G,(gh (gD s.im x.u (g,(gh s.im x.u).2++[b])) x.v).2++[b]))) (by rw[tF bc.1];rfl)
   exact⟨b,(⟨s.jd,s.tb,s.ab,s.mb,s.lv,s.last+1,h,J,fN s.live b (fun _=>(⟨((b:Nat):Int),s.last+1,x.u,x.v,x.wt,x.t,x.exp⟩:Lv)),(gD (gD s.im x.u (g,(gh s.im x.u).2++[b])) x.v (G,(gh (gD s.im x.u (g,(gh s.im x.u).2++[b])) x.v).2++[b]))⟩:fW),rfl,⟨cc.2,rfl⟩,yo (yr (p:=fW.ok fO fM (⟨s.jd,s.tb,s.ab,s.mb,s.lv,s.last+1,h,J,fN s.live b (fun _=>(⟨((b:Nat):Int),s.last+1,x.u,x.v,x.wt,x.t,x.exp⟩:Lv)),(gD (gD s.im x.u (g,(gh s.im x.u).2++[b])) x.v (G,(gh (gD s.im x.u (g,(gh s.im x.u).2++[b])) x.v).2++[b]))⟩:fW)) (yc [_,_,_,_,_,_] _ bb) cc.1) za⟩
end
section
open Go Go.Sx
end
end Go.Proofs.YtoceanggliccgaaGreatDoor
namespace Go.Proofs
open Go.Shelf Go.Lib Go.Sort Go.RowKit in
def Tryz.aaC:Go.Shelf.Ren:=⟨fun|23=>119|n=>n,fun|22=>35|3=>3|4=>4|0=>0|n=>n,fun|n=>n⟩
open Go.Shelf Go.Lib Go.Sort Go.RowKit in
theorem Tryz.aaB:Go.Proofs.Lays2.n23 Proofs.Tryz.prog Tryz.aaC where
 mixed:=by kernel_rfl
 f23:=Proofs.Tryz.func119.trans (congrArg some<|by kernel_rfl)
 t0:=Proofs.Tryz.underlying0
 a0:=Proofs.Tryz.isAgg0
 z0:=Proofs.Tryz.sizeOf0
 v0:=Proofs.Tryz.zeroValue0
 t3:=Proofs.Tryz.underlying3
 a3:=Proofs.Tryz.isAgg3
 z3:=Proofs.Tryz.sizeOf3
 v3:=Proofs.Tryz.zeroValue3
 t4:=Proofs.Tryz.underlying4
 a4:=Proofs.Tryz.isAgg4
 z4:=Proofs.Tryz.sizeOf4
 v4:=Proofs.Tryz.zeroValue4
 t22:=Proofs.Tryz.underlying35
 a22:=Proofs.Tryz.isAgg35
 z22:=Proofs.Tryz.sizeOf35
 v22:=Proofs.Tryz.zeroValue35
 i3:=by kernel_rfl
end Go.Proofs
namespace Go.Proofs.YtoceanggliccgaaGreatDoor
section
open Go Go.Sx
theorem Ij(v:Value)(xs:List Int)(w:World)(i:Nat)(f:Own (ig .i64 v 3 xs) w)(hi:i<xs.length) :
 CR ya 119 #[v,.int .i64 (i:Int),.int .i64 ((i+1:Nat):Int)] w (fun r w' => fZ (ig .i64 v 3 xs) w w' (ig .i64 r 3 (xs.eraseIdx i))) :=
 Wb f hi fun b a c d e=>Any.slices_Delete_int Tryz.aaB b 0 a i (i+1) xs w c d e o_ o_
theorem Jh(v:Value)(xs:List Int)(x:Int)(k:Nat)(w:World)(hv:Ints .i64 (fun _=>True) w v xs)(A:xs.length<=1000000)(hk:xs[k]? = some x)(t:∀ (j:Nat) (y:Int),j<k->xs[j]? = some y->y≠x) :
 CR ya 118 #[v,(Za x)] w (fun r w' => r = .int .i64 (k:Int)/\gx [] w w'):=by
 have z:=(zg.1 hk).1
 refine en Tryz.func118 Tryz.ntmps118 ?_
 have o:=yt w
 refine fS o 9 ?_
 refine kX (v:=v) rfl rfl yd hv (gF o 4 ?_)
 refine lp (α:=Nat) (fun q=>[(0,v),(1,(Za x)),(7,(Za xs.length)),(8,(Za q))]) (fun q w1=>St [(w,[])] [] w1/\q<=k) (fun q=>k-q) 0 ⟨rfl,rfl,rfl,gm rO,trivial⟩ (⟨o,o_⟩) ?_
 rintro q d e ⟨m,B⟩
 obtain⟨y,n⟩:=pK (show q<xs.length by omega)
 refine fS m 2 ?_
 refine cmp rfl rfl rfl (pI o_) (fK m 19 ?_)
 refine Cn (i:=(q:Int)) (el:=y) rfl rfl rfl yd gr (St.EZ m s_ hv) o_ (by rw[show ((q:Nat):Int).toNat=q by omega];exact n) ?_
 intro f g b c h
 have l:=c.i64
 refine ld rfl rfl yf rfl b ?_
 by_cases a:(x:Int)=(y:Int)
 . have u:q=k:=(xd q k).elim (fun p=>absurd (show y=x from by have s:=a;omega) (t q y p n)) (fun p=>by omega)
   refine fQ m 16 ?_
   refine gq (v:=(Za q)) Tryz.results118 rfl ?_
   obtain rfl:q=k:=by omega
   exact⟨rfl,m.gz s_⟩
 . have u:q≠k:=by rintro rfl;rw[hk]at n;cases n;exact(by have s:=a;omega:False)
   refine fQ m 11 ?_
   refine tN (?_)
   exact again (q+1) ⟨rfl,rfl,rfl,gm rO,trivial⟩ (⟨m,o_⟩) (by show (k-(q+1):Nat)<k-q;omega)
theorem TF(fO fM ub:Nat)(s:fW)(w:World)(hO:Own (fW.R fO fM ub s) w)(i:Nat)(hi:s.A.gY i) :
 CR ya 65 (Zm ub i) w (fun r w' => ∃ (s2:fW),r = .tuple #[(zJ (fJ s.live i)),.int .i64 0]/\((∀ y,s2.has y↔s.has y/\y.slot≠(i:Int))/\s2.last=s.last)/\fZ (fW.R fO fM ub s) w w' (fW.R fO fM ub s2)):=by
 have cb:s.t.A.used<=s.t.A.n:=hO.fact.tok.ul
 have b6:=hO.fact.n
 have b7:=hO.fact.tn
 have b5:=hO.fact.en
 have b8:=hO.fact.vn
 have b4:s.A.used<=s.A.begun:=by have T:=hO.fact.kU.used;omega
 have b3:=hO.fact.kU.le
 have ca:=hO.fact.ll
 have b9:=hi.1
 have bY:=hO.fact.ne i hi
 refine en Tryz.func65 Tryz.ntmps65 ?_
 have b2:=Own.of hO.un
 have F:s.ok fO fM:=hO.fact
 refine fS b2 2 ?_
 refine iH b2 (fun C aP bE bF ak=>?_)
 have aQ:=yg [1,2,3,4,5,6,0] ak
 have al:=yr (p:=s.ok fO fM) (yc [_,_,_,_,_,_] _ aQ) F
 refine fK ak 7 ?_
 refine cl Ak (Bd fO fM ub s aP (ye al 0 rfl)) ?_
 rintro _ aR ⟨rfl,ht⟩
 have aS:=ym 0 al ht
 have X:=(jP aS).unpack
 refine fK X 14 ?_
 refine cl Oh (TP s.jd s.aw aR (ye X 4 rfl) i hi) ?_
 rintro _ bG ⟨g,rfl,S,ht⟩
 have Y:=ym 4 X ht
 have bX:=(y0 Y (i:=4) rfl:g.A.ok)
 refine fK Y 21 ?_
 refine iH Y (fun D bH bI bJ aT=>?_)
 refine gJ aT 10 fun bK am=>?_
 refine ja (pvs:=[]) (v:=.agg G8) rfl rfl (jq [] nF Kf rfl trivial rfl) (fK am 1 ?_)
 refine iO (f:=(fun _=>(⟨0,0,0,0,0,0,0⟩:Lv))) 2 am (fun aU K=>?_)
 refine fK K 11 ?_
 refine ja (pvs:=[(0,(Zn ((fJ s.live i).u))),(1,(Zn ((fJ s.live i).v)))]) (v:=.agg (vq ((fJ s.live i).u) ((fJ s.live i).v))) rfl rfl (ur [(0,(Zq ((fJ s.live i).u))),(1,(Zq ((fJ s.live i).v)))] tO y9 jD rfl ⟨rfl,rfl,rfl,rfl,trivial⟩ rfl s_) (gF K 4 ?_)
 refine ri 3 (iz (fS K 13 ?_))
 refine mB (i:=0) rfl rfl rfl y9 yk rfl jD d_ rfl ?_
 have aV:=yg [4,0,1,2,3,5,6,7] K
 have L:=yW ((fJ s.live i).u) aV
 refine fK K 10 ?_
 refine pM (a:=(fJ s.live i).u) (mm:=s.im) (enc:=p_) (k:=.u64) 5 rfl rfl rfl yx yk j6 rfl L rfl (sL (v:=((pE s i).1)) rfl rfl (fK L 5 ?_))
 refine mv (v:=((pE s i).1)) rfl rfl ?_
 have aW:=((F.inc (fJ s.live i).u i).2 ⟨hi,.inl rfl⟩)
 obtain⟨b,an,ao,aX⟩:=Jc aW (F.nd _)
 have aY:b<(gw (pE s i).2).length:=(zg.1 ao).1
 have ap:(gw (pE s i).2).length<=1000000:=by rw[gw,zo];exact kS (F.Jg _) d_
 refine fK L 1 ?_
 refine cl Iw (Jh ((pE s i).1) (gw (pE s i).2) (i:Int) b aU (wT L (i:=0) rfl (JT (by rw[gw,zo]at ap;exact fun j hj=>Jf F (fun _ h=>h) hj))).any ap ao aX) ?_
 rintro _ aZ ⟨rfl,a0⟩
 have M:=yq L a0
 refine fK M 6 ?_
 refine cmp rfl rfl rfl (nv o_) (fK M 4 ?_)
 refine mv (v:=((pE s i).1)) rfl rfl (fK M 2 ?_)
 refine ar (e:=((b+1:Nat):Int)) rfl rfl rfl rfl iT (cl Ix (Ij ((pE s i).1) (gw (pE s i).2) aZ b (ye M 0 rfl) aY) ?_)
 rintro d bL ht
 have bZ:=ym 0 M ht
 rw[JS]at bZ
 have E:=bZ
 refine fK E 7 ?_
 refine iL (m:=(gw ((pE s i).2.eraseIdx b)).length) 0 rfl rfl yd E rfl ?_
 by_cases aq:((((gw ((pE s i).2.eraseIdx b)).length:Nat):Int):Int)>(0:Int)
 . have a1:(pE s i).2.eraseIdx b≠[]:=by intro e9;have T:=@aq;rw[e9]at T;simp[gw]at T
   refine fK E 12 ?_
   refine qm (a:=(fJ s.live i).u) (c:=(d,(pE s i).2.eraseIdx b)) (mm:=s.im) (enc:=p_) (k:=.u64) (L' := (MO d (gw ((gh s.im ((fJ s.live i).u)).2.eraseIdx b)) (iZ s.im ((fJ s.live i).u)) D (fJ s.live i) ub fO fM s (some s.mb) (fN s.live i (fun _=>(⟨0,0,0,0,0,0,0⟩:Lv))) (gD s.im ((fJ s.live i).u) (d,(gh s.im ((fJ s.live i).u)).2.eraseIdx b)) g C)) 5 rfl rfl rfl rfl yx yk E rfl rfl ?_
   intro a2 au
   have Z:=yU au
   have x:nj s.im s.t (uo s i d b) s.t (fJ s.live i).u i:=nj.keep (F.nd _) an a1
   refine fQ au 10 ?_
   refine tN (?_)
   refine iz (fS Z 13 ?_)
   refine mB (i:=1) rfl rfl rfl y9 yk rfl jD d_ rfl ?_
   have N:=yW ((fJ s.live i).v) Z
   refine fK Z 10 ?_
   refine pM (a:=(fJ s.live i).v) (mm:=(uo s i d b)) (enc:=p_) (k:=.u64) 5 rfl rfl rfl yx yk j6 rfl N rfl (sL (v:=((pq s i d b).1)) rfl rfl (fK N 5 ?_))
   refine mv (v:=((pq s i d b).1)) rfl rfl ?_
   have a3:=((x.get (fJ s.live i).v i).2 ⟨(F.inc (fJ s.live i).v i).2 ⟨hi,.inr rfl⟩,fun e=>absurd e.symm bY⟩)
   obtain⟨l,av,ax,a4⟩:=Jc a3 (x.nd F.nd _)
   have a5:l<(gw (pq s i d b).2).length:=(zg.1 ax).1
   have ay:(gw (pq s i d b).2).length<=1000000:=by rw[gw,zo];exact kS (inc_le F x _) d_
   refine fK N 1 ?_
   refine cl Iw (Jh ((pq s i d b).1) (gw (pq s i d b).2) (i:Int) l a2 (wT N (i:=0) rfl (JT (by rw[gw,zo]at ay;exact fun j hj=>Jf F (fun _ h=>((x.get _ _).1 h).1) hj))).any ay ax a4) ?_
   rintro _ a6 ⟨rfl,a7⟩
   have O:=yq N a7
   refine fK O 6 ?_
   refine cmp rfl rfl rfl (nv o_) (fK O 4 ?_)
   refine mv (v:=((pq s i d b).1)) rfl rfl (fK O 2 ?_)
   refine ar (e:=((l+1:Nat):Int)) rfl rfl rfl rfl iT (cl Ix (Ij ((pq s i d b).1) (gw (pq s i d b).2) a6 l (ye O 0 rfl) a5) ?_)
   rintro G bM ht
   have b0:=ym 0 O ht
   rw[JS]at b0
   have H:=b0
   refine fK H 7 ?_
   refine iL (m:=(gw ((pq s i d b).2.eraseIdx l)).length) 0 rfl rfl yd H rfl ?_
   by_cases az:((((gw ((pq s i d b).2.eraseIdx l)).length:Nat):Int):Int)>(0:Int)
   . have a8:(pq s i d b).2.eraseIdx l≠[]:=by intro e9;have T:=@az;rw[e9]at T;simp[gw]at T
     refine fK H 12 ?_
     refine qm (a:=(fJ s.live i).v) (c:=(G,(pq s i d b).2.eraseIdx l)) (mm:=(uo s i d b)) (enc:=p_) (k:=.u64) (L' := (MO G (gw ((gh (gD s.im ((fJ s.live i).u) (d,(gh s.im ((fJ s.live i).u)).2.eraseIdx b)) ((fJ s.live i).v)).2.eraseIdx l)) (iZ (gD s.im ((fJ s.live i).u) (d,(gh s.im ((fJ s.live i).u)).2.eraseIdx b)) ((fJ s.live i).v)) D (fJ s.live i) ub fO fM s (some s.mb) (fN s.live i (fun _=>(⟨0,0,0,0,0,0,0⟩:Lv))) (gD (gD s.im ((fJ s.live i).u) (d,(gh s.im ((fJ s.live i).u)).2.eraseIdx b)) ((fJ s.live i).v) (G,(gh (gD s.im ((fJ s.live i).u) (d,(gh s.im ((fJ s.live i).u)).2.eraseIdx b)) ((fJ s.live i).v)).2.eraseIdx l)) g C)) 5 rfl rfl rfl rfl yx yk H rfl rfl ?_
     intro bN aA
     have aB:=yU aA
     have a9:nj (uo s i d b) s.t (Hy s i d b G l) s.t (fJ s.live i).v i:=nj.keep (x.nd F.nd _) av a8
     refine fQ aA 10 ?_
     refine tN (?_)
     refine iz (fS aB 15 ?_)
     refine jM 7 aB (fun bO aa=>?_)
     refine fQ aa 4 ?_
     refine nO (v:=(zJ (fJ s.live i))) (v' := Zc) Gs (nE (cs:=(Z9 (fJ s.live i))) rfl wS rfl nF rfl (lM aa (i:=7) (o:=0) (vs:=(Z9 (fJ s.live i))) rfl rfl)) (oC rfl) ?_
     have aC:=yg [2,3,4,0,5,6,1,7] aa
     have bW:=(y0 aC (i:=5) rfl:s.t.ok)
     have bk:=F.rem hi S bX bW x a9 (lv2:=s.lv) (ls:=fN s.live i (fun _=>(⟨0,0,0,0,0,0,0⟩:Lv))) rfl
     exact⟨(⟨s.jd,s.tb,s.ab,s.mb,s.lv,s.last,g,s.t,fN s.live i (fun _=>(⟨0,0,0,0,0,0,0⟩:Lv)),(Hy s i d b G l)⟩:fW),rfl,⟨bk.2,rfl⟩,yo (yr (p:=fW.ok fO fM (⟨s.jd,s.tb,s.ab,s.mb,s.lv,s.last,g,s.t,fN s.live i (fun _=>(⟨0,0,0,0,0,0,0⟩:Lv)),(Hy s i d b G l)⟩:fW)) (yc [_,_,_,_,_,_] _ aC) bk.1) za⟩
   . have ba:(pq s i d b).2.eraseIdx l=[]:=by have T:=@az;simp only[gw,zo]at T;exact tT o_
     have bb:=yg [1,2,3,4,5,6,7,8] H
     refine fK H 13 ?_
     refine B7 (a:=(fJ s.live i).v) (mm:=(uo s i d b)) (enc:=p_) (k:=.u64) (L' := (MJ (iZ (gD s.im ((fJ s.live i).u) (d,(gh s.im ((fJ s.live i).u)).2.eraseIdx b)) ((fJ s.live i).v)) D (fJ s.live i) ub fO fM s (some s.mb) (fN s.live i (fun _=>(⟨0,0,0,0,0,0,0⟩:Lv))) g C)) 4 rfl rfl rfl yx yk bb rfl rfl ?_
     intro bc ac
     obtain⟨bd,be,bf⟩:=((x.mem (fJ s.live i).v).2 ⟨(F.mem (fJ s.live i).v).2 ⟨i,hi,.inr rfl⟩,fun e=>absurd e.symm bY⟩)
     refine fK ac 8 ?_
     refine cl Iz (KX s.tb s.ab s.t bc (ye ac 6 rfl) (fJ s.live i).v bd be bf) ?_
     rintro _ bP ⟨U,rfl,aD,ht⟩
     have ad:=ym 6 ac ht
     have bg:nj (uo s i d b) s.t (Hx s i d b) U (fJ s.live i).v i:=nj.drop (x.keys F.keys) (x.nd F.nd _) av ba aD.1 aD.2.1
     refine fQ ad 7 ?_
     refine tN (?_)
     refine iz (fS ad 15 ?_)
     refine jM 7 ad (fun bQ ae=>?_)
     refine fQ ae 4 ?_
     refine nO (v:=(zJ (fJ s.live i))) (v' := Zc) Gs (nE (cs:=(Z9 (fJ s.live i))) rfl wS rfl nF rfl (lM ae (i:=7) (o:=0) (vs:=(Z9 (fJ s.live i))) rfl rfl)) (oC rfl) ?_
     have aE:=yg [2,3,4,0,5,6,1,7] ae
     have bW:=(y0 aE (i:=5) rfl:U.ok)
     have bk:=F.rem hi S bX bW x bg (lv2:=s.lv) (ls:=fN s.live i (fun _=>(⟨0,0,0,0,0,0,0⟩:Lv))) rfl
     exact⟨(⟨s.jd,s.tb,s.ab,s.mb,s.lv,s.last,g,U,fN s.live i (fun _=>(⟨0,0,0,0,0,0,0⟩:Lv)),(Hx s i d b)⟩:fW),rfl,⟨bk.2,rfl⟩,yo (yr (p:=fW.ok fO fM (⟨s.jd,s.tb,s.ab,s.mb,s.lv,s.last,g,U,fN s.live i (fun _=>(⟨0,0,0,0,0,0,0⟩:Lv)),(Hx s i d b)⟩:fW)) (yc [_,_,_,_,_,_] _ aE) bk.1) za⟩
 . have bh:(pE s i).2.eraseIdx b=[]:=by have T:=@aq;simp only[gw,zo]at T;exact tT o_
   have bi:=yg [1,2,3,4,5,6,7,8] E
   refine fK E 13 ?_
   refine B7 (a:=(fJ s.live i).u) (mm:=s.im) (enc:=p_) (k:=.u64) (L' := (MJ (iZ s.im ((fJ s.live i).u)) D (fJ s.live i) ub fO fM s (some s.mb) (fN s.live i (fun _=>(⟨0,0,0,0,0,0,0⟩:Lv))) g C)) 4 rfl rfl rfl yx yk bi rfl rfl ?_
   intro bj af
   obtain⟨bl,bm,bn⟩:=((F.mem (fJ s.live i).u).2 ⟨i,hi,.inl rfl⟩)
   refine fK af 8 ?_
   refine cl Iz (KX s.tb s.ab s.t bj (ye af 6 rfl) (fJ s.live i).u bl bm bn) ?_
   rintro _ bo ⟨z,rfl,aF,ht⟩
   have V:=ym 6 af ht
   have B:nj s.im s.t (um s i) z (fJ s.live i).u i:=nj.drop F.keys (F.nd _) an bh aF.1 aF.2.1
   refine fQ V 7 ?_
   refine tN (?_)
   refine iz (fS V 13 ?_)
   refine mB (i:=1) rfl rfl rfl y9 yk rfl jD d_ rfl ?_
   have P:=yW ((fJ s.live i).v) V
   refine fK V 10 ?_
   refine pM (a:=(fJ s.live i).v) (mm:=(um s i)) (enc:=p_) (k:=.u64) 5 rfl rfl rfl yx yk j6 rfl P rfl (sL (v:=((oK s i).1)) rfl rfl (fK P 5 ?_))
   refine mv (v:=((oK s i).1)) rfl rfl ?_
   have bp:=((B.get (fJ s.live i).v i).2 ⟨(F.inc (fJ s.live i).v i).2 ⟨hi,.inr rfl⟩,fun e=>absurd e.symm bY⟩)
   obtain⟨q,aG,aH,bq⟩:=Jc bp (B.nd F.nd _)
   have br:q<(gw (oK s i).2).length:=(zg.1 aH).1
   have aI:(gw (oK s i).2).length<=1000000:=by rw[gw,zo];exact kS (inc_le F B _) d_
   refine fK P 1 ?_
   refine cl Iw (Jh ((oK s i).1) (gw (oK s i).2) (i:Int) q bo (wT P (i:=0) rfl (JT (by rw[gw,zo]at aI;exact fun j hj=>Jf F (fun _ h=>((B.get _ _).1 h).1) hj))).any aI aH bq) ?_
   rintro _ bs ⟨rfl,bt⟩
   have Q:=yq P bt
   refine fK Q 6 ?_
   refine cmp rfl rfl rfl (nv o_) (fK Q 4 ?_)
   refine mv (v:=((oK s i).1)) rfl rfl (fK Q 2 ?_)
   refine ar (e:=((q+1:Nat):Int)) rfl rfl rfl rfl iT (cl Ix (Ij ((oK s i).1) (gw (oK s i).2) bs q (ye Q 0 rfl) br) ?_)
   rintro I bR ht
   have b1:=ym 0 Q ht
   rw[JS]at b1
   have J:=b1
   refine fK J 7 ?_
   refine iL (m:=(gw ((oK s i).2.eraseIdx q)).length) 0 rfl rfl yd J rfl ?_
   by_cases aJ:((((gw ((oK s i).2.eraseIdx q)).length:Nat):Int):Int)>(0:Int)
   . have bu:(oK s i).2.eraseIdx q≠[]:=by intro e9;have T:=@aJ;rw[e9]at T;simp[gw]at T
     refine fK J 12 ?_
     refine qm (a:=(fJ s.live i).v) (c:=(I,(oK s i).2.eraseIdx q)) (mm:=(um s i)) (enc:=p_) (k:=.u64) (L' := [ig .i64 I 3 (gw ((oK s i).2.eraseIdx q)),jA 3 (zH s i),blk D 59 (Z9 (fJ s.live i)),blk ub 169 (pg fO fM s (some s.mb)),fL Lv.cells s.lv 59 7 (fN s.live i (fun _=>(⟨0,0,0,0,0,0,0⟩:Lv))),gM s.mb .u64 p_ (Ea s i I q),(AW.R s.jd g),(zR s z),blk C 59 nr]) 5 rfl rfl rfl rfl yx yk J rfl rfl ?_
     intro bS aK
     have aL:=yU aK
     have bv:nj (um s i) z (Ea s i I q) z (fJ s.live i).v i:=nj.keep (B.nd F.nd _) aG bu
     refine fQ aK 10 ?_
     refine tN (?_)
     refine iz (fS aL 15 ?_)
     refine jM 7 aL (fun bT ag=>?_)
     refine fQ ag 4 ?_
     refine nO (v:=(zJ (fJ s.live i))) (v' := Zc) Gs (nE (cs:=(Z9 (fJ s.live i))) rfl wS rfl nF rfl (lM ag (i:=7) (o:=0) (vs:=(Z9 (fJ s.live i))) rfl rfl)) (oC rfl) ?_
     have aM:=yg [2,3,4,0,5,6,1,7] ag
     have bW:=(y0 aM (i:=5) rfl:z.ok)
     have bk:=F.rem hi S bX bW B bv (lv2:=s.lv) (ls:=fN s.live i (fun _=>(⟨0,0,0,0,0,0,0⟩:Lv))) rfl
     exact⟨(⟨s.jd,s.tb,s.ab,s.mb,s.lv,s.last,g,z,fN s.live i (fun _=>(⟨0,0,0,0,0,0,0⟩:Lv)),(Ea s i I q)⟩:fW),rfl,⟨bk.2,rfl⟩,yo (yr (p:=fW.ok fO fM (⟨s.jd,s.tb,s.ab,s.mb,s.lv,s.last,g,z,fN s.live i (fun _=>(⟨0,0,0,0,0,0,0⟩:Lv)),(Ea s i I q)⟩:fW)) (yc [_,_,_,_,_,_] _ aM) bk.1) za⟩
   . have bw:(oK s i).2.eraseIdx q=[]:=by have T:=@aJ;simp only[gw,zo]at T;exact tT o_
     have bx:=yg [1,2,3,4,5,6,7,8] J
     refine fK J 13 ?_
     refine B7 (a:=(fJ s.live i).v) (mm:=(um s i)) (enc:=p_) (k:=.u64) (L' := [jA 3 (zH s i),blk D 59 (Z9 (fJ s.live i)),blk ub 169 (pg fO fM s (some s.mb)),fL Lv.cells s.lv 59 7 (fN s.live i (fun _=>(⟨0,0,0,0,0,0,0⟩:Lv))),gM s.mb .u64 p_ (zH s i),(AW.R s.jd g),(zR s z),blk C 59 nr]) 4 rfl rfl rfl yx yk bx rfl rfl ?_
     intro bz ah
     obtain⟨bA,bB,bC⟩:=((B.mem (fJ s.live i).v).2 ⟨(F.mem (fJ s.live i).v).2 ⟨i,hi,.inr rfl⟩,fun e=>absurd e.symm bY⟩)
     refine fK ah 8 ?_
     refine cl Iz (KX s.tb s.ab z bz (ye ah 6 rfl) (fJ s.live i).v bA bB bC) ?_
     rintro _ bU ⟨W,rfl,aN,ht⟩
     have ai:=ym 6 ah ht
     have bD:nj (um s i) z (zH s i) W (fJ s.live i).v i:=nj.drop (B.keys F.keys) (B.nd F.nd _) aG bw aN.1 aN.2.1
     refine fQ ai 7 ?_
     refine tN (?_)
     refine iz (fS ai 15 ?_)
     refine jM 7 ai (fun bV aj=>?_)
     refine fQ aj 4 ?_
     refine nO (v:=(zJ (fJ s.live i))) (v' := Zc) Gs (nE (cs:=(Z9 (fJ s.live i))) rfl wS rfl nF rfl (lM aj (i:=7) (o:=0) (vs:=(Z9 (fJ s.live i))) rfl rfl)) (oC rfl) ?_
     have aO:=yg [2,3,4,0,5,6,1,7] aj
     have bW:=(y0 aO (i:=5) rfl:W.ok)
     have bk:=F.rem hi S bX bW B bD (lv2:=s.lv) (ls:=fN s.live i (fun _=>(⟨0,0,0,0,0,0,0⟩:Lv))) rfl
     exact⟨(⟨s.jd,s.tb,s.ab,s.mb,s.lv,s.last,g,W,fN s.live i (fun _=>(⟨0,0,0,0,0,0,0⟩:Lv)),(zH s i)⟩:fW),rfl,⟨bk.2,rfl⟩,yo (yr (p:=fW.ok fO fM (⟨s.jd,s.tb,s.ab,s.mb,s.lv,s.last,g,W,fN s.live i (fun _=>(⟨0,0,0,0,0,0,0⟩:Lv)),(zH s i)⟩:fW)) (yc [_,_,_,_,_,_] _ aO) bk.1) za⟩
end
section
open Go Go.Sx
theorem agW(fO fM:Nat)(w:World)(hv:fO<=4096)(I:fM<=16384) :
 CR ya 108 #[(Za fO),(Za fM),tj] w (fun r w' => ∃ (ub:Nat) (s:fW),r = .tuple (Zy ub)/\((∀ y,¬ s.has y)/\s.last=0)/\fZ (gj []) w w' (fW.R fO fM ub s)):=by
 refine en Tryz.func108 Tryz.ntmps108 ?_
 have F:=yt w
 refine fS F 10 ?_
 refine cmp rfl rfl rfl (kV o_) (fK F 2 ?_)
 refine cmp rfl rfl rfl (pJ o_) (fK F 3 ?_)
 refine cmp rfl rfl rfl (kV o_) (fK F 3 ?_)
 refine cmp rfl rfl rfl (pJ o_) (fK F 13 ?_)
 refine cl Ov (TZ fM w o_) ?_
 rintro _ o ⟨a,f,rfl,q,G⟩
 have h:=(jJ F G)
 refine fK h 20 ?_
 refine cl W1 (agG fO o o_) ?_
 rintro _ z ⟨b,d,e,rfl,j,G⟩
 have k:=(jJ h G)
 refine fK k 24 ?_
 refine mkV p_ .u64 rfl rfl k (fun c A B C t=>ja (pvs:=[(0,(Za fO)),(1,(Za fM)),(2,tj),(3,(Zb a)),(4,(Zb b)),(6,(.map (some c)))]) (v:=.agg #[(Za fO),(Za fM),tj,(Zb a),(Zb b),Zg,(.map (some c))]) rfl rfl (jq [(0,(Ze fO)),(1,(Ze fM)),(2,BM),(3,(Zh a)),(4,(Zh b)),(6,[(.map (some c))])] S6 acn rfl ⟨rfl,rfl,rfl,rfl,rfl,rfl,rfl,rfl,rfl,rfl,rfl,rfl,trivial⟩ rfl) (ij t (fun g l D E m=>?_)))
 refine fQ m 5 ?_
 refine iC (v:=(Zb g)) (v' := Zc) Tryz.results108 rfl rfl ?_
 have u:St _ [fL Lv.cells Zg 59 7 ([]),blk g 169 (MR fO fM a b (some c)),gM c .u64 p_ ([]),(TW.R b d e),(AW.R a f)] l:=oU m 59 7
 have x:St _ [jA 3 [],fL Lv.cells Zg 59 7 ([]),blk g 169 (MR fO fM a b (some c)),gM c .u64 p_ ([]),(TW.R b d e),(AW.R a f)] l:=St.IV u
 have n:=yg [2,1,3,0,5,4] x
 have J:=(y0 n (i:=5) rfl:e.ok)
 have H:=fW.tG q J j.1 j.2.1 I hv a b d c
 exact⟨g,(⟨a,b,d,c,.slice none 0 0,0,f,e,[],[]⟩:fW),rfl,⟨H.2,rfl⟩,uY (yr (p:=fW.ok fO fM (⟨a,b,d,c,.slice none 0 0,0,f,e,[],[]⟩:fW)) (yc [_,_,_,_,_,_] _ n) H.1) s_⟩
end
section
open Go Go.Sx
theorem ad8(fb nb m:Nat)(ed:Int)(xs:List Nd)(w:World)(g:(zV fb nb m ed).holds w)(f:(blk nb 352 (xs.flatMap Nd.cells)).holds w)(hm:xs.length=m)(hb:m<=1000001)(e:gf xs)(i:Nat)(hi:i<m) :
 CR ya 289 (Zm fb i) w (fun r w' => r = .tuple (p8 ((jC xs i).1:Int) ((jC xs i).2))/\gx [] w w'):=by
 have h:=e.up i o_
 refine en Tryz.func289 Tryz.ntmps289 ?_
 have d:=yt w
 refine fS d 23 ?_
 by_cases a:(((fJ xs i).up:Int):Int)=(0:Int)
 . refine fQ d 12 ?_
   refine iC (v:=Zc) (v' := Zp) Gn rfl rfl ?_
   exact⟨by simp only[jC];(repeat' split)<;>(first|rfl|omega),d.gz s_⟩
 . refine fK d 14 ?_
   refine jj (o' := ((fJ xs i).up)*9+0) (i:=((fJ xs i).up:Int)) rfl rfl rfl yh jh o_ o_ (gF d 6 ?_)
   refine ri 3 (iz (fS d 14 ?_))
   refine mB (i:=0) rfl rfl rfl yn yf rfl gr d_ rfl (fK d 8 ?_)
   by_cases b:(((fJ xs ((fJ xs i).up)).k0:Int):Int)=((i:Int):Int)
   . refine fQ d 17 ?_
     refine iC (v:=Zc) (v' := Zf) Gn rfl rfl ?_
     exact⟨by simp only[jC];(repeat' split)<;>(first|rfl|omega),d.gz s_⟩
   . refine fQ d 11 ?_
     refine tN (?_)
     refine iz (fS d 14 ?_)
     refine mB (i:=1) rfl rfl rfl yn yf rfl gr d_ rfl (fK d 8 ?_)
     by_cases c:(((fJ xs ((fJ xs i).up)).k1:Int):Int)=((i:Int):Int)
     . refine fQ d 17 ?_
       refine iC (v:=qH) (v' := Zf) Gn rfl rfl ?_
       exact⟨by simp only[jC];(repeat' split)<;>(first|rfl|omega),d.gz s_⟩
     . refine fQ d 11 ?_
       refine tN (?_)
       refine iz (iN d 19 ?_)
       refine iC (v:=Zc) (v' := Zp) Gn rfl rfl ?_
       exact⟨by simp only[jC];(repeat' split)<;>(first|rfl|omega),d.gz s_⟩
theorem Em(fb nb m:Nat)(ed:Int)(xs:List Nd)(w:World)(k:(zV fb nb m ed).holds w)(h:(blk nb 352 (xs.flatMap Nd.cells)).holds w)(hm:xs.length=m)(hb:m<=1000001)(g:gf xs)(i j:Nat)(hi:i<m)(l:j<m) :
 CR ya 271 (Zu fb i j) w (fun r w' => r = .bool (k8 xs i j)/\gx [] w w'):=by
 refine en Tryz.func271 Tryz.ntmps271 ?_
 have f:=yt w
 refine oD f 31 fun b a=>?_
 by_cases c:((fJ xs i).key:Int)<((fJ xs j).key:Int)
 . refine fQ a 15 ?_
   refine gq (v:=Zf) Gl rfl ?_
   exact⟨EI ((decide_eq_true o_).symm),a.gz s_⟩
 . refine fK a 4 ?_
   by_cases d:((fJ xs i).key:Int)=((fJ xs j).key:Int)
   . refine fK a 4 ?_
     by_cases e:((i:Int):Int)<((j:Int):Int)
     . refine fQ a 7 ?_
       refine gq (v:=Zf) Gl rfl ?_
       exact⟨EI ((decide_eq_true o_).symm),a.gz s_⟩
     . refine fQ a 7 ?_
       refine gq (v:=Zp) Gl rfl ?_
       exact⟨EI ((decide_eq_false o_).symm),a.gz s_⟩
   . refine fQ a 11 ?_
     refine gq (v:=Zp) Gl rfl ?_
     exact⟨EI ((decide_eq_false o_).symm),a.gz s_⟩
theorem rL(fb nb m:Nat)(ed:Int)(xs:List Nd)(w:World)(p:Own (Zl fb nb m ed xs) w)(hm:xs.length=m)(hb:m<=1000001)(q:gf xs)(i k:Nat)(hi:i<m)(hk:k<m) :
 CR ya 300 #[(Zb fb),(Za i),Zc,(Za k)] w (fun r w' => r = .tuple #[]/\fZ (Zl fb nb m ed xs) w w' (Zl fb nb m ed (iX xs i 0 k))):=by
 refine en Tryz.func300 Tryz.ntmps300 ?_
 have n:=(yp p).unpack
 refine fS n 11 ?_
 refine jB (o:=i*9+0) (o' := i*9+0) (i:=0) rfl rfl rfl yn gr d_ rfl (jU (f:=(fun x:Nd=>{ x with k0:=k })) 1 n (fun c a d=>?_))
 refine fK a 5 ?_
 by_cases e:((k:Int):Int)=(0:Int)
 . refine fQ a 5 ?_
   refine iQ Gq ?_
   have l:iX xs i 0 k=fN xs i (fun x=>{ x with k0:=k }):=by simp only[iX,reduceIte,Dx];(repeat' split)<;>(first|rfl|omega)
   have j:=a
   rw[<-l]at j
   exact⟨rfl,yj (yc [_,_] [] j)⟩
 . refine fK a 13 ?_
   refine jU (f:=(fun x:Nd=>{ x with up:=i })) 1 a (fun g b h=>?_)
   refine fQ b 1 ?_
   refine iQ Gq ?_
   have l:iX xs i 0 k=fN (fN xs i (fun x=>{ x with k0:=k })) k (fun x=>{ x with up:=i }):=by simp only[iX,reduceIte,Dx];(repeat' split)<;>(first|rfl|omega)
   have j:=b
   rw[<-l]at j
   exact⟨rfl,yj (yc [_,_] [] j)⟩
theorem rM(fb nb m:Nat)(ed:Int)(xs:List Nd)(w:World)(p:Own (Zl fb nb m ed xs) w)(hm:xs.length=m)(hb:m<=1000001)(q:gf xs)(i k:Nat)(hi:i<m)(hk:k<m) :
 CR ya 300 #[(Zb fb),(Za i),qH,(Za k)] w (fun r w' => r = .tuple #[]/\fZ (Zl fb nb m ed xs) w w' (Zl fb nb m ed (iX xs i 1 k))):=by
 refine en Tryz.func300 Tryz.ntmps300 ?_
 have n:=(yp p).unpack
 refine fS n 11 ?_
 refine jB (o:=i*9+0) (o' := i*9+1) (i:=1) rfl rfl rfl yn gr d_ rfl (jU (f:=(fun x:Nd=>{ x with k1:=k })) 1 n (fun c a d=>?_))
 refine fK a 5 ?_
 by_cases e:((k:Int):Int)=(0:Int)
 . refine fQ a 5 ?_
   refine iQ Gq ?_
   have l:iX xs i 1 k=fN xs i (fun x=>{ x with k1:=k }):=by simp only[iX,reduceIte,Dx];(repeat' split)<;>(first|rfl|omega)
   have j:=a
   rw[<-l]at j
   exact⟨rfl,yj (yc [_,_] [] j)⟩
 . refine fK a 13 ?_
   refine jU (f:=(fun x:Nd=>{ x with up:=i })) 1 a (fun g b h=>?_)
   refine fQ b 1 ?_
   refine iQ Gq ?_
   have l:iX xs i 1 k=fN (fN xs i (fun x=>{ x with k1:=k })) k (fun x=>{ x with up:=i }):=by simp only[iX,reduceIte,Dx];(repeat' split)<;>(first|rfl|omega)
   have j:=b
   rw[<-l]at j
   exact⟨rfl,yj (yc [_,_] [] j)⟩
theorem Ki(fb nb m:Nat)(ed:Int)(xs:List Nd)(w:World)(hO:Own (Zl fb nb m ed xs) w)(hm:xs.length=m)(hb:m<=1000001)(hI:gf xs)(i:Nat)(hi:i<m) :
 CR ya 291 (Zm fb i) w (fun r w' => r = .tuple #[]/\fZ (Zl fb nb m ed xs) w w' (Zl fb nb m ed (jT xs i))):=by
 refine en Tryz.func291 Tryz.ntmps291 ?_
 have aq:=(yp hO).unpack
 refine fS aq 7 ?_
 refine jj (o' := i*9+0) (i:=(i:Int)) rfl rfl rfl yh jh om o_ (gF aq 13 ?_)
 cases P:((fJ xs i).flip:Bool)
 . skip
   refine iN aq 3 ?_
   refine yC Dq ?_
   have T:jT xs i=xs:=by simp only[jT];(repeat' split)<;>(first|rfl|omega|simp_all)
   have F:=aq
   rw[<-T]at F
   exact⟨rfl,yj (yc [_,_] [] F)⟩
 . skip
   refine fS aq 8 ?_
   refine jU (f:=(fun x:Nd=>{ x with flip:=false })) 1 aq (fun Q C R=>?_)
   have n:gf (fN xs i (fun x=>{ x with flip:=false })):=gf.iJ hI om (fun x a b c d e=>⟨a,b,c,d,e⟩)
   obtain⟨p,y,S,n,C⟩:=iB (m:=m) n C
   refine gJ C 9 fun U D=>?_
   refine jB (o:=i*9+0) (o' := i*9+1) (i:=1) rfl rfl rfl yn gr d_ rfl (fK D 4 ?_)
   refine jB (o:=i*9+0) (o' := i*9+0) (i:=0) rfl rfl rfl yn gr d_ rfl (fK D 3 ?_)
   refine jB (o:=i*9+0) (o' := i*9+0) (i:=0) rfl rfl rfl yn gr d_ rfl (jU (f:=(fun x:Nd=>{ x with k0:=((fJ p i).k1) })) 1 D (fun V z W=>?_))
   have E:gf (fN p i (fun x=>{ x with k0:=((fJ p i).k1) })):=gf.iJ n om (fun x a b c d e=>⟨(o9 (n.k1 i om)),b,c,d,e⟩)
   obtain⟨K,A,X,E,z⟩:=iB (m:=m) E z
   refine fK z 2 ?_
   refine jB (o:=i*9+0) (o' := i*9+1) (i:=1) rfl rfl rfl yn gr d_ rfl (jU (f:=(fun x:Nd=>{ x with k1:=((fJ p i).k0) })) 1 z (fun Y j Z=>?_))
   have h:gf (fN K i (fun x=>{ x with k1:=((fJ p i).k0) })):=gf.iJ E om (fun x a b c d e=>⟨a,(o9 (n.k0 i om)),c,d,e⟩)
   obtain⟨g,B,aa,h,j⟩:=iB (m:=m) h j
   refine gF j 12 ?_
   refine ri 3 (iz (fS j 13 ?_))
   refine mB (i:=0) rfl rfl rfl yn yf rfl gr d_ rfl (fK j 6 ?_)
   by_cases ab:(((fJ g i).k0:Int):Int)=(0:Int)
   . refine fQ j 11 ?_
     refine tN (?_)
     refine iz (fS j 13 ?_)
     refine mB (i:=1) rfl rfl rfl yn yf rfl gr d_ rfl (fK j 6 ?_)
     by_cases ac:(((fJ g i).k1:Int):Int)=(0:Int)
     . refine fQ j 11 ?_
       refine tN (?_)
       refine iz (iN j 11 ?_)
       refine iQ Dq ?_
       have T:jT xs i=g:=by subst B;subst A;subst y;simp only[jT];(repeat' split)<;>(first|rfl|omega|simp_all)
       have F:=j
       rw[<-T]at F
       exact⟨rfl,yj (yc [_,_] [] F)⟩
     . refine gJ j 15 fun ad q=>?_
       refine jj (o' := ((fJ g i).k1)*9+0) (i:=((fJ g i).k1:Int)) rfl rfl rfl yh jh (o9 (show ((fJ g i).k1)<(g).length from(o9 (h.k1 i om)))) o_ (fK q 1 ?_)
       refine ld rfl rfl mY rfl (mK q (i:=1) rfl f_ (o9 (h.k1 i om)) rfl) (fK q 1 ?_)
       refine jj (o' := ((fJ g i).k1)*9+0) (i:=((fJ g i).k1:Int)) rfl rfl rfl yh jh (o9 (show ((fJ g i).k1)<(g).length from(o9 (h.k1 i om)))) o_ (fK q 1 ?_)
       refine jU (f:=(fun x:Nd=>{ x with flip := !((fJ g ((fJ g i).k1)).flip) })) 1 q (fun ae s af=>?_) (hk:=(o9 (h.k1 i om)))
       have H:gf (fN g ((fJ g i).k1) (fun x=>{ x with flip := !((fJ g ((fJ g i).k1)).flip) })):=gf.iJ h (o9 (h.k1 i om)) (fun x a b c d e=>⟨a,b,c,d,e⟩)
       obtain⟨L,M,ag,H,s⟩:=iB (m:=m) H s
       refine fQ s 7 ?_
       refine tN (?_)
       refine iz (iN s 11 ?_)
       refine iQ Dq ?_
       have T:jT xs i=L:=by subst M;subst B;subst A;subst y;simp only[jT];(repeat' split)<;>(first|rfl|omega|simp_all)
       have F:=s
       rw[<-T]at F
       exact⟨rfl,yj (yc [_,_] [] F)⟩
   . refine gJ j 15 fun ah t=>?_
     refine jj (o' := ((fJ g i).k0)*9+0) (i:=((fJ g i).k0:Int)) rfl rfl rfl yh jh (o9 (show ((fJ g i).k0)<(g).length from(o9 (h.k0 i om)))) o_ (fK t 1 ?_)
     refine ld rfl rfl mY rfl (mK t (i:=1) rfl f_ (o9 (h.k0 i om)) rfl) (fK t 1 ?_)
     refine jj (o' := ((fJ g i).k0)*9+0) (i:=((fJ g i).k0:Int)) rfl rfl rfl yh jh (o9 (show ((fJ g i).k0)<(g).length from(o9 (h.k0 i om)))) o_ (fK t 1 ?_)
     refine jU (f:=(fun x:Nd=>{ x with flip := !((fJ g ((fJ g i).k0)).flip) })) 1 t (fun ai k aj=>?_) (hk:=(o9 (h.k0 i om)))
     have G:gf (fN g ((fJ g i).k0) (fun x=>{ x with flip := !((fJ g ((fJ g i).k0)).flip) })):=gf.iJ h (o9 (h.k0 i om)) (fun x a b c d e=>⟨a,b,c,d,e⟩)
     obtain⟨l,I,ak,G,k⟩:=iB (m:=m) G k
     refine fQ k 7 ?_
     refine tN (?_)
     refine iz (fS k 13 ?_)
     refine mB (i:=1) rfl rfl rfl yn yf rfl gr d_ rfl (fK k 6 ?_)
     by_cases al:(((fJ g i).k1:Int):Int)=(0:Int)
     . refine fQ k 11 ?_
       refine tN (?_)
       refine iz (iN k 11 ?_)
       refine iQ Dq ?_
       have T:jT xs i=l:=by subst I;subst B;subst A;subst y;simp only[jT];(repeat' split)<;>(first|rfl|omega|simp_all)
       have F:=k
       rw[<-T]at F
       exact⟨rfl,yj (yc [_,_] [] F)⟩
     . refine gJ k 15 fun am u=>?_
       refine jj (o' := ((fJ g i).k1)*9+0) (i:=((fJ g i).k1:Int)) rfl rfl rfl yh jh (o9 (show ((fJ g i).k1)<(l).length from(o9 (h.k1 i om)))) o_ (fK u 1 ?_)
       refine ld rfl rfl mY rfl (mK u (i:=1) rfl f_ (o9 (h.k1 i om)) rfl) (fK u 1 ?_)
       refine jj (o' := ((fJ g i).k1)*9+0) (i:=((fJ g i).k1:Int)) rfl rfl rfl yh jh (o9 (show ((fJ g i).k1)<(l).length from(o9 (h.k1 i om)))) o_ (fK u 1 ?_)
       refine jU (f:=(fun x:Nd=>{ x with flip := !((fJ l ((fJ g i).k1)).flip) })) 1 u (fun an v ao=>?_) (hk:=(o9 (h.k1 i om)))
       have J:gf (fN l ((fJ g i).k1) (fun x=>{ x with flip := !((fJ l ((fJ g i).k1)).flip) })):=gf.iJ G (o9 (h.k1 i om)) (fun x a b c d e=>⟨a,b,c,d,e⟩)
       obtain⟨N,O,ap,J,v⟩:=iB (m:=m) J v
       refine fQ v 7 ?_
       refine tN (?_)
       refine iz (iN v 11 ?_)
       refine iQ Dq ?_
       have T:jT xs i=N:=by subst O;subst I;subst B;subst A;subst y;simp only[jT];(repeat' split)<;>(first|rfl|omega|simp_all)
       have F:=v
       rw[<-T]at F
       exact⟨rfl,yj (yc [_,_] [] F)⟩
end
section
open Go Go.Sx
theorem lT(fb nb m:Nat)(ed:Int)(xs:List Nd)(w:World)(hO:Own (Zl fb nb m ed xs) w)(hm:xs.length=m)(hb:m<=1000001)(hI:gf xs)(i:Nat)(hi:i<m) :
 CR ya 226 (Zm fb i) w (fun r w' => r = .tuple #[]/\fZ (Zl fb nb m ed xs) w w' (Zl fb nb m ed (iI xs i))):=by
 refine en Tryz.func226 Tryz.ntmps226 ?_
 have bU:=(yp hO).unpack
 refine fS bU 7 ?_
 refine jj (o' := i*9+0) (i:=(i:Int)) rfl rfl rfl yh jh om o_ (fK bU 13 ?_)
 refine ar (e:=(IntKind.i64.wrap (1+(fJ xs i).iP))) rfl rfl rfl rfl rfl (fK bU 2 ?_)
 refine jU (f:=(fun x:Nd=>{ x with size:=1 })) 1 bU (fun aW az aX=>?_)
 have aH:gf (fN xs i (fun x=>{ x with size:=1 })):=gf.iJ hI om (fun x a b c d e=>⟨a,b,c,d,e⟩)
 refine fK az 2 ?_
 refine jU (f:=(fun x:Nd=>{ x with first:=i })) 1 az (fun aY aA aZ=>?_)
 have aI:gf (fN (fN xs i (fun x=>{ x with size:=1 })) i (fun x=>{ x with first:=i })):=gf.iJ aH om (fun x a b c d e=>⟨a,b,c,om,e⟩)
 refine fK aA 2 ?_
 refine jU (f:=(fun x:Nd=>{ x with total:=(IntKind.i64.wrap (1+(fJ xs i).iP)) })) 1 aA (fun a0 aB a1=>?_)
 have aJ:gf (fN (fN (fN xs i (fun x=>{ x with size:=1 })) i (fun x=>{ x with first:=i })) i (fun x=>{ x with total:=(IntKind.i64.wrap (1+(fJ xs i).iP)) })):=gf.iJ aI om (fun x a b c d e=>⟨a,b,c,d,e⟩)
 obtain⟨y,hy⟩:∃ y,y=fN xs i (fun x=>{ x with size:=1,first:=i,total:=IntKind.i64.wrap (1+x.iP) }):=⟨_,rfl⟩
 have bk:=aB
 have F:=aJ
 refine fK aB 4 ?_
 rw[ac6 o_,<-hy]at bk F
 have bV:y.length=m:=by rw[hy,gC,hm]
 refine gF bk 8 ?_
 refine ri 3 (iz (fS bk 13 ?_))
 refine mB (i:=0) rfl rfl rfl yn yf rfl gr d_ rfl (fK bk 7 ?_)
 by_cases a2:(((fJ y i).k0:Int):Int)=(0:Int)
 . refine fQ bk 12 ?_
   refine tN (?_)
   refine iz (fS bk 13 ?_)
   refine mB (i:=1) rfl rfl rfl yn yf rfl gr d_ rfl (fK bk 7 ?_)
   by_cases a3:(((fJ y i).k1:Int):Int)=(0:Int)
   . refine fQ bk 12 ?_
     refine tN (?_)
     refine iz (iN bk 11 ?_)
     refine iQ uV ?_
     have e9:iI xs i=y:=by rw[uO hy o_];first|(rw[tJ (k:=(fJ y i).k0) o_];rw[tJ (k:=(fJ y i).k1) o_])
     have T:=bk
     rw[<-e9]at T
     exact⟨rfl,yj (yc [_,_] [] T)⟩
   . refine fK bk 13 ?_
     refine jj (o' := ((fJ y i).k1)*9+0) (i:=((fJ y i).k1:Int)) rfl rfl rfl yh jh (o9 (show ((fJ y i).k1)<(y).length from(o9 (F.k1 i om)))) o_ (gJ bk 12 fun a4 V=>?_)
     refine ld rfl rfl yf rfl (mK V (i:=1) rfl f_ (o9 (F.k1 i om)) rfl) (ar (e:=(IntKind.i64.wrap ((fJ y i).size+(fJ y ((fJ y i).k1)).size))) rfl rfl rfl rfl rfl (fK V 2 ?_))
     refine jU (f:=(fun x:Nd=>{ x with size:=(IntKind.i64.wrap ((fJ y i).size+(fJ y ((fJ y i).k1)).size)) })) 1 V (fun a5 W a6=>?_)
     have X:gf (fN y i (fun x=>{ x with size:=(IntKind.i64.wrap ((fJ y i).size+(fJ y ((fJ y i).k1)).size)) })):=gf.iJ F om (fun x a b c d e=>⟨a,b,c,d,e⟩)
     obtain⟨B,R,a7,X,W⟩:=iB (m:=m) X W
     refine gJ W 11 fun a8 Y=>?_
     refine ld rfl rfl yf rfl (mK Y (i:=1) rfl f_ (o9 (F.k1 i om)) rfl) (ar (e:=(IntKind.i64.wrap ((fJ B i).total+(fJ B ((fJ y i).k1)).total))) rfl rfl rfl rfl rfl (fK Y 2 ?_))
     refine jU (f:=(fun x:Nd=>{ x with total:=(IntKind.i64.wrap ((fJ B i).total+(fJ B ((fJ y i).k1)).total)) })) 1 Y (fun a9 Z ba=>?_)
     have C:gf (fN B i (fun x=>{ x with total:=(IntKind.i64.wrap ((fJ B i).total+(fJ B ((fJ y i).k1)).total)) })):=gf.iJ X om (fun x a b c d e=>⟨a,b,c,d,e⟩)
     obtain⟨j,S,bb,C,Z⟩:=iB (m:=m) C Z
     refine gJ Z 8 fun aK J=>?_
     refine ld rfl rfl yf rfl (mK J (i:=1) rfl f_ (o9 (F.k1 i om)) rfl) (fK J 4 ?_)
     refine cl EG (Em fb nb m ed j aK (J.at (i:=0) rfl) (J.at (i:=1) rfl) oa hb C ((fJ j ((fJ y i).k1)).first) ((fJ j i).first) (o9 (C.first ((fJ y i).k1) (o9 (F.k1 i om)))) (o9 (C.first i om))) ?_
     rintro _ bc ⟨rfl,aL⟩
     have u:=yq J aL
     refine gF u 2 ?_
     cases U:(k8 j ((fJ j ((fJ y i).k1)).first) ((fJ j i).first):Bool)
     . skip
       refine iN u 8 ?_
       refine tN (?_)
       refine iz (iN u 11 ?_)
       refine iQ uV ?_
       have e9:iI xs i=j:=by rw[uO hy o_];first|(rw[tJ (k:=(fJ y i).k0) o_];rw[tH (k:=(fJ y i).k1) o_ R S U])|(rw[tH (k:=(fJ y i).k0) o_ R S U];rw[tJ (k:=(fJ y i).k1) o_])
       have T:=u
       rw[<-e9]at T
       exact⟨rfl,yj (yc [_,_] [] T)⟩
     . skip
       refine fS u 6 ?_
       refine ld rfl rfl yf rfl (mK u (i:=1) rfl f_ (o9 (F.k1 i om)) rfl) (fK u 2 ?_)
       refine jU (f:=(fun x:Nd=>{ x with first:=((fJ j ((fJ y i).k1)).first) })) 1 u (fun bd K be=>?_)
       have aC:gf (fN j i (fun x=>{ x with first:=((fJ j ((fJ y i).k1)).first) })):=gf.iJ C om (fun x a b c d e=>⟨a,b,c,(o9 (C.first ((fJ y i).k1) (o9 (F.k1 i om)))),e⟩)
       obtain⟨aM,aD,bf,aC,K⟩:=iB (m:=m) aC K
       refine fQ K 7 ?_
       refine tN (?_)
       refine iz (iN K 11 ?_)
       refine iQ uV ?_
       have e9:iI xs i=aM:=by rw[uO hy o_];first|(rw[tJ (k:=(fJ y i).k0) o_];rw[tI (k:=(fJ y i).k1) o_ R S U aD])|(rw[tI (k:=(fJ y i).k0) o_ R S U aD];rw[tJ (k:=(fJ y i).k1) o_])
       have T:=K
       rw[<-e9]at T
       exact⟨rfl,yj (yc [_,_] [] T)⟩
 . refine fK bk 13 ?_
   refine jj (o' := ((fJ y i).k0)*9+0) (i:=((fJ y i).k0:Int)) rfl rfl rfl yh jh (o9 (show ((fJ y i).k0)<(y).length from(o9 (F.k0 i om)))) o_ (gJ bk 12 fun bg aa=>?_)
   refine ld rfl rfl yf rfl (mK aa (i:=1) rfl f_ (o9 (F.k0 i om)) rfl) (ar (e:=(IntKind.i64.wrap ((fJ y i).size+(fJ y ((fJ y i).k0)).size))) rfl rfl rfl rfl rfl (fK aa 2 ?_))
   refine jU (f:=(fun x:Nd=>{ x with size:=(IntKind.i64.wrap ((fJ y i).size+(fJ y ((fJ y i).k0)).size)) })) 1 aa (fun bh ab bi=>?_)
   have ac:gf (fN y i (fun x=>{ x with size:=(IntKind.i64.wrap ((fJ y i).size+(fJ y ((fJ y i).k0)).size)) })):=gf.iJ F om (fun x a b c d e=>⟨a,b,c,d,e⟩)
   obtain⟨D,l,bj,ac,ab⟩:=iB (m:=m) ac ab
   refine gJ ab 11 fun bl ad=>?_
   refine ld rfl rfl yf rfl (mK ad (i:=1) rfl f_ (o9 (F.k0 i om)) rfl) (ar (e:=(IntKind.i64.wrap ((fJ D i).total+(fJ D ((fJ y i).k0)).total))) rfl rfl rfl rfl rfl (fK ad 2 ?_))
   refine jU (f:=(fun x:Nd=>{ x with total:=(IntKind.i64.wrap ((fJ D i).total+(fJ D ((fJ y i).k0)).total)) })) 1 ad (fun bm ae bn=>?_)
   have v:gf (fN D i (fun x=>{ x with total:=(IntKind.i64.wrap ((fJ D i).total+(fJ D ((fJ y i).k0)).total)) })):=gf.iJ ac om (fun x a b c d e=>⟨a,b,c,d,e⟩)
   obtain⟨g,n,bo,v,ae⟩:=iB (m:=m) v ae
   refine gJ ae 8 fun aN L=>?_
   refine ld rfl rfl yf rfl (mK L (i:=1) rfl f_ (o9 (F.k0 i om)) rfl) (fK L 4 ?_)
   refine cl EG (Em fb nb m ed g aN (L.at (i:=0) rfl) (L.at (i:=1) rfl) oa hb v ((fJ g ((fJ y i).k0)).first) ((fJ g i).first) (o9 (v.first ((fJ y i).k0) (o9 (F.k0 i om)))) (o9 (v.first i om))) ?_
   rintro _ bp ⟨rfl,aO⟩
   have h:=yq L aO
   refine gF h 2 ?_
   cases o:(k8 g ((fJ g ((fJ y i).k0)).first) ((fJ g i).first):Bool)
   . skip
     refine iN h 8 ?_
     refine tN (?_)
     refine iz (fS h 13 ?_)
     refine mB (i:=1) rfl rfl rfl yn yf rfl gr d_ rfl (fK h 7 ?_)
     by_cases bq:(((fJ y i).k1:Int):Int)=(0:Int)
     . refine fQ h 12 ?_
       refine tN (?_)
       refine iz (iN h 11 ?_)
       refine iQ uV ?_
       have e9:iI xs i=g:=by rw[uO hy o_];first|(rw[tJ (k:=(fJ y i).k0) o_];rw[tH (k:=(fJ y i).k1) o_ l n o])|(rw[tH (k:=(fJ y i).k0) o_ l n o];rw[tJ (k:=(fJ y i).k1) o_])
       have T:=h
       rw[<-e9]at T
       exact⟨rfl,yj (yc [_,_] [] T)⟩
     . refine fK h 13 ?_
       refine jj (o' := ((fJ y i).k1)*9+0) (i:=((fJ y i).k1:Int)) rfl rfl rfl yh jh (o9 (show ((fJ y i).k1)<(g).length from(o9 (F.k1 i om)))) o_ (gJ h 12 fun br af=>?_)
       refine ld rfl rfl yf rfl (mK af (i:=1) rfl f_ (o9 (F.k1 i om)) rfl) (ar (e:=(IntKind.i64.wrap ((fJ g i).size+(fJ g ((fJ y i).k1)).size))) rfl rfl rfl rfl rfl (fK af 2 ?_))
       refine jU (f:=(fun x:Nd=>{ x with size:=(IntKind.i64.wrap ((fJ g i).size+(fJ g ((fJ y i).k1)).size)) })) 1 af (fun bs ag bt=>?_)
       have ah:gf (fN g i (fun x=>{ x with size:=(IntKind.i64.wrap ((fJ g i).size+(fJ g ((fJ y i).k1)).size)) })):=gf.iJ v om (fun x a b c d e=>⟨a,b,c,d,e⟩)
       obtain⟨E,ai,bu,ah,ag⟩:=iB (m:=m) ah ag
       refine gJ ag 11 fun bv aj=>?_
       refine ld rfl rfl yf rfl (mK aj (i:=1) rfl f_ (o9 (F.k1 i om)) rfl) (ar (e:=(IntKind.i64.wrap ((fJ E i).total+(fJ E ((fJ y i).k1)).total))) rfl rfl rfl rfl rfl (fK aj 2 ?_))
       refine jU (f:=(fun x:Nd=>{ x with total:=(IntKind.i64.wrap ((fJ E i).total+(fJ E ((fJ y i).k1)).total)) })) 1 aj (fun bw ak bx=>?_)
       have G:gf (fN E i (fun x=>{ x with total:=(IntKind.i64.wrap ((fJ E i).total+(fJ E ((fJ y i).k1)).total)) })):=gf.iJ ah om (fun x a b c d e=>⟨a,b,c,d,e⟩)
       obtain⟨p,al,bz,G,ak⟩:=iB (m:=m) G ak
       refine gJ ak 8 fun aP M=>?_
       refine ld rfl rfl yf rfl (mK M (i:=1) rfl f_ (o9 (F.k1 i om)) rfl) (fK M 4 ?_)
       refine cl EG (Em fb nb m ed p aP (M.at (i:=0) rfl) (M.at (i:=1) rfl) oa hb G ((fJ p ((fJ y i).k1)).first) ((fJ p i).first) (o9 (G.first ((fJ y i).k1) (o9 (F.k1 i om)))) (o9 (G.first i om))) ?_
       rintro _ bA ⟨rfl,aQ⟩
       have z:=yq M aQ
       refine gF z 2 ?_
       cases am:(k8 p ((fJ p ((fJ y i).k1)).first) ((fJ p i).first):Bool)
       . skip
         refine iN z 8 ?_
         refine tN (?_)
         refine iz (iN z 11 ?_)
         refine iQ uV ?_
         have e9:iI xs i=p:=by rw[uO hy o_];first|(rw[tH (k:=(fJ y i).k0) o_ l n o];rw[tH (k:=(fJ y i).k1) o_ ai al am])
         have T:=z
         rw[<-e9]at T
         exact⟨rfl,yj (yc [_,_] [] T)⟩
       . skip
         refine fS z 6 ?_
         refine ld rfl rfl yf rfl (mK z (i:=1) rfl f_ (o9 (F.k1 i om)) rfl) (fK z 2 ?_)
         refine jU (f:=(fun x:Nd=>{ x with first:=((fJ p ((fJ y i).k1)).first) })) 1 z (fun bB N bC=>?_)
         have aE:gf (fN p i (fun x=>{ x with first:=((fJ p ((fJ y i).k1)).first) })):=gf.iJ G om (fun x a b c d e=>⟨a,b,c,(o9 (G.first ((fJ y i).k1) (o9 (F.k1 i om)))),e⟩)
         obtain⟨aR,aF,bD,aE,N⟩:=iB (m:=m) aE N
         refine fQ N 7 ?_
         refine tN (?_)
         refine iz (iN N 11 ?_)
         refine iQ uV ?_
         have e9:iI xs i=aR:=by rw[uO hy o_];first|(rw[tH (k:=(fJ y i).k0) o_ l n o];rw[tI (k:=(fJ y i).k1) o_ ai al am aF])|(rw[tI (k:=(fJ y i).k0) o_ l n o ai];rw[tH (k:=(fJ y i).k1) o_ al aF am])
         have T:=N
         rw[<-e9]at T
         exact⟨rfl,yj (yc [_,_] [] T)⟩
   . skip
     refine fS h 6 ?_
     refine ld rfl rfl yf rfl (mK h (i:=1) rfl f_ (o9 (F.k0 i om)) rfl) (fK h 2 ?_)
     refine jU (f:=(fun x:Nd=>{ x with first:=((fJ g ((fJ y i).k0)).first) })) 1 h (fun bE q bF=>?_)
     have an:gf (fN g i (fun x=>{ x with first:=((fJ g ((fJ y i).k0)).first) })):=gf.iJ v om (fun x a b c d e=>⟨a,b,c,(o9 (v.first ((fJ y i).k0) (o9 (F.k0 i om)))),e⟩)
     obtain⟨t,O,bG,an,q⟩:=iB (m:=m) an q
     refine fQ q 7 ?_
     refine tN (?_)
     refine iz (fS q 13 ?_)
     refine mB (i:=1) rfl rfl rfl yn yf rfl gr d_ rfl (fK q 7 ?_)
     by_cases bH:(((fJ y i).k1:Int):Int)=(0:Int)
     . refine fQ q 12 ?_
       refine tN (?_)
       refine iz (iN q 11 ?_)
       refine iQ uV ?_
       have e9:iI xs i=t:=by rw[uO hy o_];first|(rw[tJ (k:=(fJ y i).k0) o_];rw[tI (k:=(fJ y i).k1) o_ l n o O])|(rw[tI (k:=(fJ y i).k0) o_ l n o O];rw[tJ (k:=(fJ y i).k1) o_])
       have T:=q
       rw[<-e9]at T
       exact⟨rfl,yj (yc [_,_] [] T)⟩
     . refine fK q 13 ?_
       refine jj (o' := ((fJ y i).k1)*9+0) (i:=((fJ y i).k1:Int)) rfl rfl rfl yh jh (o9 (show ((fJ y i).k1)<(t).length from(o9 (F.k1 i om)))) o_ (gJ q 12 fun bI ao=>?_)
       refine ld rfl rfl yf rfl (mK ao (i:=1) rfl f_ (o9 (F.k1 i om)) rfl) (ar (e:=(IntKind.i64.wrap ((fJ t i).size+(fJ t ((fJ y i).k1)).size))) rfl rfl rfl rfl rfl (fK ao 2 ?_))
       refine jU (f:=(fun x:Nd=>{ x with size:=(IntKind.i64.wrap ((fJ t i).size+(fJ t ((fJ y i).k1)).size)) })) 1 ao (fun bJ ap bK=>?_)
       have aq:gf (fN t i (fun x=>{ x with size:=(IntKind.i64.wrap ((fJ t i).size+(fJ t ((fJ y i).k1)).size)) })):=gf.iJ an om (fun x a b c d e=>⟨a,b,c,d,e⟩)
       obtain⟨H,au,bL,aq,ap⟩:=iB (m:=m) aq ap
       refine gJ ap 11 fun bM av=>?_
       refine ld rfl rfl yf rfl (mK av (i:=1) rfl f_ (o9 (F.k1 i om)) rfl) (ar (e:=(IntKind.i64.wrap ((fJ H i).total+(fJ H ((fJ y i).k1)).total))) rfl rfl rfl rfl rfl (fK av 2 ?_))
       refine jU (f:=(fun x:Nd=>{ x with total:=(IntKind.i64.wrap ((fJ H i).total+(fJ H ((fJ y i).k1)).total)) })) 1 av (fun bN aw bO=>?_)
       have I:gf (fN H i (fun x=>{ x with total:=(IntKind.i64.wrap ((fJ H i).total+(fJ H ((fJ y i).k1)).total)) })):=gf.iJ aq om (fun x a b c d e=>⟨a,b,c,d,e⟩)
       obtain⟨s,ax,bP,I,aw⟩:=iB (m:=m) I aw
       refine gJ aw 8 fun aS P=>?_
       refine ld rfl rfl yf rfl (mK P (i:=1) rfl f_ (o9 (F.k1 i om)) rfl) (fK P 4 ?_)
       refine cl EG (Em fb nb m ed s aS (P.at (i:=0) rfl) (P.at (i:=1) rfl) oa hb I ((fJ s ((fJ y i).k1)).first) ((fJ s i).first) (o9 (I.first ((fJ y i).k1) (o9 (F.k1 i om)))) (o9 (I.first i om))) ?_
       rintro _ bQ ⟨rfl,aT⟩
       have A:=yq P aT
       refine gF A 2 ?_
       cases ay:(k8 s ((fJ s ((fJ y i).k1)).first) ((fJ s i).first):Bool)
       . skip
         refine iN A 8 ?_
         refine tN (?_)
         refine iz (iN A 11 ?_)
         refine iQ uV ?_
         have e9:iI xs i=s:=by rw[uO hy o_];first|(rw[tH (k:=(fJ y i).k0) o_ l n o];rw[tI (k:=(fJ y i).k1) o_ O au ay ax])|(rw[tI (k:=(fJ y i).k0) o_ l n o O];rw[tH (k:=(fJ y i).k1) o_ au ax ay])
         have T:=A
         rw[<-e9]at T
         exact⟨rfl,yj (yc [_,_] [] T)⟩
       . skip
         refine fS A 6 ?_
         refine ld rfl rfl yf rfl (mK A (i:=1) rfl f_ (o9 (F.k1 i om)) rfl) (fK A 2 ?_)
         refine jU (f:=(fun x:Nd=>{ x with first:=((fJ s ((fJ y i).k1)).first) })) 1 A (fun bR Q bS=>?_)
         have aG:gf (fN s i (fun x=>{ x with first:=((fJ s ((fJ y i).k1)).first) })):=gf.iJ I om (fun x a b c d e=>⟨a,b,c,(o9 (I.first ((fJ y i).k1) (o9 (F.k1 i om)))),e⟩)
         obtain⟨aU,aV,bT,aG,Q⟩:=iB (m:=m) aG Q
         refine fQ Q 7 ?_
         refine tN (?_)
         refine iz (iN Q 11 ?_)
         refine iQ uV ?_
         have e9:iI xs i=aU:=by rw[uO hy o_];first|(rw[tI (k:=(fJ y i).k0) o_ l n o O];rw[tI (k:=(fJ y i).k1) o_ au ax ay aV])
         have T:=Q
         rw[<-e9]at T
         exact⟨rfl,yj (yc [_,_] [] T)⟩
end
end Go.Proofs.YtoceanggliccgaaGreatDoor
