/- What the functions that the statements reach do: walks through the code of the program and of the references, one theorem a function; under what is said of its arguments. -/
import Derived.Test.YtoceanggliccgaaGreatDoorFb
import Derived.Test.YtoceanggliccgaaGreatDoorVa
import Derived.Test.YtoceanggliccgaaGreatDoorFc
import Derived.Test.YtoceanggliccgaaGreatDoorVb
import Derived.Ground.Names2Prog
import Derived.Shelf.Slices.Delete
set_option linter.unusedVariables false
set_option linter.unusedSimpArgs false
set_option maxRecDepth 100000
set_option maxHeartbeats 4000000
namespace Go.Proofs.YtoceanggliccgaaGreatDoor
section
open Go Go.Sx
theorem Qs(x y:Int)(w:World) :
 CR ya 142 (ve x y) w (fun r w' => r = .bool (decide (x<y))/\gw [] w w'):=by
 refine en Tryz.func142 Tryz.ntmps142 ?_
 have e:=yu w
 refine fR e 8 ?_
 refine cl Wv (abq x w) ?_
 rintro _ c ⟨rfl,b⟩
 have a:=yo e b
 refine fK a 8 ?_
 by_cases d:(x:Int)<(y:Int)
 . refine fQ a 6 ?_
   refine gq (v:=Zf) Tryz.results142 rfl ?_
   exact⟨congrArg Value.bool (decide_eq_true o_).symm,a.gy s_⟩
 . refine fQ a 6 ?_
   refine gq (v:=Zp) Tryz.results142 rfl ?_
   exact⟨congrArg Value.bool (decide_eq_false o_).symm,a.gy s_⟩
theorem ZS(v:Value)(xs:List Int)(w:World)(J:Own (rj v xs) w)(M:xs.length<=1000000) :
 CR ya 258 #[v,Zc,(Za xs.length)] w (fun r w' => ∃ ys:List Int,r = .tuple #[]/\(ys.Perm xs/\mL ys ys.length)/\fZ (rj v xs) w w' (rj v ys)):=by
 refine en Tryz.func258 Tryz.ntmps258 ?_
 have H:=yt J
 refine qg H 8 ?_
 refine lp (α:=Nat×List Int) (fun(i,ys)=>[(0,v),(1,Zc),(2,(Za xs.length)),(6,(Za i))]) (fun(i,ys) w1=>St [(w,(rj v xs).gG)] [fL gV v 40 1 ys] w1/\ys.Perm xs/\mL ys i/\1<=i) (fun(i,ys)=>xs.length+1-i) (1,xs) ⟨rfl,rfl,rfl,gp rO,trivial⟩ (⟨H,List.Perm.refl _,mL.zero,o_⟩) ?_
 rintro⟨i,ys⟩ m n ⟨B,E,F,hi⟩
 have N:=E.length_eq
 refine fR B 5 ?_
 by_cases o:((i:Int):Int)<((xs.length:Int):Int)
 . refine gE B 15 ?_
   refine lp (α:=Nat×List Int) (fun(j,zs)=>[(0,v),(1,Zc),(2,(Za xs.length)),(6,(Za i)),(7,(Za j))]) (fun(j,zs) w1=>St [(w,(rj v xs).gG)] [fL gV v 40 1 zs] w1/\zs.Perm xs/\sP zs i j/\j<=i) (fun(j,zs)=>j) (i,ys) ⟨rfl,rfl,rfl,rfl,gp rO,trivial⟩ (⟨B,E,F.at,o_⟩) ?_
   rintro⟨j,zs⟩ s t ⟨K,D,C,G⟩
   have O:=D.length_eq
   refine nI K 5 fun h a=>?_
   by_cases u:((j:Int):Int)>(0:Int)
   . refine fK a 9 ?_
     refine iD (cf:=gV) (k:=(j-1)) (i:=(j:Int)-1) rfl rfl rfl nN jA (y0 a 0 rfl) o_ o_ (gB om) (fK a 1 ?_)
     refine cl Oh (Qs (fJ zs j) (fJ zs (j-1)) h) ?_
     rintro _ x ⟨rfl,l⟩
     have b:=yo a l
     refine gE b 3 ?_
     cases d:(decide ((fJ zs j)<(fJ zs (j-1))):Bool)
     . skip
       refine iH b 12 ?_
       refine tN (?_)
       exact again ((i+1),zs) ⟨rfl,rfl,rfl,gp rO,trivial⟩ (⟨b,D,C.done o_ G (of_decide_eq_false d),o_⟩) (by show (xs.length+1-(i+1):Nat)<xs.length+1-i;omega)
     . skip
       refine nI b 14 fun y c=>?_
       refine iD (cf:=gV) (k:=(j-1)) (i:=(j:Int)-1) rfl rfl rfl nN jA (y0 c 0 rfl) o_ o_ (gB om) (fK c 6 ?_)
       refine iK (f:=(fun _=>(fJ zs (j-1)))) 0 c (fun z e=>?_)
       refine iD (cf:=gV) (k:=(j-1)) (i:=(j:Int)-1) rfl rfl rfl nN jA (y0 e 0 rfl) o_ o_ (gB om) (iK (f:=(fun _=>(fJ zs j))) 0 e (fun A g=>?_))
       refine fQ g 8 ?_
       refine tN (?_)
       exact again ((j-1),fN (fN zs j (fun _=>(fJ zs (j-1)))) (j-1) (fun _=>(fJ zs j))) ⟨rfl,rfl,rfl,rfl,gp rO,trivial⟩ (⟨g,(SF o_ o_).trans D,C.swap o_ G o_ (of_decide_eq_true d),o_⟩) (by show ((j-1):Nat)<j;omega)
   . refine fQ a 27 ?_
     refine tN (?_)
     exact again ((i+1),zs) ⟨rfl,rfl,rfl,gp rO,trivial⟩ (⟨a,D,(by rw[show j=0 by omega]at C;exact C.N0),o_⟩) (by show (xs.length+1-(i+1):Nat)<xs.length+1-i;omega)
 . refine fQ B 8 ?_
   refine iO Tryz.results258 ?_
   exact⟨ys,rfl,⟨E,fun p q I L=>F p q I o_⟩,yj B⟩
theorem UJ(n:Nat)(w:World)(h:n<=12) :
 CR ya 167 (wW n) w (fun r w' => ∃ z,r = .int .i64 z/\gw [] w w'):=by
 refine en Tryz.func167 Tryz.ntmps167 ?_
 have c:=yu w
 refine fR c 9 ?_
 refine cmp rfl rfl rfl (oG o_) (fK c 9 ?_)
 refine cmp rfl rfl rfl (oG o_) (fK c 9 ?_)
 refine cmp rfl rfl rfl (oG o_) (fK c 10 ?_)
 refine ZH 256 rfl rfl rfl Tryz.underlying9 rfl o_ o_ fun a b=>(fQ c 6 ?_)
 refine gq (v:=(Za (0+(a.toNat:Int)))) Tryz.results167 rfl ?_
 exact⟨0+(a.toNat:Int),rfl,c.gy s_⟩
theorem HC(n:Nat)(w:World)(h:n<=12) :
 CR ya 100 (wW n) w (fun r w' => ∃ z,r = .int .i64 z/\gw [] w w'):=by
 refine en Tryz.func100 Tryz.ntmps100 ?_
 have e:=yu w
 refine fR e 12 ?_
 refine cl Wz (UJ n w o_) ?_
 rintro _ d ⟨a,rfl,c⟩
 have b:=yo e c
 refine fQ b 4 ?_
 refine gq (v:=(Za a)) Tryz.results100 rfl ?_
 exact⟨a,rfl,b.gy s_⟩
theorem ab4(v:Value)(xs:List Int)(w:World)(i:Own (rj v xs) w)(z:Int)(l:xs.length<=12) :
 CR ya 209 (Ml v xs.length z) w (fun r w' => ∃ ys:List Int,r = .tuple #[]/\(ys.Perm xs/\mL ys ys.length)/\fZ (rj v xs) w w' (rj v ys)):=by
 refine en Tryz.func209 Tryz.ntmps209 ?_
 have h:=yt i
 refine qg h 11 ?_
 refine lp (α:=Nat) (fun k=>[(0,v),(1,Zc),(2,(Za xs.length)),(3,(Za z)),(8,Zf),(9,Zf)]) (fun k w1=>St [(w,(rj v xs).gG)] [fL gV v 40 1 xs] w1) (fun k=>0) 0 ⟨rfl,rfl,rfl,rfl,rfl,rfl,trivial⟩ h ?_
 rintro k e b g
 refine fR g 13 ?_
 refine cmp rfl rfl rfl (um o_) (fK g 8 ?_)
 refine cl Xg (ZS v xs b (yf g 0 rfl) o_) ?_
 rintro _ f ⟨c,rfl,d,j⟩
 have a:=yn 0 g j
 refine fQ a 7 ?_
 refine xW Tryz.results209 ?_
 exact⟨c,rfl,d,yj a⟩
theorem aef(v:Value)(xs:List Int)(w:World)(j:Own (rj v xs) w)(k:xs.length<=12) :
 CR ya 146 #[v] w (fun r w' => ∃ ys:List Int,r = .tuple #[]/\(ys.Perm xs/\mL ys ys.length)/\fZ (rj v xs) w w' (rj v ys)):=by
 refine en Tryz.func146 Tryz.ntmps146 ?_
 have i:=yt j
 refine fR i 3 ?_
 refine jb (m:=xs.length) 0 rfl rfl nN i rfl (fK i 8 ?_)
 refine cl H9 (HC xs.length w o_) ?_
 rintro _ c ⟨d,rfl,e⟩
 have a:=yo i e
 refine cl WY (ab4 v xs c (yf a 0 rfl) d k) ?_
 rintro _ h ⟨f,rfl,g,l⟩
 have b:=yn 0 a l
 refine fQ b 1 ?_
 refine iO Tryz.results146 ?_
 exact⟨f,rfl,g,yj b⟩
theorem abr(x:Int)(w:World) :
 CR ya 143 (wW x) w (fun r w' => r = .bool false/\gw [] w w'):=by
 refine en Tryz.func143 Tryz.ntmps143 ?_
 have a:=yu w
 refine iH a 14 ?_
 refine gq (v:=Zp) Tryz.results143 rfl ?_
 exact⟨rfl,a.gy s_⟩
theorem UL(v:Value)(xs:List Int)(x:Int)(w:World)(hv:gU 1 gV (fun _=>True) w v xs)(hs:xs.Pairwise fun a b=>a<b)(F:xs.length<=1000000) :
 CR ya 81 #[v,(Zn x)] w (fun r w' => ∃ b:Bool,r = .tuple (pY (gN xs x:Int) b)/\gw [] w w'):=by
 refine en Tryz.func81 Tryz.ntmps81 ?_
 have C:=yu w
 refine fR C 9 ?_
 refine jX (v:=v) rfl rfl nN hv (gE C 12 ?_)
 refine lp (α:=Nat×Nat) (fun(i,j)=>[(0,v),(1,(Zn x)),(6,(Za xs.length)),(7,(Za i)),(8,(Za j))]) (fun(i,j) w1=>St [(w,[])] [] w1/\mG xs x i j/\i<=j/\j<=xs.length) (fun(i,j)=>j-i) (0,xs.length) ⟨rfl,rfl,rfl,gp rO,gp rO,trivial⟩ (⟨C,mG.start,o_,o_⟩) ?_
 rintro⟨i,j⟩ o d ⟨z,A,D,E⟩
 refine fR z 5 ?_
 by_cases p:((i:Int):Int)<((j:Int):Int)
 . refine fK z 13 ?_
   refine shr (a:=(i:Int)+(j:Int)) (b:=1) (e:=(((i+j) / 2:Nat):Int)) rfl rfl rfl d_ (Ph (i+j) 1 64 d_) ?_
   obtain⟨f,g⟩:=oI (show ((i+j) / 2)<xs.length by omega)
   refine fK z 11 ?_
   refine cl Oh (Qs f x d) ?_
   rintro _ q ⟨rfl,m⟩
   have c:=yo z m
   refine gE c 2 ?_
   cases h:(decide (f<x):Bool)
   . skip
     refine iH c 6 ?_
     refine tN (?_)
     exact again (i,((i+j) / 2)) ⟨rfl,rfl,rfl,rfl,gp rO,trivial⟩ (⟨c,A.down hs (by rw[jf g];exact of_decide_eq_false h),o_,o_⟩) (by show (((i+j) / 2)-i:Nat)<j-i;omega)
   . skip
     refine iH c 7 ?_
     refine tN (?_)
     exact again (((i+j) / 2+1),j) ⟨rfl,rfl,rfl,gp rO,rfl,trivial⟩ (⟨c,A.up hs o_ (by rw[jf g];exact of_decide_eq_true h),o_,o_⟩) (by show (j-((i+j) / 2+1):Nat)<j-i;omega)
 . refine fK z 14 ?_
   by_cases s:((i:Int):Int)<((xs.length:Int):Int)
   . obtain⟨k,t⟩:=oI (show i<xs.length by omega)
     refine fK z 7 ?_
     by_cases u:(k:Int)=(x:Int)
     . refine fQ z 18 ?_
       refine iw (v:=(Za i)) (v' := Zf) Tryz.results81 rfl rfl ?_
       have B:i=gN xs x:=mG.gN (by rw[show j=i by omega]at A;exact A) o_
       exact⟨true,by rw[B],z.gy s_⟩
     . refine fK z 6 ?_
       refine cl Wp (abr k d) ?_
       rintro _ y ⟨rfl,n⟩
       have l:=yo z n
       refine fQ l 11 ?_
       refine iw (v:=(Za i)) (v' := Zp) Tryz.results81 rfl rfl ?_
       have B:i=gN xs x:=mG.gN (by rw[show j=i by omega]at A;exact A) o_
       exact⟨false,by rw[B],l.gy s_⟩
   . refine fQ z 25 ?_
     refine iw (v:=(Za i)) (v' := Zp) Tryz.results81 rfl rfl ?_
     have B:i=gN xs x:=mG.gN (by rw[show j=i by omega]at A;exact A) o_
     exact⟨false,by rw[B],z.gy s_⟩
end
section
open Go Go.Sx
def fW.R(fO fM ub:Nat)(s:fW):fT:=j3 (s.ok fO fM) (gj [blk ub 169 (o4 fO fM s (some s.mb)),fL Lv.cells s.lv 59 7 s.live,gM s.mb .u64 p_ s.im,jw 3 s.im,(AW.R s.jd s.aw),(TW.R s.tb s.ab s.t)])
abbrev GM(a b c:Nat) d e f:=(gj [fW.R a b c d,fL Lv.cells e 59 7 f]:fT)
theorem Bm(fO fM ub:Nat)(s:fW)(w:World)(d:Own (fW.R fO fM ub s) w) :
 CR ya 82 (Zi ub) w (fun r w' => r = .bool true/\fZ (fW.R fO fM ub s) w w' (fW.R fO fM ub s)):=by
 refine en Tryz.func82 Tryz.ntmps82 ?_
 have b:=Own.of d.un
 have e:s.ok fO fM:=d.fact
 refine fR b 8 ?_
 refine mA (a:=some ⟨ub,0,none⟩) (c:=true) rfl rfl rfl Gh rfl (fK b 5 ?_)
 refine QX (a:=some s.mb) (c:=true) rfl rfl rfl yy rfl (fQ b 5 ?_)
 refine gq (v:=Zf) Tryz.results82 rfl ?_
 exact⟨rfl,yp (yr (p:=fW.ok fO fM s) (yc [_,_,_,_,_,_] _ b) e) za⟩
theorem F3(fO fM ub:Nat)(s:fW)(w:World)(l:Own (fW.R fO fM ub s) w)(id:Int) :
 CR ya 128 (Z4 ub id) w (fun r w' => ∃ (z:Nat) (b:Bool),r = .tuple (pY z b)/\s.t.nU id z b/\fZ (fW.R fO fM ub s) w w' (fW.R fO fM ub s)):=by
 refine en Tryz.func128 Tryz.ntmps128 ?_
 have n:=Own.of l.un
 have m:s.ok fO fM:=l.fact
 have c:=yr (p:=s.ok fO fM) (yc [_,_,_,_,_,_] _ n) m
 refine fR n 10 ?_
 refine cl Aq (Bm fO fM ub s w (yf c 0 rfl)) ?_
 rintro _ g ⟨rfl,k⟩
 have h:=yn 0 c k
 have a:=(jO h).unpack
 refine fK a 13 ?_
 refine cl Et (FL s.tb s.ab s.t g (yf a 5 rfl) id) ?_
 rintro _ j ⟨d,e,rfl,i,k⟩
 have f:=yn 5 a k
 refine fQ f 7 ?_
 refine iw (v:=(Za d)) (v' := (.bool e)) Tryz.results128 rfl rfl ?_
 exact⟨d,e,rfl,i,yp (yr (p:=fW.ok fO fM s) (yc [_,_,_,_,_,_] _ f) m) za⟩
end
section
open Go Go.Sx
theorem Le(fO fM ub:Nat)(s:fW)(w:World)(hO:Own (fW.R fO fM ub s) w)(x:Lv) :
 CR ya 122 (wX ub x) w (fun r w' => r = .int .i64 (s.gJ fO fM x.u x.v)/\fZ (fW.R fO fM ub s) w w' (fW.R fO fM ub s)):=by
 have ak:s.t.A.used<=s.t.A.n:=hO.fact.tok.ul
 have ah:=hO.fact.n
 have ai:=hO.fact.tn
 have ag:=hO.fact.en
 have aj:=hO.fact.vn
 have af:s.A.used<=s.A.begun:=by have h7:=hO.fact.kS.used;omega
 have ae:=hO.fact.kS.le
 refine en Tryz.func122 Tryz.ntmps122 ?_
 have ad:=Own.of hO.un
 have hU:s.ok fO fM:=hO.fact
 refine fR ad 2 ?_
 refine gW ad (fun L B M N l=>?_)
 have C:=yg [1,2,3,4,5,6,0] l
 have m:=yr (p:=s.ok fO fM) (yc [_,_,_,_,_,_] _ C) hU
 refine fK l 7 ?_
 refine cl Aq (Bm fO fM ub s B (yf m 0 rfl)) ?_
 rintro _ O ⟨rfl,ht⟩
 have D:=yn 0 m ht
 have g:=(jO D).unpack
 refine fK g 13 ?_
 by_cases P:(x.u:Int)=(x.v:Int)
 . refine fQ g 11 ?_
   refine gq (v:=xd) tK rfl ?_
   exact⟨gp (fW.NL o_).symm,yp (yr (p:=fW.ok fO fM s) (yc [_,_,_,_,_,_] _ g) hU) za⟩
 . refine gE g 8 ?_
   refine kV mixed [([0,1,2,3,5,6,7,8,4],[8])] [9] g (fun E k=>jM ?_)
   refine fK k 8 ?_
   refine cl Ik (Ll s.jd s.aw E (yf k 4 rfl)) ?_
   rintro _ G ⟨rfl,ht⟩
   have e:=yn 4 k ht
   refine fQ e 1 ?_
   refine kL (kW ?_)
   by_cases Q:((s.A.used:Int):Int)≥((fM:Int):Int)
   . refine fQ e 11 ?_
     refine gq (v:=(.int .i64 12)) tK rfl ?_
     exact⟨gp (fW.NK o_ o_).symm,yp (yr (p:=fW.ok fO fM s) (yc [_,_,_,_,_,_] _ e) hU) za⟩
   . refine fK e 12 ?_
     refine cl WI (agr s.tb s.ab s.t G (yf e 5 rfl)) ?_
     rintro _ H ⟨rfl,ht⟩
     have f:=yn 5 e ht
     refine fK f 10 ?_
     refine i7 (pvs:=[(0,(Zn x.u)),(1,(Zn x.v))]) (v:=.agg (ve x.u x.v)) rfl rfl (uk [(0,(Zq x.u)),(1,(Zq x.v))] tH y9 jA rfl ⟨rfl,rfl,rfl,rfl,trivial⟩ rfl s_) (gE f 4 ?_)
     refine qi 3 (iz (fR f 13 ?_))
     refine mw (i:=0) rfl rfl rfl y9 ym rfl jA d_ rfl (fK f 10 ?_)
     refine cl Et (FL s.tb s.ab s.t H (yf f 5 rfl) x.u) ?_
     rintro _ o ⟨S,I,rfl,d,ht⟩
     have c:=yn 5 f ht
     refine gE c 13 ?_
     cases q:(I:Bool)
     . skip
       subst q
       refine iH c 12 ?_
       refine tN (?_)
       refine iz (fR c 13 ?_)
       refine mw (i:=1) rfl rfl rfl y9 ym rfl jA d_ rfl (fK c 10 ?_)
       refine cl Et (FL s.tb s.ab s.t o (yf c 5 rfl) x.v) ?_
       rintro _ U ⟨V,J,rfl,h,ht⟩
       have a:=yn 5 c ht
       refine gE a 13 ?_
       cases y:(J:Bool)
       . skip
         subst y
         refine iH a 12 ?_
         refine tN (?_)
         refine iz (fR a 20 ?_)
         by_cases W:(((s.t.A.used:Int)+1)+1:Int)>((fO:Int):Int)
         . refine fQ a 11 ?_
           refine gq (v:=(.int .i64 11)) tK rfl ?_
           have F:=d.cnt
           simp at F
           have T:=h.cnt
           simp at T
           exact⟨gp (fW.B9 o_ o_ o_).symm,yp (yr (p:=fW.ok fO fM s) (yc [_,_,_,_,_,_] _ a) hU) za⟩
         . refine fQ a 12 ?_
           refine gq (v:=Zc) tK rfl ?_
           have F:=d.cnt
           simp at F
           have T:=h.cnt
           simp at T
           exact⟨gp (fW.Ah o_ o_ o_).symm,yp (yr (p:=fW.ok fO fM s) (yc [_,_,_,_,_,_] _ a) hU) za⟩
       . skip
         subst y
         refine iH a 8 ?_
         refine tN (?_)
         refine iz (fR a 20 ?_)
         by_cases X:((s.t.A.used:Int)+1:Int)>((fO:Int):Int)
         . refine fQ a 11 ?_
           refine gq (v:=(.int .i64 11)) tK rfl ?_
           have F:=d.cnt
           simp at F
           have T:=h.cnt
           simp at T
           exact⟨gp (fW.B9 o_ o_ o_).symm,yp (yr (p:=fW.ok fO fM s) (yc [_,_,_,_,_,_] _ a) hU) za⟩
         . refine fQ a 12 ?_
           refine gq (v:=Zc) tK rfl ?_
           have F:=d.cnt
           simp at F
           have T:=h.cnt
           simp at T
           exact⟨gp (fW.Ah o_ o_ o_).symm,yp (yr (p:=fW.ok fO fM s) (yc [_,_,_,_,_,_] _ a) hU) za⟩
     . skip
       subst q
       refine iH c 8 ?_
       refine tN (?_)
       refine iz (fR c 13 ?_)
       refine mw (i:=1) rfl rfl rfl y9 ym rfl jA d_ rfl (fK c 10 ?_)
       refine cl Et (FL s.tb s.ab s.t o (yf c 5 rfl) x.v) ?_
       rintro _ Y ⟨Z,K,rfl,j,ht⟩
       have b:=yn 5 c ht
       refine gE b 13 ?_
       cases z:(K:Bool)
       . skip
         subst z
         refine iH b 12 ?_
         refine tN (?_)
         refine iz (fR b 20 ?_)
         by_cases aa:((s.t.A.used:Int)+1:Int)>((fO:Int):Int)
         . refine fQ b 11 ?_
           refine gq (v:=(.int .i64 11)) tK rfl ?_
           have F:=d.cnt
           simp at F
           have T:=j.cnt
           simp at T
           exact⟨gp (fW.B9 o_ o_ o_).symm,yp (yr (p:=fW.ok fO fM s) (yc [_,_,_,_,_,_] _ b) hU) za⟩
         . refine fQ b 12 ?_
           refine gq (v:=Zc) tK rfl ?_
           have F:=d.cnt
           simp at F
           have T:=j.cnt
           simp at T
           exact⟨gp (fW.Ah o_ o_ o_).symm,yp (yr (p:=fW.ok fO fM s) (yc [_,_,_,_,_,_] _ b) hU) za⟩
       . skip
         subst z
         refine iH b 8 ?_
         refine tN (?_)
         refine iz (fR b 20 ?_)
         by_cases ac:((s.t.A.used:Int):Int)>((fO:Int):Int)
         . refine fQ b 11 ?_
           refine gq (v:=(.int .i64 11)) tK rfl ?_
           have F:=d.cnt
           simp at F
           have T:=j.cnt
           simp at T
           exact⟨gp (fW.B9 o_ o_ o_).symm,yp (yr (p:=fW.ok fO fM s) (yc [_,_,_,_,_,_] _ b) hU) za⟩
         . refine fQ b 12 ?_
           refine gq (v:=Zc) tK rfl ?_
           have F:=d.cnt
           simp at F
           have T:=j.cnt
           simp at T
           exact⟨gp (fW.Ah o_ o_ o_).symm,yp (yr (p:=fW.ok fO fM s) (yc [_,_,_,_,_,_] _ b) hU) za⟩
end
section
open Go Go.Sx
theorem agE(fO fM ub:Nat)(s:fW)(w:World)(a:Own (fW.R fO fM ub s) w)(x:Lv)(b:s.gJ fO fM x.u x.v=0) :
 CR ya 122 (wX ub x) w (fun r w' => r = .int .i64 0/\fZ (fW.R fO fM ub s) w w' (fW.R fO fM ub s)):=by
 have h:=Le fO fM ub s w a x
 rw[b]at h
 exact h
theorem FY(tb ab:Nat)(t:TW)(w:World)(f:Own (TW.R tb ab t) w)(id:Int)(m:t.mem id\/t.A.used<t.A.n)(l:gR .u64 id) :
 CR ya 191 (Z4 tb id) w (fun r w' => ∃ (z:Nat) (b:Bool) (a:TW),r = .tuple #[.int .i64 (z:Int),.bool b,.int .i64 0]/\TW.GJ t a id/\fZ (TW.R tb ab t) w w' (TW.R tb ab a)):=by
 by_cases hm:t.mem id
 . obtain⟨i,hi,e⟩:=hm
   exact CR.mono (agx tb ab t w f id i hi e) fun r w' ⟨c,d⟩=>⟨i,false,t,c,⟨fun x=>⟨.inl,fun h=>h.elim (fun h=>h) (fun h=>h▸⟨i,hi,e⟩)⟩,rfl,by rw[TW.xl ⟨i,hi,e⟩];rfl⟩,d⟩
 . exact CR.mono (agw tb ab t w f id hm l (m.resolve_left hm)) fun r w' ⟨i,a,c,⟨d,g,j⟩,k⟩=>⟨i,true,a,c,⟨d,g,by rw[TW.sZ hm];exact j⟩,k⟩
theorem Tn(fO fM ub:Nat)(s:fW)(w:World)(hO:Own (fW.R fO fM ub s) w)(x:Lv)(T:x.ok)(hc:s.gJ fO fM x.u x.v=0)(cu:s.last<=9000000000000000000) :
 CR ya 127 #[(Zb ub),(D3 x),(Za x.exp)] w (fun r w' => ∃ (i:Nat) (s2:fW),r = .tuple #[(Hl i (s.last+1) x),.int .i64 0]/\((∀ y,s2.has y↔s.has y\/y=⟨(i:Int),s.last+1,x.u,x.v,x.wt,x.t,x.exp⟩)/\s2.last=s.last+1)/\fZ (fW.R fO fM ub s) w w' (fW.R fO fM ub s2)):=by
 have cx:s.t.A.used<=s.t.A.n:=hO.fact.tok.ul
 have cn:=hO.fact.n
 have co:=hO.fact.tn
 have cm:=hO.fact.en
 have cp:=hO.fact.vn
 have ch:s.A.used<=s.A.begun:=by have h7:=hO.fact.kS.used;omega
 have cg:=hO.fact.kS.le
 have ci:s.aw.A.used=s.A.used:=rfl
 have cj:s.aw.A.n=s.A.n:=rfl
 have ck:s.aw.A.begun=s.A.begun:=rfl
 have cv:(s.live++[(⟨0,0,0,0,0,0,0⟩:Lv)]).length=s.live.length+1:=by simp
 have bc:=fW.HN hc
 have ct:=hO.fact.sn
 have cw:=hO.fact.ll
 have F:∀ id,(gi s.im id).2.length<=65536:=fun id=>hO.fact.I4 id
 refine en Tryz.func127 Tryz.ntmps127 ?_
 have ce:=Own.of hO.un
 have hU:s.ok fO fM:=hO.fact
 refine fR ce 2 ?_
 refine gW ce (fun j bd be bf aI=>?_)
 refine iM aI (fun l aJ bg bh ao=>?_)
 have aK:=yg [2,3,4,5,6,7,0,1] ao
 have ap:=yr (p:=s.ok fO fM) (yc [_,_,_,_,_,_] _ aK) hU
 refine fK ao 8 ?_
 refine cl Ii (agE fO fM ub s aJ (yf ap 0 rfl) x hc) ?_
 rintro _ aL ⟨rfl,ht⟩
 have aM:=yn 0 ap ht
 have aa:=(jO aM).unpack
 refine fK aa 18 ?_
 refine cl Ou (Ty s.jd s.aw aL (yf aa 4 rfl) o_) ?_
 rintro _ bi ⟨b,h,rfl,ac,ht⟩
 have aq:=yn 4 aa ht
 have cd:=(y8 aq (i:=4) rfl:h.A.ok)
 have cq:b<=s.live.length:=by rcases ac.pn with h9|h9<;>omega
 have cr:b<=65536:=by omega
 refine tE aq 30 fun bj aN=>?_
 refine kV mixed [([0,1,2,3,4,5,6,7,8],[4,5])] [9] aN (fun bl ar=>jM ?_)
 refine fK ar 7 ?_
 refine i7 (pvs:=[(0,(Za ((b:Nat):Int))),(1,(Zn (s.last+1))),(2,(D3 x)),(3,(Za x.exp))]) (v:=.agg #[(Za ((b:Nat):Int)),(Zn (s.last+1)),(Zn x.u),(Zn x.v),(Za x.wt),(Za x.t),(Za x.exp)]) rfl rfl (jk [(0,(Ze ((b:Nat):Int))),(1,(Zq (s.last+1))),(2,(Zz x)),(3,(Ze x.exp))] nu J1 rfl ⟨rfl,rfl,rfl,rfl,rfl,rfl,rfl,rfl,trivial⟩ rfl) (iM ar (fun q bm bn bo ad=>?_))
 refine fQ ad 1 ?_
 refine uR (lH rfl pJ (lH rfl (qQ (tj (cs:=(Zz x)) rfl Bv rfl uP rfl (lQ ad (i:=8) (o:=0) (vs:=(Zz x)) rfl rfl)) rfl rfl) (trivial))) (kW ?_)
 refine tE ad 5 fun bp H=>?_
 refine qi 3 (iz (fR H 7 ?_))
 refine jb (m:=s.live.length) 2 rfl rfl rQ H rfl (fK H 1 ?_)
 by_cases bq:((s.live.length:Int):Int)<=(((b:Nat):Int):Int)
 . refine fK H 13 ?_
   refine i7 (pvs:=[]) (v:=.agg GV) rfl rfl (jk [] nu J1 rfl trivial rfl) (jF (vs:=[(.agg GV)]) (cs:=nh) rfl rfl rQ nu rfl (by simp[Value.cells]) rfl rfl rfl H (fun aO br bs bt au=>lE (cf:=Lv.cells) (ys:=s.live) (zs:=[(⟨0,0,0,0,0,0,0⟩:Lv)]) (LL:=fun B=>[row (Z3 aO) 59 7 1 (nh),blk q 59 (qz ((b:Nat):Int) (s.last+1) x),blk ub 169 (B1 fO fM (s.last+1) s (some s.mb)),fL Lv.cells B 59 7 (s.live++[(⟨0,0,0,0,0,0,0⟩:Lv)]),gM s.mb .u64 p_ s.im,jw 3 s.im,(AW.R s.jd h),(w5 s),blk l 59 nh,blk j 57 (Zz x)]) 3 rfl rfl rfl rQ nu rfl d_ au rfl (kX au (i:=0) rfl) (fun x hx=>zm.1 (show List.all _ _=true from rfl) x hx) (by simp only[zq,zd,zh,maxLen];omega) (by simp only[zq,zd,zh,maxLen];omega) f_ ?_))
   intro B bu aP bv
   have P:=yg [1,2,3,4,5,6,7,8,9] aP
   refine fK P 2 ?_
   refine jV 1 P (fun bw K=>?_) (hvs:=(cells_one (yw P (i:=2) rfl))) (h1:=(ia (yw P (i:=2) rfl) kR))
   refine fQ K 2 ?_
   refine tN (?_)
   refine iz (fR K 7 ?_)
   refine jb (m:=(s.live++[(⟨0,0,0,0,0,0,0⟩:Lv)]).length) 2 rfl rfl rQ K rfl (fK K 1 ?_)
   refine cmp rfl rfl rfl (Ef (by simp only[zq,zd,zh];omega)) (gI K 17 fun bx aQ=>?_)
   refine iK (f:=(fun _=>(⟨((b:Nat):Int),s.last+1,x.u,x.v,x.wt,x.t,x.exp⟩:Lv))) 2 aQ (fun aR C=>?_)
   refine fK C 6 ?_
   refine ld rfl rfl ym rfl (kP C 8 rfl rfl) (fK C 1 ?_)
   refine ld rfl rfl ym rfl (kP C 8 rfl rfl) (i7 (pvs:=[(0,(Zn x.u)),(1,(Zn x.v))]) (v:=.agg (ve x.u x.v)) rfl rfl (uk [(0,(Zq x.u)),(1,(Zq x.v))] tH y9 jA rfl ⟨rfl,rfl,rfl,rfl,trivial⟩ rfl s_) (gE C 4 ?_))
   refine qi 3 (iz (fR C 13 ?_))
   refine mw (i:=0) rfl rfl rfl y9 ym rfl jA d_ rfl (fK C 10 ?_)
   refine cl Eu (FY s.tb s.ab s.t aR (yf C 6 rfl) x.u (TW.R6 o_) T.u) ?_
   rintro _ bz ⟨bA,bB,L,rfl,ae,ht⟩
   have af:=yn 6 C ht
   have bk:=(y8 af (i:=6) rfl:L.ok)
   refine gE af 2 ?_
   have aS:=yg [4,0,1,2,3,5,6,7,8] af
   have aT:=yO x.u aS
   refine kV mixed [([0,1,2,3,4,5,6,7,8,9,10,11,12],[3,8,10]),([13],[3])] [14] aT (fun bC Q=>jM ?_)
   refine fK Q 10 ?_
   refine pE (a:=x.u) (mm:=s.im) (enc:=p_) (k:=.u64) 5 rfl rfl rfl yy ym j8 rfl Q rfl (fK Q 1 ?_)
   refine jF (vs:=(Ze ((b:Nat):Int))) (cs:=(Ze ((b:Nat):Int))) rfl rfl yd gr rfl (by simp[Value.cells]) rfl rfl rfl Q (fun aU bD bE bF S=>fQ S 1 ?_)
   refine uR (lH rfl pJ (lH rfl pJ (lH rfl (qQ (xF (a:=x.u) (mm:=s.im) (enc:=p_) (k:=.u64) 6 rfl rfl yy ym j8 rfl S rfl) rfl rfl) (trivial)))) (jM ?_)
   refine vt (k:=.i64) (ys:=gx (gi s.im x.u).2) (zs:=[((b:Nat):Int)]) (LL:=fun d=>[ic .i64 (Z3 aU) 3 ([((b:Nat):Int)]),ic .i64 d 3 ((gx (gi s.im x.u).2)++([((b:Nat):Int)])),jw 3 (iZ s.im x.u),blk q 59 (qz ((b:Nat):Int) (s.last+1) x),blk ub 169 (D7 fO fM (s.last+1) s B (some s.mb)),fL Lv.cells B 59 7 (fN (s.live++[(⟨0,0,0,0,0,0,0⟩:Lv)]) b (fun _=>(⟨((b:Nat):Int),s.last+1,x.u,x.v,x.wt,x.t,x.exp⟩:Lv))),gM s.mb .u64 p_ s.im,(AW.R s.jd h),(zU s L),blk l 59 nh,blk j 57 (Zz x)]) 1 rfl rfl rfl yd gr rfl S rfl (kX S (i:=0) rfl) (by simp only[zq,zd,zh,gx,zn,maxLen];have h7:=F x.u;have h8:=F x.v;first|omega|(rw[tq bc.1];omega)) (by simp only[zq,zd,zh,gx,zn,maxLen];have h7:=F x.u;have h8:=F x.v;first|omega|(rw[tq bc.1];omega)) f_ ?_
   intro d bG aV bH
   have av:=yg [1,2,3,4,5,6,7,8,9,10] aV
   refine fQ av 1 ?_
   refine kL (kW ?_)
   refine qa (a:=x.u) (c:=(d,(gi s.im x.u).2++[b])) (mm:=s.im) (enc:=p_) (k:=.u64) (L' := (MP d ((gx (gi s.im x.u).2)++([((b:Nat):Int)])) (iZ s.im x.u) q ((b:Nat):Int) (s.last+1) x ub fO fM s B (some s.mb) (fN (s.live++[(⟨0,0,0,0,0,0,0⟩:Lv)]) b (fun _=>(⟨((b:Nat):Int),s.last+1,x.u,x.v,x.wt,x.t,x.exp⟩:Lv))) (gD s.im x.u (d,(gi s.im x.u).2++[b])) h L l j)) 5 rfl rfl rfl rfl yy ym av rfl rfl (fun ax ay=>fQ ay 1 ?_)
   have M:St _ (MK (gD s.im x.u (d,(gi s.im x.u).2++[b])) q ((b:Nat):Int) (s.last+1) x ub fO fM s B (some s.mb) (fN (s.live++[(⟨0,0,0,0,0,0,0⟩:Lv)]) b (fun _=>(⟨((b:Nat):Int),s.last+1,x.u,x.v,x.wt,x.t,x.exp⟩:Lv))) h L l j) ax:=yM (by have h9:=ay;rw[<-CH]at h9;exact h9)
   refine qO tt none M 6 ?_
   refine tN (?_)
   refine iz (fR M 13 ?_)
   refine mw (i:=1) rfl rfl rfl y9 ym rfl jA d_ rfl (fK M 10 ?_)
   refine cl Eu (FY s.tb s.ab L ax (yf M 6 rfl) x.v (ae.room o_) T.v) ?_
   rintro _ bI ⟨bJ,bK,I,rfl,az,ht⟩
   have ag:=yn 6 M ht
   have bk:=(y8 ag (i:=6) rfl:I.ok)
   refine gE ag 2 ?_
   have aW:=yO x.v ag
   refine kV mixed [([0,1,2,3,4,5,6,7,8,9,10,11,12],[3,8,10]),([13],[3])] [14] aW (fun bL U=>jM ?_)
   refine fK U 10 ?_
   refine pE (a:=x.v) (mm:=(gD s.im x.u (d,(gi s.im x.u).2++[b]))) (enc:=p_) (k:=.u64) 5 rfl rfl rfl yy ym j8 rfl U rfl (fK U 1 ?_)
   refine jF (vs:=(Ze ((b:Nat):Int))) (cs:=(Ze ((b:Nat):Int))) rfl rfl yd gr rfl (by simp[Value.cells]) rfl rfl rfl U (fun aX bM bN bO V=>fQ V 1 ?_)
   refine uR (lH rfl pJ (lH rfl pJ (lH rfl (qQ (xF (a:=x.v) (mm:=(gD s.im x.u (d,(gi s.im x.u).2++[b]))) (enc:=p_) (k:=.u64) 6 rfl rfl yy ym j8 rfl V rfl) rfl rfl) (trivial)))) (jM ?_)
   refine vt (k:=.i64) (ys:=gx (gi (gD s.im x.u (d,(gi s.im x.u).2++[b])) x.v).2) (zs:=[((b:Nat):Int)]) (LL:=fun D=>[ic .i64 (Z3 aX) 3 ([((b:Nat):Int)]),ic .i64 D 3 ((gx (gi (gD s.im x.u (d,(gi s.im x.u).2++[b])) x.v).2)++([((b:Nat):Int)])),jw 3 (iZ (gD s.im x.u (d,(gi s.im x.u).2++[b])) x.v),blk q 59 (qz ((b:Nat):Int) (s.last+1) x),blk ub 169 (D7 fO fM (s.last+1) s B (some s.mb)),fL Lv.cells B 59 7 (fN (s.live++[(⟨0,0,0,0,0,0,0⟩:Lv)]) b (fun _=>(⟨((b:Nat):Int),s.last+1,x.u,x.v,x.wt,x.t,x.exp⟩:Lv))),gM s.mb .u64 p_ (gD s.im x.u (d,(gi s.im x.u).2++[b])),(AW.R s.jd h),(zU s I),blk l 59 nh,blk j 57 (Zz x)]) 1 rfl rfl rfl yd gr rfl V rfl (kX V (i:=0) rfl) (by simp only[zq,zd,zh,gx,zn,maxLen];have h7:=F x.u;have h8:=F x.v;first|omega|(rw[tq bc.1];omega)) (by simp only[zq,zd,zh,gx,zn,maxLen];have h7:=F x.u;have h8:=F x.v;first|omega|(rw[tq bc.1];omega)) f_ ?_
   intro D bP aY bQ
   have aA:=yg [1,2,3,4,5,6,7,8,9,10] aY
   refine fQ aA 1 ?_
   refine kL (kW ?_)
   refine qa (a:=x.v) (c:=(D,(gi (gD s.im x.u (d,(gi s.im x.u).2++[b])) x.v).2++[b])) (mm:=(gD s.im x.u (d,(gi s.im x.u).2++[b]))) (enc:=p_) (k:=.u64) (L' := (MP D ((gx (gi (gD s.im x.u (d,(gi s.im x.u).2++[b])) x.v).2)++([((b:Nat):Int)])) (iZ (gD s.im x.u (d,(gi s.im x.u).2++[b])) x.v) q ((b:Nat):Int) (s.last+1) x ub fO fM s B (some s.mb) (fN (s.live++[(⟨0,0,0,0,0,0,0⟩:Lv)]) b (fun _=>(⟨((b:Nat):Int),s.last+1,x.u,x.v,x.wt,x.t,x.exp⟩:Lv))) (gD (gD s.im x.u (d,(gi s.im x.u).2++[b])) x.v (D,(gi (gD s.im x.u (d,(gi s.im x.u).2++[b])) x.v).2++[b])) h I l j)) 5 rfl rfl rfl rfl yy ym aA rfl rfl (fun aZ aB=>fQ aB 1 ?_)
   have ah:St _ (MK (gD (gD s.im x.u (d,(gi s.im x.u).2++[b])) x.v (D,(gi (gD s.im x.u (d,(gi s.im x.u).2++[b])) x.v).2++[b])) q ((b:Nat):Int) (s.last+1) x ub fO fM s B (some s.mb) (fN (s.live++[(⟨0,0,0,0,0,0,0⟩:Lv)]) b (fun _=>(⟨((b:Nat):Int),s.last+1,x.u,x.v,x.wt,x.t,x.exp⟩:Lv))) h I l j) aZ:=yM (by have h9:=aB;rw[<-CH]at h9;exact h9)
   refine qO tt none ah 6 ?_
   refine tN (?_)
   refine iz (fR ah 15 ?_)
   refine jV 7 ah (fun bR ai=>?_)
   refine fQ ai 4 ?_
   refine oh (v:=(Hl ((b:Nat):Int) (s.last+1) x)) (v' := Zc) Tryz.results127 (nH (cs:=(qz ((b:Nat):Int) (s.last+1) x)) rfl wF rfl nu rfl (lQ ai (i:=7) (o:=0) (vs:=(qz ((b:Nat):Int) (s.last+1) x)) rfl rfl)) (oN rfl) ?_
   have a0:=yg [2,3,4,0,5,6,1,7,8] ai
   have cc:=hU.ins (e:=(⟨(b:Int),s.last+1,x.u,x.v,x.wt,x.t,x.exp⟩:Lv)) ac cd bk rfl rfl ⟨ku (by show _/\_;dsimp only;omega),oJ (by show _/\_;dsimp only;omega),T.u,T.v,T.wt,T.t,T.exp⟩ bc.1 (fun z=>by rw[az.mem,ae.mem]) (by rw[az.n,ae.n]) (lv2:=B) (ls:=fN (s.live++[(⟨0,0,0,0,0,0,0⟩:Lv)]) b (fun _=>(⟨((b:Nat):Int),s.last+1,x.u,x.v,x.wt,x.t,x.exp⟩:Lv))) (by unfold xR;rw[if_pos o_]<;>rfl) (im2:=(gD (gD s.im x.u (d,(gi s.im x.u).2++[b])) x.v (D,(gi (gD s.im x.u (d,(gi s.im x.u).2++[b])) x.v).2++[b]))) (by rw[tq bc.1];rfl)
   exact⟨b,(⟨s.jd,s.tb,s.ab,s.mb,B,s.last+1,h,I,fN (s.live++[(⟨0,0,0,0,0,0,0⟩:Lv)]) b (fun _=>(⟨((b:Nat):Int),s.last+1,x.u,x.v,x.wt,x.t,x.exp⟩:Lv)),(gD (gD s.im x.u (d,(gi s.im x.u).2++[b])) x.v (D,(gi (gD s.im x.u (d,(gi s.im x.u).2++[b])) x.v).2++[b]))⟩:fW),rfl,⟨cc.2,rfl⟩,yp (yr (p:=fW.ok fO fM (⟨s.jd,s.tb,s.ab,s.mb,B,s.last+1,h,I,fN (s.live++[(⟨0,0,0,0,0,0,0⟩:Lv)]) b (fun _=>(⟨((b:Nat):Int),s.last+1,x.u,x.v,x.wt,x.t,x.exp⟩:Lv)),(gD (gD s.im x.u (d,(gi s.im x.u).2++[b])) x.v (D,(gi (gD s.im x.u (d,(gi s.im x.u).2++[b])) x.v).2++[b]))⟩:fW)) (yc [_,_,_,_,_,_] _ a0) cc.1) za⟩
 . refine gI H 18 fun bS a1=>?_
   refine iK (f:=(fun _=>(⟨((b:Nat):Int),s.last+1,x.u,x.v,x.wt,x.t,x.exp⟩:Lv))) 2 a1 (fun a2 E=>?_)
   refine fK E 6 ?_
   refine ld rfl rfl ym rfl (kP E 8 rfl rfl) (fK E 1 ?_)
   refine ld rfl rfl ym rfl (kP E 8 rfl rfl) (i7 (pvs:=[(0,(Zn x.u)),(1,(Zn x.v))]) (v:=.agg (ve x.u x.v)) rfl rfl (uk [(0,(Zq x.u)),(1,(Zq x.v))] tH y9 jA rfl ⟨rfl,rfl,rfl,rfl,trivial⟩ rfl s_) (gE E 4 ?_))
   refine qi 3 (iz (fR E 13 ?_))
   refine mw (i:=0) rfl rfl rfl y9 ym rfl jA d_ rfl (fK E 10 ?_)
   refine cl Eu (FY s.tb s.ab s.t a2 (yf E 6 rfl) x.u (TW.R6 o_) T.u) ?_
   rintro _ bT ⟨bU,bV,N,rfl,aj,ht⟩
   have ak:=yn 6 E ht
   have bk:=(y8 ak (i:=6) rfl:N.ok)
   refine gE ak 2 ?_
   have a3:=yg [4,0,1,2,3,5,6,7,8] ak
   have a4:=yO x.u a3
   refine kV mixed [([0,1,2,3,4,5,6,7,8,9,10,11,12],[3,8,10]),([13],[3])] [14] a4 (fun bW W=>jM ?_)
   refine fK W 10 ?_
   refine pE (a:=x.u) (mm:=s.im) (enc:=p_) (k:=.u64) 5 rfl rfl rfl yy ym j8 rfl W rfl (fK W 1 ?_)
   refine jF (vs:=(Ze ((b:Nat):Int))) (cs:=(Ze ((b:Nat):Int))) rfl rfl yd gr rfl (by simp[Value.cells]) rfl rfl rfl W (fun a5 bX bY bZ X=>fQ X 1 ?_)
   refine uR (lH rfl pJ (lH rfl pJ (lH rfl (qQ (xF (a:=x.u) (mm:=s.im) (enc:=p_) (k:=.u64) 6 rfl rfl yy ym j8 rfl X rfl) rfl rfl) (trivial)))) (jM ?_)
   refine vt (k:=.i64) (ys:=gx (gi s.im x.u).2) (zs:=[((b:Nat):Int)]) (LL:=fun g=>[ic .i64 (Z3 a5) 3 ([((b:Nat):Int)]),ic .i64 g 3 ((gx (gi s.im x.u).2)++([((b:Nat):Int)])),jw 3 (iZ s.im x.u),blk q 59 (qz ((b:Nat):Int) (s.last+1) x),blk ub 169 (B1 fO fM (s.last+1) s (some s.mb)),fL Lv.cells s.lv 59 7 (fN s.live b (fun _=>(⟨((b:Nat):Int),s.last+1,x.u,x.v,x.wt,x.t,x.exp⟩:Lv))),gM s.mb .u64 p_ s.im,(AW.R s.jd h),(zU s N),blk l 59 nh,blk j 57 (Zz x)]) 1 rfl rfl rfl yd gr rfl X rfl (kX X (i:=0) rfl) (by simp only[zq,zd,zh,gx,zn,maxLen];have h7:=F x.u;have h8:=F x.v;first|omega|(rw[tq bc.1];omega)) (by simp only[zq,zd,zh,gx,zn,maxLen];have h7:=F x.u;have h8:=F x.v;first|omega|(rw[tq bc.1];omega)) f_ ?_
   intro g b0 a6 b1
   have aC:=yg [1,2,3,4,5,6,7,8,9,10] a6
   refine fQ aC 1 ?_
   refine kL (kW ?_)
   refine qa (a:=x.u) (c:=(g,(gi s.im x.u).2++[b])) (mm:=s.im) (enc:=p_) (k:=.u64) (L' := (MO g ((gx (gi s.im x.u).2)++([((b:Nat):Int)])) (iZ s.im x.u) q ((b:Nat):Int) (s.last+1) x ub fO fM s (some s.mb) (fN s.live b (fun _=>(⟨((b:Nat):Int),s.last+1,x.u,x.v,x.wt,x.t,x.exp⟩:Lv))) (gD s.im x.u (g,(gi s.im x.u).2++[b])) h N l j)) 5 rfl rfl rfl rfl yy ym aC rfl rfl (fun aD aE=>fQ aE 1 ?_)
   have O:St _ (MJ (gD s.im x.u (g,(gi s.im x.u).2++[b])) q ((b:Nat):Int) (s.last+1) x ub fO fM s (some s.mb) (fN s.live b (fun _=>(⟨((b:Nat):Int),s.last+1,x.u,x.v,x.wt,x.t,x.exp⟩:Lv))) h N l j) aD:=yM (by have h9:=aE;rw[<-CH]at h9;exact h9)
   refine qO tt none O 6 ?_
   refine tN (?_)
   refine iz (fR O 13 ?_)
   refine mw (i:=1) rfl rfl rfl y9 ym rfl jA d_ rfl (fK O 10 ?_)
   refine cl Eu (FY s.tb s.ab N aD (yf O 6 rfl) x.v (aj.room o_) T.v) ?_
   rintro _ b2 ⟨b3,b4,J,rfl,aF,ht⟩
   have al:=yn 6 O ht
   have bk:=(y8 al (i:=6) rfl:J.ok)
   refine gE al 2 ?_
   have a7:=yO x.v al
   refine kV mixed [([0,1,2,3,4,5,6,7,8,9,10,11,12],[3,8,10]),([13],[3])] [14] a7 (fun b5 Y=>jM ?_)
   refine fK Y 10 ?_
   refine pE (a:=x.v) (mm:=(gD s.im x.u (g,(gi s.im x.u).2++[b]))) (enc:=p_) (k:=.u64) 5 rfl rfl rfl yy ym j8 rfl Y rfl (fK Y 1 ?_)
   refine jF (vs:=(Ze ((b:Nat):Int))) (cs:=(Ze ((b:Nat):Int))) rfl rfl yd gr rfl (by simp[Value.cells]) rfl rfl rfl Y (fun a8 b6 b7 b8 Z=>fQ Z 1 ?_)
   refine uR (lH rfl pJ (lH rfl pJ (lH rfl (qQ (xF (a:=x.v) (mm:=(gD s.im x.u (g,(gi s.im x.u).2++[b]))) (enc:=p_) (k:=.u64) 6 rfl rfl yy ym j8 rfl Z rfl) rfl rfl) (trivial)))) (jM ?_)
   refine vt (k:=.i64) (ys:=gx (gi (gD s.im x.u (g,(gi s.im x.u).2++[b])) x.v).2) (zs:=[((b:Nat):Int)]) (LL:=fun G=>[ic .i64 (Z3 a8) 3 ([((b:Nat):Int)]),ic .i64 G 3 ((gx (gi (gD s.im x.u (g,(gi s.im x.u).2++[b])) x.v).2)++([((b:Nat):Int)])),jw 3 (iZ (gD s.im x.u (g,(gi s.im x.u).2++[b])) x.v),blk q 59 (qz ((b:Nat):Int) (s.last+1) x),blk ub 169 (B1 fO fM (s.last+1) s (some s.mb)),fL Lv.cells s.lv 59 7 (fN s.live b (fun _=>(⟨((b:Nat):Int),s.last+1,x.u,x.v,x.wt,x.t,x.exp⟩:Lv))),gM s.mb .u64 p_ (gD s.im x.u (g,(gi s.im x.u).2++[b])),(AW.R s.jd h),(zU s J),blk l 59 nh,blk j 57 (Zz x)]) 1 rfl rfl rfl yd gr rfl Z rfl (kX Z (i:=0) rfl) (by simp only[zq,zd,zh,gx,zn,maxLen];have h7:=F x.u;have h8:=F x.v;first|omega|(rw[tq bc.1];omega)) (by simp only[zq,zd,zh,gx,zn,maxLen];have h7:=F x.u;have h8:=F x.v;first|omega|(rw[tq bc.1];omega)) f_ ?_
   intro G b9 a9 ca
   have aG:=yg [1,2,3,4,5,6,7,8,9,10] a9
   refine fQ aG 1 ?_
   refine kL (kW ?_)
   refine qa (a:=x.v) (c:=(G,(gi (gD s.im x.u (g,(gi s.im x.u).2++[b])) x.v).2++[b])) (mm:=(gD s.im x.u (g,(gi s.im x.u).2++[b]))) (enc:=p_) (k:=.u64) (L' := (MO G ((gx (gi (gD s.im x.u (g,(gi s.im x.u).2++[b])) x.v).2)++([((b:Nat):Int)])) (iZ (gD s.im x.u (g,(gi s.im x.u).2++[b])) x.v) q ((b:Nat):Int) (s.last+1) x ub fO fM s (some s.mb) (fN s.live b (fun _=>(⟨((b:Nat):Int),s.last+1,x.u,x.v,x.wt,x.t,x.exp⟩:Lv))) (gD (gD s.im x.u (g,(gi s.im x.u).2++[b])) x.v (G,(gi (gD s.im x.u (g,(gi s.im x.u).2++[b])) x.v).2++[b])) h J l j)) 5 rfl rfl rfl rfl yy ym aG rfl rfl (fun ba aH=>fQ aH 1 ?_)
   have am:St _ (MJ (gD (gD s.im x.u (g,(gi s.im x.u).2++[b])) x.v (G,(gi (gD s.im x.u (g,(gi s.im x.u).2++[b])) x.v).2++[b])) q ((b:Nat):Int) (s.last+1) x ub fO fM s (some s.mb) (fN s.live b (fun _=>(⟨((b:Nat):Int),s.last+1,x.u,x.v,x.wt,x.t,x.exp⟩:Lv))) h J l j) ba:=yM (by have h9:=aH;rw[<-CH]at h9;exact h9)
   refine qO tt none am 6 ?_
   refine tN (?_)
   refine iz (fR am 15 ?_)
   refine jV 7 am (fun cb an=>?_)
   refine fQ an 4 ?_
   refine oh (v:=(Hl ((b:Nat):Int) (s.last+1) x)) (v' := Zc) Tryz.results127 (nH (cs:=(qz ((b:Nat):Int) (s.last+1) x)) rfl wF rfl nu rfl (lQ an (i:=7) (o:=0) (vs:=(qz ((b:Nat):Int) (s.last+1) x)) rfl rfl)) (oN rfl) ?_
   have bb:=yg [2,3,4,0,5,6,1,7,8] an
   have cc:=hU.ins (e:=(⟨(b:Int),s.last+1,x.u,x.v,x.wt,x.t,x.exp⟩:Lv)) ac cd bk rfl rfl ⟨ku (by show _/\_;dsimp only;omega),oJ (by show _/\_;dsimp only;omega),T.u,T.v,T.wt,T.t,T.exp⟩ bc.1 (fun z=>by rw[aF.mem,aj.mem]) (by rw[aF.n,aj.n]) (lv2:=s.lv) (ls:=fN s.live b (fun _=>(⟨((b:Nat):Int),s.last+1,x.u,x.v,x.wt,x.t,x.exp⟩:Lv))) (by unfold xR;rw[if_neg o_]<;>rfl) (im2:=(gD (gD s.im x.u (g,(gi s.im x.u).2++[b])) x.v (G,(gi (gD s.im x.u (g,(gi s.im x.u).2++[b])) x.v).2++[b]))) (by rw[tq bc.1];rfl)
   exact⟨b,(⟨s.jd,s.tb,s.ab,s.mb,s.lv,s.last+1,h,J,fN s.live b (fun _=>(⟨((b:Nat):Int),s.last+1,x.u,x.v,x.wt,x.t,x.exp⟩:Lv)),(gD (gD s.im x.u (g,(gi s.im x.u).2++[b])) x.v (G,(gi (gD s.im x.u (g,(gi s.im x.u).2++[b])) x.v).2++[b]))⟩:fW),rfl,⟨cc.2,rfl⟩,yp (yr (p:=fW.ok fO fM (⟨s.jd,s.tb,s.ab,s.mb,s.lv,s.last+1,h,J,fN s.live b (fun _=>(⟨((b:Nat):Int),s.last+1,x.u,x.v,x.wt,x.t,x.exp⟩:Lv)),(gD (gD s.im x.u (g,(gi s.im x.u).2++[b])) x.v (G,(gi (gD s.im x.u (g,(gi s.im x.u).2++[b])) x.v).2++[b]))⟩:fW)) (yc [_,_,_,_,_,_] _ bb) cc.1) za⟩
end
section
open Go Go.Sx
end
end Go.Proofs.YtoceanggliccgaaGreatDoor
namespace Go.Proofs
open Go.Shelf Go.Lib Go.Sort Go.RowKit in
def Tryz.aau:Go.Shelf.Ren:=⟨fun|23=>119|n=>n,fun|22=>35|3=>3|4=>4|0=>0|n=>n,fun|n=>n⟩
open Go.Shelf Go.Lib Go.Sort Go.RowKit in
theorem Tryz.aat:Go.Proofs.Lays2.n23 Proofs.Tryz.prog Tryz.aau where
 mixed:=by kernel_rfl
 f23:=Proofs.Tryz.func119.trans (congrArg some<|by kernel_rfl)
 t0:=Proofs.Tryz.underlying0
 a0:=Proofs.Tryz.isAgg0
 z0:=Proofs.Tryz.sizeOf0
 v0:=Proofs.Tryz.zeroValue0
 t3:=Proofs.Tryz.underlying3
 a3:=Proofs.Tryz.isAgg3
 z3:=Proofs.Tryz.sizeOf3
 v3:=Proofs.Tryz.zeroValue3
 t4:=Proofs.Tryz.underlying4
 a4:=Proofs.Tryz.isAgg4
 z4:=Proofs.Tryz.sizeOf4
 v4:=Proofs.Tryz.zeroValue4
 t22:=Proofs.Tryz.underlying35
 a22:=Proofs.Tryz.isAgg35
 z22:=Proofs.Tryz.sizeOf35
 v22:=Proofs.Tryz.zeroValue35
 i3:=by kernel_rfl
end Go.Proofs
namespace Go.Proofs.YtoceanggliccgaaGreatDoor
section
open Go Go.Sx
theorem HY(v:Value)(xs:List Int)(w:World)(i:Nat)(f:Own (ic .i64 v 3 xs) w)(hi:i<xs.length) :
 CR ya 119 #[v,.int .i64 (i:Int),.int .i64 ((i+1:Nat):Int)] w (fun r w' => fZ (ic .i64 v 3 xs) w w' (ic .i64 r 3 (xs.eraseIdx i))) :=
 VN f hi fun b a c d e=>Any.slices_Delete_int Tryz.aat b 0 a i (i+1) xs w c d e o_ o_
theorem I5(v:Value)(xs:List Int)(x:Int)(k:Nat)(w:World)(hv:Ints .i64 (fun _=>True) w v xs)(A:xs.length<=1000000)(hk:xs[k]? = some x)(t:∀ (j:Nat) (y:Int),j<k->xs[j]? = some y->y≠x) :
 CR ya 118 #[v,(Za x)] w (fun r w' => r = .int .i64 (k:Int)/\gw [] w w'):=by
 have z:=(ze.1 hk).1
 refine en Tryz.func118 Tryz.ntmps118 ?_
 have o:=yu w
 refine fR o 9 ?_
 refine jX (v:=v) rfl rfl yd hv (gE o 4 ?_)
 refine lp (α:=Nat) (fun q=>[(0,v),(1,(Za x)),(7,(Za xs.length)),(8,(Za q))]) (fun q w1=>St [(w,[])] [] w1/\q<=k) (fun q=>k-q) 0 ⟨rfl,rfl,rfl,gp rO,trivial⟩ (⟨o,o_⟩) ?_
 rintro q d e ⟨m,B⟩
 obtain⟨y,n⟩:=oI (show q<xs.length by omega)
 refine fR m 2 ?_
 refine cmp rfl rfl rfl (oF o_) (fK m 19 ?_)
 refine Cp (i:=(q:Int)) (el:=y) rfl rfl rfl yd gr (St.ET m s_ hv) o_ (by rw[show ((q:Nat):Int).toNat=q by omega];exact n) ?_
 intro f g b c h
 have l:=c.i64
 refine ld rfl rfl ye rfl b ?_
 by_cases a:(x:Int)=(y:Int)
 . have u:q=k:=(wS q k).elim (fun p=>absurd (show y=x from by have s:=a;omega) (t q y p n)) (fun p=>by omega)
   refine fQ m 16 ?_
   refine gq (v:=(Za q)) Tryz.results118 rfl ?_
   obtain rfl:q=k:=by omega
   exact⟨rfl,m.gy s_⟩
 . have u:q≠k:=by rintro rfl;rw[hk]at n;cases n;exact(by have s:=a;omega:False)
   refine fQ m 11 ?_
   refine tN (?_)
   exact again (q+1) ⟨rfl,rfl,rfl,gp rO,trivial⟩ (⟨m,o_⟩) (by show (k-(q+1):Nat)<k-q;omega)
theorem Tq(fO fM ub:Nat)(s:fW)(w:World)(hO:Own (fW.R fO fM ub s) w)(i:Nat)(hi:s.A.gX i) :
 CR ya 65 (Zm ub i) w (fun r w' => ∃ (s2:fW),r = .tuple #[(zL (fJ s.live i)),.int .i64 0]/\((∀ y,s2.has y↔s.has y/\y.slot≠(i:Int))/\s2.last=s.last)/\fZ (fW.R fO fM ub s) w w' (fW.R fO fM ub s2)):=by
 have cb:s.t.A.used<=s.t.A.n:=hO.fact.tok.ul
 have b6:=hO.fact.n
 have b7:=hO.fact.tn
 have b5:=hO.fact.en
 have b8:=hO.fact.vn
 have b4:s.A.used<=s.A.begun:=by have T:=hO.fact.kS.used;omega
 have b3:=hO.fact.kS.le
 have ca:=hO.fact.ll
 have b9:=hi.1
 have bY:=hO.fact.ne i hi
 refine en Tryz.func65 Tryz.ntmps65 ?_
 have b2:=Own.of hO.un
 have F:s.ok fO fM:=hO.fact
 refine fR b2 2 ?_
 refine iM b2 (fun C aP bE bF ak=>?_)
 have aQ:=yg [1,2,3,4,5,6,0] ak
 have al:=yr (p:=s.ok fO fM) (yc [_,_,_,_,_,_] _ aQ) F
 refine fK ak 7 ?_
 refine cl Aq (Bm fO fM ub s aP (yf al 0 rfl)) ?_
 rintro _ aR ⟨rfl,ht⟩
 have aS:=yn 0 al ht
 have X:=(jO aS).unpack
 refine fK X 14 ?_
 refine cl Oa (TB s.jd s.aw aR (yf X 4 rfl) i hi) ?_
 rintro _ bG ⟨g,rfl,S,ht⟩
 have Y:=yn 4 X ht
 have bX:=(y8 Y (i:=4) rfl:g.A.ok)
 refine fK Y 21 ?_
 refine iM Y (fun D bH bI bJ aT=>?_)
 refine gI aT 10 fun bK am=>?_
 refine i7 (pvs:=[]) (v:=.agg GV) rfl rfl (jk [] nu J1 rfl trivial rfl) (fK am 1 ?_)
 refine iK (f:=(fun _=>(⟨0,0,0,0,0,0,0⟩:Lv))) 2 am (fun aU K=>?_)
 refine fK K 11 ?_
 refine i7 (pvs:=[(0,(Zn ((fJ s.live i).u))),(1,(Zn ((fJ s.live i).v)))]) (v:=.agg (ve ((fJ s.live i).u) ((fJ s.live i).v))) rfl rfl (uk [(0,(Zq ((fJ s.live i).u))),(1,(Zq ((fJ s.live i).v)))] tH y9 jA rfl ⟨rfl,rfl,rfl,rfl,trivial⟩ rfl s_) (gE K 4 ?_)
 refine qi 3 (iz (fR K 13 ?_))
 refine mw (i:=0) rfl rfl rfl y9 ym rfl jA d_ rfl ?_
 have aV:=yg [4,0,1,2,3,5,6,7] K
 have L:=yO ((fJ s.live i).u) aV
 refine fK K 10 ?_
 refine pE (a:=(fJ s.live i).u) (mm:=s.im) (enc:=p_) (k:=.u64) 5 rfl rfl rfl yy ym j8 rfl L rfl (r8 (v:=((pe s i).1)) rfl rfl (fK L 5 ?_))
 refine mv (v:=((pe s i).1)) rfl rfl ?_
 have aW:=((F.inc (fJ s.live i).u i).2 ⟨hi,.inl rfl⟩)
 obtain⟨b,an,ao,aX⟩:=IZ aW (F.nd _)
 have aY:b<(gx (pe s i).2).length:=(ze.1 ao).1
 have ap:(gx (pe s i).2).length<=1000000:=by rw[gx,zn];exact kg (F.I4 _) d_
 refine fK L 1 ?_
 refine cl Ie (I5 ((pe s i).1) (gx (pe s i).2) (i:Int) b aU (wG L (i:=0) rfl (JH (by rw[gx,zn]at ap;exact fun j hj=>I3 F (fun _ h=>h) hj))).any ap ao aX) ?_
 rintro _ aZ ⟨rfl,a0⟩
 have M:=yo L a0
 refine fK M 6 ?_
 refine cmp rfl rfl rfl (nk o_) (fK M 4 ?_)
 refine mv (v:=((pe s i).1)) rfl rfl (fK M 2 ?_)
 refine ar (e:=((b+1:Nat):Int)) rfl rfl rfl rfl iT (cl Ig (HY ((pe s i).1) (gx (pe s i).2) aZ b (yf M 0 rfl) aY) ?_)
 rintro d bL ht
 have bZ:=yn 0 M ht
 rw[JG]at bZ
 have E:=bZ
 refine fK E 7 ?_
 refine jb (m:=(gx ((pe s i).2.eraseIdx b)).length) 0 rfl rfl yd E rfl ?_
 by_cases aq:((((gx ((pe s i).2.eraseIdx b)).length:Nat):Int):Int)>(0:Int)
 . have a1:(pe s i).2.eraseIdx b≠[]:=by intro e9;have T:=@aq;rw[e9]at T;simp[gx]at T
   refine fK E 12 ?_
   refine qa (a:=(fJ s.live i).u) (c:=(d,(pe s i).2.eraseIdx b)) (mm:=s.im) (enc:=p_) (k:=.u64) (L' := (MQ d (gx ((gi s.im ((fJ s.live i).u)).2.eraseIdx b)) (iZ s.im ((fJ s.live i).u)) D (fJ s.live i) ub fO fM s (some s.mb) (fN s.live i (fun _=>(⟨0,0,0,0,0,0,0⟩:Lv))) (gD s.im ((fJ s.live i).u) (d,(gi s.im ((fJ s.live i).u)).2.eraseIdx b)) g C)) 5 rfl rfl rfl rfl yy ym E rfl rfl ?_
   intro a2 au
   have Z:=yM au
   have x:mZ s.im s.t (uh s i d b) s.t (fJ s.live i).u i:=mZ.keep (F.nd _) an a1
   refine fQ au 10 ?_
   refine tN (?_)
   refine iz (fR Z 13 ?_)
   refine mw (i:=1) rfl rfl rfl y9 ym rfl jA d_ rfl ?_
   have N:=yO ((fJ s.live i).v) Z
   refine fK Z 10 ?_
   refine pE (a:=(fJ s.live i).v) (mm:=(uh s i d b)) (enc:=p_) (k:=.u64) 5 rfl rfl rfl yy ym j8 rfl N rfl (r8 (v:=((o8 s i d b).1)) rfl rfl (fK N 5 ?_))
   refine mv (v:=((o8 s i d b).1)) rfl rfl ?_
   have a3:=((x.get (fJ s.live i).v i).2 ⟨(F.inc (fJ s.live i).v i).2 ⟨hi,.inr rfl⟩,fun e=>absurd e.symm bY⟩)
   obtain⟨l,av,ax,a4⟩:=IZ a3 (x.nd F.nd _)
   have a5:l<(gx (o8 s i d b).2).length:=(ze.1 ax).1
   have ay:(gx (o8 s i d b).2).length<=1000000:=by rw[gx,zn];exact kg (inc_le F x _) d_
   refine fK N 1 ?_
   refine cl Ie (I5 ((o8 s i d b).1) (gx (o8 s i d b).2) (i:Int) l a2 (wG N (i:=0) rfl (JH (by rw[gx,zn]at ay;exact fun j hj=>I3 F (fun _ h=>((x.get _ _).1 h).1) hj))).any ay ax a4) ?_
   rintro _ a6 ⟨rfl,a7⟩
   have O:=yo N a7
   refine fK O 6 ?_
   refine cmp rfl rfl rfl (nk o_) (fK O 4 ?_)
   refine mv (v:=((o8 s i d b).1)) rfl rfl (fK O 2 ?_)
   refine ar (e:=((l+1:Nat):Int)) rfl rfl rfl rfl iT (cl Ig (HY ((o8 s i d b).1) (gx (o8 s i d b).2) a6 l (yf O 0 rfl) a5) ?_)
   rintro G bM ht
   have b0:=yn 0 O ht
   rw[JG]at b0
   have H:=b0
   refine fK H 7 ?_
   refine jb (m:=(gx ((o8 s i d b).2.eraseIdx l)).length) 0 rfl rfl yd H rfl ?_
   by_cases az:((((gx ((o8 s i d b).2.eraseIdx l)).length:Nat):Int):Int)>(0:Int)
   . have a8:(o8 s i d b).2.eraseIdx l≠[]:=by intro e9;have T:=@az;rw[e9]at T;simp[gx]at T
     refine fK H 12 ?_
     refine qa (a:=(fJ s.live i).v) (c:=(G,(o8 s i d b).2.eraseIdx l)) (mm:=(uh s i d b)) (enc:=p_) (k:=.u64) (L' := (MQ G (gx ((gi (gD s.im ((fJ s.live i).u) (d,(gi s.im ((fJ s.live i).u)).2.eraseIdx b)) ((fJ s.live i).v)).2.eraseIdx l)) (iZ (gD s.im ((fJ s.live i).u) (d,(gi s.im ((fJ s.live i).u)).2.eraseIdx b)) ((fJ s.live i).v)) D (fJ s.live i) ub fO fM s (some s.mb) (fN s.live i (fun _=>(⟨0,0,0,0,0,0,0⟩:Lv))) (gD (gD s.im ((fJ s.live i).u) (d,(gi s.im ((fJ s.live i).u)).2.eraseIdx b)) ((fJ s.live i).v) (G,(gi (gD s.im ((fJ s.live i).u) (d,(gi s.im ((fJ s.live i).u)).2.eraseIdx b)) ((fJ s.live i).v)).2.eraseIdx l)) g C)) 5 rfl rfl rfl rfl yy ym H rfl rfl ?_
     intro bN aA
     have aB:=yM aA
     have a9:mZ (uh s i d b) s.t (Hi s i d b G l) s.t (fJ s.live i).v i:=mZ.keep (x.nd F.nd _) av a8
     refine fQ aA 10 ?_
     refine tN (?_)
     refine iz (fR aB 15 ?_)
     refine jV 7 aB (fun bO aa=>?_)
     refine fQ aa 4 ?_
     refine oh (v:=(zL (fJ s.live i))) (v' := Zc) Gg (nH (cs:=(Z9 (fJ s.live i))) rfl wF rfl nu rfl (lQ aa (i:=7) (o:=0) (vs:=(Z9 (fJ s.live i))) rfl rfl)) (oN rfl) ?_
     have aC:=yg [2,3,4,0,5,6,1,7] aa
     have bW:=(y8 aC (i:=5) rfl:s.t.ok)
     have bk:=F.rem hi S bX bW x a9 (lv2:=s.lv) (ls:=fN s.live i (fun _=>(⟨0,0,0,0,0,0,0⟩:Lv))) rfl
     exact⟨(⟨s.jd,s.tb,s.ab,s.mb,s.lv,s.last,g,s.t,fN s.live i (fun _=>(⟨0,0,0,0,0,0,0⟩:Lv)),(Hi s i d b G l)⟩:fW),rfl,⟨bk.2,rfl⟩,yp (yr (p:=fW.ok fO fM (⟨s.jd,s.tb,s.ab,s.mb,s.lv,s.last,g,s.t,fN s.live i (fun _=>(⟨0,0,0,0,0,0,0⟩:Lv)),(Hi s i d b G l)⟩:fW)) (yc [_,_,_,_,_,_] _ aC) bk.1) za⟩
   . have ba:(o8 s i d b).2.eraseIdx l=[]:=by have T:=@az;simp only[gx,zn]at T;exact tP o_
     have bb:=yg [1,2,3,4,5,6,7,8] H
     refine fK H 13 ?_
     refine Cb (a:=(fJ s.live i).v) (mm:=(uh s i d b)) (enc:=p_) (k:=.u64) (L' := (ML (iZ (gD s.im ((fJ s.live i).u) (d,(gi s.im ((fJ s.live i).u)).2.eraseIdx b)) ((fJ s.live i).v)) D (fJ s.live i) ub fO fM s (some s.mb) (fN s.live i (fun _=>(⟨0,0,0,0,0,0,0⟩:Lv))) g C)) 4 rfl rfl rfl yy ym bb rfl rfl ?_
     intro bc ac
     obtain⟨bd,be,bf⟩:=((x.mem (fJ s.live i).v).2 ⟨(F.mem (fJ s.live i).v).2 ⟨i,hi,.inr rfl⟩,fun e=>absurd e.symm bY⟩)
     refine fK ac 8 ?_
     refine cl Ih (KO s.tb s.ab s.t bc (yf ac 6 rfl) (fJ s.live i).v bd be bf) ?_
     rintro _ bP ⟨U,rfl,aD,ht⟩
     have ad:=yn 6 ac ht
     have bg:mZ (uh s i d b) s.t (Hh s i d b) U (fJ s.live i).v i:=mZ.drop (x.keys F.keys) (x.nd F.nd _) av ba aD.1 aD.2.1
     refine fQ ad 7 ?_
     refine tN (?_)
     refine iz (fR ad 15 ?_)
     refine jV 7 ad (fun bQ ae=>?_)
     refine fQ ae 4 ?_
     refine oh (v:=(zL (fJ s.live i))) (v' := Zc) Gg (nH (cs:=(Z9 (fJ s.live i))) rfl wF rfl nu rfl (lQ ae (i:=7) (o:=0) (vs:=(Z9 (fJ s.live i))) rfl rfl)) (oN rfl) ?_
     have aE:=yg [2,3,4,0,5,6,1,7] ae
     have bW:=(y8 aE (i:=5) rfl:U.ok)
     have bk:=F.rem hi S bX bW x bg (lv2:=s.lv) (ls:=fN s.live i (fun _=>(⟨0,0,0,0,0,0,0⟩:Lv))) rfl
     exact⟨(⟨s.jd,s.tb,s.ab,s.mb,s.lv,s.last,g,U,fN s.live i (fun _=>(⟨0,0,0,0,0,0,0⟩:Lv)),(Hh s i d b)⟩:fW),rfl,⟨bk.2,rfl⟩,yp (yr (p:=fW.ok fO fM (⟨s.jd,s.tb,s.ab,s.mb,s.lv,s.last,g,U,fN s.live i (fun _=>(⟨0,0,0,0,0,0,0⟩:Lv)),(Hh s i d b)⟩:fW)) (yc [_,_,_,_,_,_] _ aE) bk.1) za⟩
 . have bh:(pe s i).2.eraseIdx b=[]:=by have T:=@aq;simp only[gx,zn]at T;exact tP o_
   have bi:=yg [1,2,3,4,5,6,7,8] E
   refine fK E 13 ?_
   refine Cb (a:=(fJ s.live i).u) (mm:=s.im) (enc:=p_) (k:=.u64) (L' := (ML (iZ s.im ((fJ s.live i).u)) D (fJ s.live i) ub fO fM s (some s.mb) (fN s.live i (fun _=>(⟨0,0,0,0,0,0,0⟩:Lv))) g C)) 4 rfl rfl rfl yy ym bi rfl rfl ?_
   intro bj af
   obtain⟨bl,bm,bn⟩:=((F.mem (fJ s.live i).u).2 ⟨i,hi,.inl rfl⟩)
   refine fK af 8 ?_
   refine cl Ih (KO s.tb s.ab s.t bj (yf af 6 rfl) (fJ s.live i).u bl bm bn) ?_
   rintro _ bo ⟨z,rfl,aF,ht⟩
   have V:=yn 6 af ht
   have B:mZ s.im s.t (ug s i) z (fJ s.live i).u i:=mZ.drop F.keys (F.nd _) an bh aF.1 aF.2.1
   refine fQ V 7 ?_
   refine tN (?_)
   refine iz (fR V 13 ?_)
   refine mw (i:=1) rfl rfl rfl y9 ym rfl jA d_ rfl ?_
   have P:=yO ((fJ s.live i).v) V
   refine fK V 10 ?_
   refine pE (a:=(fJ s.live i).v) (mm:=(ug s i)) (enc:=p_) (k:=.u64) 5 rfl rfl rfl yy ym j8 rfl P rfl (r8 (v:=((oD s i).1)) rfl rfl (fK P 5 ?_))
   refine mv (v:=((oD s i).1)) rfl rfl ?_
   have bp:=((B.get (fJ s.live i).v i).2 ⟨(F.inc (fJ s.live i).v i).2 ⟨hi,.inr rfl⟩,fun e=>absurd e.symm bY⟩)
   obtain⟨q,aG,aH,bq⟩:=IZ bp (B.nd F.nd _)
   have br:q<(gx (oD s i).2).length:=(ze.1 aH).1
   have aI:(gx (oD s i).2).length<=1000000:=by rw[gx,zn];exact kg (inc_le F B _) d_
   refine fK P 1 ?_
   refine cl Ie (I5 ((oD s i).1) (gx (oD s i).2) (i:Int) q bo (wG P (i:=0) rfl (JH (by rw[gx,zn]at aI;exact fun j hj=>I3 F (fun _ h=>((B.get _ _).1 h).1) hj))).any aI aH bq) ?_
   rintro _ bs ⟨rfl,bt⟩
   have Q:=yo P bt
   refine fK Q 6 ?_
   refine cmp rfl rfl rfl (nk o_) (fK Q 4 ?_)
   refine mv (v:=((oD s i).1)) rfl rfl (fK Q 2 ?_)
   refine ar (e:=((q+1:Nat):Int)) rfl rfl rfl rfl iT (cl Ig (HY ((oD s i).1) (gx (oD s i).2) bs q (yf Q 0 rfl) br) ?_)
   rintro I bR ht
   have b1:=yn 0 Q ht
   rw[JG]at b1
   have J:=b1
   refine fK J 7 ?_
   refine jb (m:=(gx ((oD s i).2.eraseIdx q)).length) 0 rfl rfl yd J rfl ?_
   by_cases aJ:((((gx ((oD s i).2.eraseIdx q)).length:Nat):Int):Int)>(0:Int)
   . have bu:(oD s i).2.eraseIdx q≠[]:=by intro e9;have T:=@aJ;rw[e9]at T;simp[gx]at T
     refine fK J 12 ?_
     refine qa (a:=(fJ s.live i).v) (c:=(I,(oD s i).2.eraseIdx q)) (mm:=(ug s i)) (enc:=p_) (k:=.u64) (L' := [ic .i64 I 3 (gx ((oD s i).2.eraseIdx q)),jw 3 (zJ s i),blk D 59 (Z9 (fJ s.live i)),blk ub 169 (o4 fO fM s (some s.mb)),fL Lv.cells s.lv 59 7 (fN s.live i (fun _=>(⟨0,0,0,0,0,0,0⟩:Lv))),gM s.mb .u64 p_ (D1 s i I q),(AW.R s.jd g),(zU s z),blk C 59 nh]) 5 rfl rfl rfl rfl yy ym J rfl rfl ?_
     intro bS aK
     have aL:=yM aK
     have bv:mZ (ug s i) z (D1 s i I q) z (fJ s.live i).v i:=mZ.keep (B.nd F.nd _) aG bu
     refine fQ aK 10 ?_
     refine tN (?_)
     refine iz (fR aL 15 ?_)
     refine jV 7 aL (fun bT ag=>?_)
     refine fQ ag 4 ?_
     refine oh (v:=(zL (fJ s.live i))) (v' := Zc) Gg (nH (cs:=(Z9 (fJ s.live i))) rfl wF rfl nu rfl (lQ ag (i:=7) (o:=0) (vs:=(Z9 (fJ s.live i))) rfl rfl)) (oN rfl) ?_
     have aM:=yg [2,3,4,0,5,6,1,7] ag
     have bW:=(y8 aM (i:=5) rfl:z.ok)
     have bk:=F.rem hi S bX bW B bv (lv2:=s.lv) (ls:=fN s.live i (fun _=>(⟨0,0,0,0,0,0,0⟩:Lv))) rfl
     exact⟨(⟨s.jd,s.tb,s.ab,s.mb,s.lv,s.last,g,z,fN s.live i (fun _=>(⟨0,0,0,0,0,0,0⟩:Lv)),(D1 s i I q)⟩:fW),rfl,⟨bk.2,rfl⟩,yp (yr (p:=fW.ok fO fM (⟨s.jd,s.tb,s.ab,s.mb,s.lv,s.last,g,z,fN s.live i (fun _=>(⟨0,0,0,0,0,0,0⟩:Lv)),(D1 s i I q)⟩:fW)) (yc [_,_,_,_,_,_] _ aM) bk.1) za⟩
   . have bw:(oD s i).2.eraseIdx q=[]:=by have T:=@aJ;simp only[gx,zn]at T;exact tP o_
     have bx:=yg [1,2,3,4,5,6,7,8] J
     refine fK J 13 ?_
     refine Cb (a:=(fJ s.live i).v) (mm:=(ug s i)) (enc:=p_) (k:=.u64) (L' := [jw 3 (zJ s i),blk D 59 (Z9 (fJ s.live i)),blk ub 169 (o4 fO fM s (some s.mb)),fL Lv.cells s.lv 59 7 (fN s.live i (fun _=>(⟨0,0,0,0,0,0,0⟩:Lv))),gM s.mb .u64 p_ (zJ s i),(AW.R s.jd g),(zU s z),blk C 59 nh]) 4 rfl rfl rfl yy ym bx rfl rfl ?_
     intro bz ah
     obtain⟨bA,bB,bC⟩:=((B.mem (fJ s.live i).v).2 ⟨(F.mem (fJ s.live i).v).2 ⟨i,hi,.inr rfl⟩,fun e=>absurd e.symm bY⟩)
     refine fK ah 8 ?_
     refine cl Ih (KO s.tb s.ab z bz (yf ah 6 rfl) (fJ s.live i).v bA bB bC) ?_
     rintro _ bU ⟨W,rfl,aN,ht⟩
     have ai:=yn 6 ah ht
     have bD:mZ (ug s i) z (zJ s i) W (fJ s.live i).v i:=mZ.drop (B.keys F.keys) (B.nd F.nd _) aG bw aN.1 aN.2.1
     refine fQ ai 7 ?_
     refine tN (?_)
     refine iz (fR ai 15 ?_)
     refine jV 7 ai (fun bV aj=>?_)
     refine fQ aj 4 ?_
     refine oh (v:=(zL (fJ s.live i))) (v' := Zc) Gg (nH (cs:=(Z9 (fJ s.live i))) rfl wF rfl nu rfl (lQ aj (i:=7) (o:=0) (vs:=(Z9 (fJ s.live i))) rfl rfl)) (oN rfl) ?_
     have aO:=yg [2,3,4,0,5,6,1,7] aj
     have bW:=(y8 aO (i:=5) rfl:W.ok)
     have bk:=F.rem hi S bX bW B bD (lv2:=s.lv) (ls:=fN s.live i (fun _=>(⟨0,0,0,0,0,0,0⟩:Lv))) rfl
     exact⟨(⟨s.jd,s.tb,s.ab,s.mb,s.lv,s.last,g,W,fN s.live i (fun _=>(⟨0,0,0,0,0,0,0⟩:Lv)),(zJ s i)⟩:fW),rfl,⟨bk.2,rfl⟩,yp (yr (p:=fW.ok fO fM (⟨s.jd,s.tb,s.ab,s.mb,s.lv,s.last,g,W,fN s.live i (fun _=>(⟨0,0,0,0,0,0,0⟩:Lv)),(zJ s i)⟩:fW)) (yc [_,_,_,_,_,_] _ aO) bk.1) za⟩
end
section
open Go Go.Sx
theorem agI(fO fM:Nat)(w:World)(hv:fO<=4096)(I:fM<=16384) :
 CR ya 108 #[(Za fO),(Za fM),sU] w (fun r w' => ∃ (ub:Nat) (s:fW),r = .tuple (Zy ub)/\((∀ y,¬ s.has y)/\s.last=0)/\fZ (gj []) w w' (fW.R fO fM ub s)):=by
 refine en Tryz.func108 Tryz.ntmps108 ?_
 have F:=yu w
 refine fR F 10 ?_
 refine cmp rfl rfl rfl (kT o_) (fK F 2 ?_)
 refine cmp rfl rfl rfl (nX o_) (fK F 3 ?_)
 refine cmp rfl rfl rfl (kT o_) (fK F 3 ?_)
 refine cmp rfl rfl rfl (nX o_) (fK F 13 ?_)
 refine cl Om (TJ fM w o_) ?_
 rintro _ o ⟨a,f,rfl,q,G⟩
 have h:=(jN F G)
 refine fK h 20 ?_
 refine cl WB (agt fO o o_) ?_
 rintro _ z ⟨b,d,e,rfl,j,G⟩
 have k:=(jN h G)
 refine fK k 24 ?_
 refine mkV p_ .u64 rfl rfl k (fun c A B C t=>i7 (pvs:=[(0,(Za fO)),(1,(Za fM)),(2,sU),(3,(Zb a)),(4,(Zb b)),(6,(.map (some c)))]) (v:=.agg #[(Za fO),(Za fM),sU,(Zb a),(Zb b),Zg,(.map (some c))]) rfl rfl (jk [(0,(Ze fO)),(1,(Ze fM)),(2,BS),(3,(Zh a)),(4,(Zh b)),(6,[(.map (some c))])] SS acd rfl ⟨rfl,rfl,rfl,rfl,rfl,rfl,rfl,rfl,rfl,rfl,rfl,rfl,trivial⟩ rfl) (gW t (fun g l D E m=>?_)))
 refine fQ m 5 ?_
 refine iw (v:=(Zb g)) (v' := Zc) Tryz.results108 rfl rfl ?_
 have u:St _ [fL Lv.cells Zg 59 7 ([]),blk g 169 (MU fO fM a b (some c)),gM c .u64 p_ ([]),(TW.R b d e),(AW.R a f)] l:=pO m 59 7
 have x:St _ [jw 3 [],fL Lv.cells Zg 59 7 ([]),blk g 169 (MU fO fM a b (some c)),gM c .u64 p_ ([]),(TW.R b d e),(AW.R a f)] l:=St.IA u
 have n:=yg [2,1,3,0,5,4] x
 have J:=(y8 n (i:=5) rfl:e.ok)
 have H:=fW.tv q J j.1 j.2.1 I hv a b d c
 exact⟨g,(⟨a,b,d,c,.slice none 0 0,0,f,e,[],[]⟩:fW),rfl,⟨H.2,rfl⟩,tL (yr (p:=fW.ok fO fM (⟨a,b,d,c,.slice none 0 0,0,f,e,[],[]⟩:fW)) (yc [_,_,_,_,_,_] _ n) H.1) s_⟩
end
section
open Go Go.Sx
theorem adY(fb nb m:Nat)(ed:Int)(xs:List Nd)(w:World)(g:(zZ fb nb m ed).holds w)(f:(blk nb 352 (xs.flatMap Nd.cells)).holds w)(hm:xs.length=m)(hb:m<=1000001)(e:gf xs)(i:Nat)(hi:i<m) :
 CR ya 289 (Zm fb i) w (fun r w' => r = .tuple (pY ((jy xs i).1:Int) ((jy xs i).2))/\gw [] w w'):=by
 have h:=e.up i o_
 refine en Tryz.func289 Tryz.ntmps289 ?_
 have d:=yu w
 refine fR d 23 ?_
 by_cases a:(((fJ xs i).up:Int):Int)=(0:Int)
 . refine fQ d 12 ?_
   refine iw (v:=Zc) (v' := Zp) Gd rfl rfl ?_
   exact⟨by simp only[jy];(repeat' split)<;>(first|rfl|omega),d.gy s_⟩
 . refine fK d 14 ?_
   refine ji (o' := ((fJ xs i).up)*9+0) (i:=((fJ xs i).up:Int)) rfl rfl rfl yh jh o_ o_ (gE d 6 ?_)
   refine qi 3 (iz (fR d 14 ?_))
   refine mw (i:=0) rfl rfl rfl yq ye rfl gr d_ rfl (fK d 8 ?_)
   by_cases b:(((fJ xs ((fJ xs i).up)).k0:Int):Int)=((i:Int):Int)
   . refine fQ d 17 ?_
     refine iw (v:=Zc) (v' := Zf) Gd rfl rfl ?_
     exact⟨by simp only[jy];(repeat' split)<;>(first|rfl|omega),d.gy s_⟩
   . refine fQ d 11 ?_
     refine tN (?_)
     refine iz (fR d 14 ?_)
     refine mw (i:=1) rfl rfl rfl yq ye rfl gr d_ rfl (fK d 8 ?_)
     by_cases c:(((fJ xs ((fJ xs i).up)).k1:Int):Int)=((i:Int):Int)
     . refine fQ d 17 ?_
       refine iw (v:=pX) (v' := Zf) Gd rfl rfl ?_
       exact⟨by simp only[jy];(repeat' split)<;>(first|rfl|omega),d.gy s_⟩
     . refine fQ d 11 ?_
       refine tN (?_)
       refine iz (iH d 19 ?_)
       refine iw (v:=Zc) (v' := Zp) Gd rfl rfl ?_
       exact⟨by simp only[jy];(repeat' split)<;>(first|rfl|omega),d.gy s_⟩
theorem Eb(fb nb m:Nat)(ed:Int)(xs:List Nd)(w:World)(k:(zZ fb nb m ed).holds w)(h:(blk nb 352 (xs.flatMap Nd.cells)).holds w)(hm:xs.length=m)(hb:m<=1000001)(g:gf xs)(i j:Nat)(hi:i<m)(l:j<m) :
 CR ya 271 (Zu fb i j) w (fun r w' => r = .bool (kY xs i j)/\gw [] w w'):=by
 refine en Tryz.func271 Tryz.ntmps271 ?_
 have f:=yu w
 refine nI f 31 fun b a=>?_
 by_cases c:((fJ xs i).key:Int)<((fJ xs j).key:Int)
 . refine fQ a 15 ?_
   refine gq (v:=Zf) Gb rfl ?_
   exact⟨EB ((decide_eq_true o_).symm),a.gy s_⟩
 . refine fK a 4 ?_
   by_cases d:((fJ xs i).key:Int)=((fJ xs j).key:Int)
   . refine fK a 4 ?_
     by_cases e:((i:Int):Int)<((j:Int):Int)
     . refine fQ a 7 ?_
       refine gq (v:=Zf) Gb rfl ?_
       exact⟨EB ((decide_eq_true o_).symm),a.gy s_⟩
     . refine fQ a 7 ?_
       refine gq (v:=Zp) Gb rfl ?_
       exact⟨EB ((decide_eq_false o_).symm),a.gy s_⟩
   . refine fQ a 11 ?_
     refine gq (v:=Zp) Gb rfl ?_
     exact⟨EB ((decide_eq_false o_).symm),a.gy s_⟩
theorem rC(fb nb m:Nat)(ed:Int)(xs:List Nd)(w:World)(p:Own (Zl fb nb m ed xs) w)(hm:xs.length=m)(hb:m<=1000001)(q:gf xs)(i k:Nat)(hi:i<m)(hk:k<m) :
 CR ya 300 #[(Zb fb),(Za i),Zc,(Za k)] w (fun r w' => r = .tuple #[]/\fZ (Zl fb nb m ed xs) w w' (Zl fb nb m ed (iW xs i 0 k))):=by
 refine en Tryz.func300 Tryz.ntmps300 ?_
 have n:=(yt p).unpack
 refine fR n 11 ?_
 refine jx (o:=i*9+0) (o' := i*9+0) (i:=0) rfl rfl rfl yq gr d_ rfl (jU (f:=(fun x:Nd=>{ x with k0:=k })) 1 n (fun c a d=>?_))
 refine fK a 5 ?_
 by_cases e:((k:Int):Int)=(0:Int)
 . refine fQ a 5 ?_
   refine iO Gf ?_
   have l:iW xs i 0 k=fN xs i (fun x=>{ x with k0:=k }):=by simp only[iW,reduceIte,Dl];(repeat' split)<;>(first|rfl|omega)
   have j:=a
   rw[<-l]at j
   exact⟨rfl,yj (yc [_,_] [] j)⟩
 . refine fK a 13 ?_
   refine jU (f:=(fun x:Nd=>{ x with up:=i })) 1 a (fun g b h=>?_)
   refine fQ b 1 ?_
   refine iO Gf ?_
   have l:iW xs i 0 k=fN (fN xs i (fun x=>{ x with k0:=k })) k (fun x=>{ x with up:=i }):=by simp only[iW,reduceIte,Dl];(repeat' split)<;>(first|rfl|omega)
   have j:=b
   rw[<-l]at j
   exact⟨rfl,yj (yc [_,_] [] j)⟩
theorem rD(fb nb m:Nat)(ed:Int)(xs:List Nd)(w:World)(p:Own (Zl fb nb m ed xs) w)(hm:xs.length=m)(hb:m<=1000001)(q:gf xs)(i k:Nat)(hi:i<m)(hk:k<m) :
 CR ya 300 #[(Zb fb),(Za i),pX,(Za k)] w (fun r w' => r = .tuple #[]/\fZ (Zl fb nb m ed xs) w w' (Zl fb nb m ed (iW xs i 1 k))):=by
 refine en Tryz.func300 Tryz.ntmps300 ?_
 have n:=(yt p).unpack
 refine fR n 11 ?_
 refine jx (o:=i*9+0) (o' := i*9+1) (i:=1) rfl rfl rfl yq gr d_ rfl (jU (f:=(fun x:Nd=>{ x with k1:=k })) 1 n (fun c a d=>?_))
 refine fK a 5 ?_
 by_cases e:((k:Int):Int)=(0:Int)
 . refine fQ a 5 ?_
   refine iO Gf ?_
   have l:iW xs i 1 k=fN xs i (fun x=>{ x with k1:=k }):=by simp only[iW,reduceIte,Dl];(repeat' split)<;>(first|rfl|omega)
   have j:=a
   rw[<-l]at j
   exact⟨rfl,yj (yc [_,_] [] j)⟩
 . refine fK a 13 ?_
   refine jU (f:=(fun x:Nd=>{ x with up:=i })) 1 a (fun g b h=>?_)
   refine fQ b 1 ?_
   refine iO Gf ?_
   have l:iW xs i 1 k=fN (fN xs i (fun x=>{ x with k1:=k })) k (fun x=>{ x with up:=i }):=by simp only[iW,reduceIte,Dl];(repeat' split)<;>(first|rfl|omega)
   have j:=b
   rw[<-l]at j
   exact⟨rfl,yj (yc [_,_] [] j)⟩
theorem J4(fb nb m:Nat)(ed:Int)(xs:List Nd)(w:World)(hO:Own (Zl fb nb m ed xs) w)(hm:xs.length=m)(hb:m<=1000001)(hI:gf xs)(i:Nat)(hi:i<m) :
 CR ya 291 (Zm fb i) w (fun r w' => r = .tuple #[]/\fZ (Zl fb nb m ed xs) w w' (Zl fb nb m ed (jS xs i))):=by
 refine en Tryz.func291 Tryz.ntmps291 ?_
 have aq:=(yt hO).unpack
 refine fR aq 7 ?_
 refine ji (o' := i*9+0) (i:=(i:Int)) rfl rfl rfl yh jh om o_ (gE aq 13 ?_)
 cases P:((fJ xs i).flip:Bool)
 . skip
   refine iH aq 3 ?_
   refine xW Di ?_
   have T:jS xs i=xs:=by simp only[jS];(repeat' split)<;>(first|rfl|omega|simp_all)
   have F:=aq
   rw[<-T]at F
   exact⟨rfl,yj (yc [_,_] [] F)⟩
 . skip
   refine fR aq 8 ?_
   refine jU (f:=(fun x:Nd=>{ x with flip:=false })) 1 aq (fun Q C R=>?_)
   have n:gf (fN xs i (fun x=>{ x with flip:=false })):=gf.iL hI om (fun x a b c d e=>⟨a,b,c,d,e⟩)
   obtain⟨p,y,S,n,C⟩:=iC (m:=m) n C
   refine gI C 9 fun U D=>?_
   refine jx (o:=i*9+0) (o' := i*9+1) (i:=1) rfl rfl rfl yq gr d_ rfl (fK D 4 ?_)
   refine jx (o:=i*9+0) (o' := i*9+0) (i:=0) rfl rfl rfl yq gr d_ rfl (fK D 3 ?_)
   refine jx (o:=i*9+0) (o' := i*9+0) (i:=0) rfl rfl rfl yq gr d_ rfl (jU (f:=(fun x:Nd=>{ x with k0:=((fJ p i).k1) })) 1 D (fun V z W=>?_))
   have E:gf (fN p i (fun x=>{ x with k0:=((fJ p i).k1) })):=gf.iL n om (fun x a b c d e=>⟨(o9 (n.k1 i om)),b,c,d,e⟩)
   obtain⟨K,A,X,E,z⟩:=iC (m:=m) E z
   refine fK z 2 ?_
   refine jx (o:=i*9+0) (o' := i*9+1) (i:=1) rfl rfl rfl yq gr d_ rfl (jU (f:=(fun x:Nd=>{ x with k1:=((fJ p i).k0) })) 1 z (fun Y j Z=>?_))
   have h:gf (fN K i (fun x=>{ x with k1:=((fJ p i).k0) })):=gf.iL E om (fun x a b c d e=>⟨a,(o9 (n.k0 i om)),c,d,e⟩)
   obtain⟨g,B,aa,h,j⟩:=iC (m:=m) h j
   refine gE j 12 ?_
   refine qi 3 (iz (fR j 13 ?_))
   refine mw (i:=0) rfl rfl rfl yq ye rfl gr d_ rfl (fK j 6 ?_)
   by_cases ab:(((fJ g i).k0:Int):Int)=(0:Int)
   . refine fQ j 11 ?_
     refine tN (?_)
     refine iz (fR j 13 ?_)
     refine mw (i:=1) rfl rfl rfl yq ye rfl gr d_ rfl (fK j 6 ?_)
     by_cases ac:(((fJ g i).k1:Int):Int)=(0:Int)
     . refine fQ j 11 ?_
       refine tN (?_)
       refine iz (iH j 11 ?_)
       refine iO Di ?_
       have T:jS xs i=g:=by subst B;subst A;subst y;simp only[jS];(repeat' split)<;>(first|rfl|omega|simp_all)
       have F:=j
       rw[<-T]at F
       exact⟨rfl,yj (yc [_,_] [] F)⟩
     . refine gI j 15 fun ad q=>?_
       refine ji (o' := ((fJ g i).k1)*9+0) (i:=((fJ g i).k1:Int)) rfl rfl rfl yh jh (o9 (show ((fJ g i).k1)<(g).length from(o9 (h.k1 i om)))) o_ (fK q 1 ?_)
       refine ld rfl rfl mT rfl (mF q (i:=1) rfl f_ (o9 (h.k1 i om)) rfl) (fK q 1 ?_)
       refine ji (o' := ((fJ g i).k1)*9+0) (i:=((fJ g i).k1:Int)) rfl rfl rfl yh jh (o9 (show ((fJ g i).k1)<(g).length from(o9 (h.k1 i om)))) o_ (fK q 1 ?_)
       refine jU (f:=(fun x:Nd=>{ x with flip := !((fJ g ((fJ g i).k1)).flip) })) 1 q (fun ae s af=>?_) (hk:=(o9 (h.k1 i om)))
       have H:gf (fN g ((fJ g i).k1) (fun x=>{ x with flip := !((fJ g ((fJ g i).k1)).flip) })):=gf.iL h (o9 (h.k1 i om)) (fun x a b c d e=>⟨a,b,c,d,e⟩)
       obtain⟨L,M,ag,H,s⟩:=iC (m:=m) H s
       refine fQ s 7 ?_
       refine tN (?_)
       refine iz (iH s 11 ?_)
       refine iO Di ?_
       have T:jS xs i=L:=by subst M;subst B;subst A;subst y;simp only[jS];(repeat' split)<;>(first|rfl|omega|simp_all)
       have F:=s
       rw[<-T]at F
       exact⟨rfl,yj (yc [_,_] [] F)⟩
   . refine gI j 15 fun ah t=>?_
     refine ji (o' := ((fJ g i).k0)*9+0) (i:=((fJ g i).k0:Int)) rfl rfl rfl yh jh (o9 (show ((fJ g i).k0)<(g).length from(o9 (h.k0 i om)))) o_ (fK t 1 ?_)
     refine ld rfl rfl mT rfl (mF t (i:=1) rfl f_ (o9 (h.k0 i om)) rfl) (fK t 1 ?_)
     refine ji (o' := ((fJ g i).k0)*9+0) (i:=((fJ g i).k0:Int)) rfl rfl rfl yh jh (o9 (show ((fJ g i).k0)<(g).length from(o9 (h.k0 i om)))) o_ (fK t 1 ?_)
     refine jU (f:=(fun x:Nd=>{ x with flip := !((fJ g ((fJ g i).k0)).flip) })) 1 t (fun ai k aj=>?_) (hk:=(o9 (h.k0 i om)))
     have G:gf (fN g ((fJ g i).k0) (fun x=>{ x with flip := !((fJ g ((fJ g i).k0)).flip) })):=gf.iL h (o9 (h.k0 i om)) (fun x a b c d e=>⟨a,b,c,d,e⟩)
     obtain⟨l,I,ak,G,k⟩:=iC (m:=m) G k
     refine fQ k 7 ?_
     refine tN (?_)
     refine iz (fR k 13 ?_)
     refine mw (i:=1) rfl rfl rfl yq ye rfl gr d_ rfl (fK k 6 ?_)
     by_cases al:(((fJ g i).k1:Int):Int)=(0:Int)
     . refine fQ k 11 ?_
       refine tN (?_)
       refine iz (iH k 11 ?_)
       refine iO Di ?_
       have T:jS xs i=l:=by subst I;subst B;subst A;subst y;simp only[jS];(repeat' split)<;>(first|rfl|omega|simp_all)
       have F:=k
       rw[<-T]at F
       exact⟨rfl,yj (yc [_,_] [] F)⟩
     . refine gI k 15 fun am u=>?_
       refine ji (o' := ((fJ g i).k1)*9+0) (i:=((fJ g i).k1:Int)) rfl rfl rfl yh jh (o9 (show ((fJ g i).k1)<(l).length from(o9 (h.k1 i om)))) o_ (fK u 1 ?_)
       refine ld rfl rfl mT rfl (mF u (i:=1) rfl f_ (o9 (h.k1 i om)) rfl) (fK u 1 ?_)
       refine ji (o' := ((fJ g i).k1)*9+0) (i:=((fJ g i).k1:Int)) rfl rfl rfl yh jh (o9 (show ((fJ g i).k1)<(l).length from(o9 (h.k1 i om)))) o_ (fK u 1 ?_)
       refine jU (f:=(fun x:Nd=>{ x with flip := !((fJ l ((fJ g i).k1)).flip) })) 1 u (fun an v ao=>?_) (hk:=(o9 (h.k1 i om)))
       have J:gf (fN l ((fJ g i).k1) (fun x=>{ x with flip := !((fJ l ((fJ g i).k1)).flip) })):=gf.iL G (o9 (h.k1 i om)) (fun x a b c d e=>⟨a,b,c,d,e⟩)
       obtain⟨N,O,ap,J,v⟩:=iC (m:=m) J v
       refine fQ v 7 ?_
       refine tN (?_)
       refine iz (iH v 11 ?_)
       refine iO Di ?_
       have T:jS xs i=N:=by subst O;subst I;subst B;subst A;subst y;simp only[jS];(repeat' split)<;>(first|rfl|omega|simp_all)
       have F:=v
       rw[<-T]at F
       exact⟨rfl,yj (yc [_,_] [] F)⟩
end
section
open Go Go.Sx
theorem lP(fb nb m:Nat)(ed:Int)(xs:List Nd)(w:World)(hO:Own (Zl fb nb m ed xs) w)(hm:xs.length=m)(hb:m<=1000001)(hI:gf xs)(i:Nat)(hi:i<m) :
 CR ya 226 (Zm fb i) w (fun r w' => r = .tuple #[]/\fZ (Zl fb nb m ed xs) w w' (Zl fb nb m ed (iI xs i))):=by
 refine en Tryz.func226 Tryz.ntmps226 ?_
 have bU:=(yt hO).unpack
 refine fR bU 7 ?_
 refine ji (o' := i*9+0) (i:=(i:Int)) rfl rfl rfl yh jh om o_ (fK bU 13 ?_)
 refine ar (e:=(IntKind.i64.wrap (1+(fJ xs i).iP))) rfl rfl rfl rfl rfl (fK bU 2 ?_)
 refine jU (f:=(fun x:Nd=>{ x with size:=1 })) 1 bU (fun aW az aX=>?_)
 have aH:gf (fN xs i (fun x=>{ x with size:=1 })):=gf.iL hI om (fun x a b c d e=>⟨a,b,c,d,e⟩)
 refine fK az 2 ?_
 refine jU (f:=(fun x:Nd=>{ x with first:=i })) 1 az (fun aY aA aZ=>?_)
 have aI:gf (fN (fN xs i (fun x=>{ x with size:=1 })) i (fun x=>{ x with first:=i })):=gf.iL aH om (fun x a b c d e=>⟨a,b,c,om,e⟩)
 refine fK aA 2 ?_
 refine jU (f:=(fun x:Nd=>{ x with total:=(IntKind.i64.wrap (1+(fJ xs i).iP)) })) 1 aA (fun a0 aB a1=>?_)
 have aJ:gf (fN (fN (fN xs i (fun x=>{ x with size:=1 })) i (fun x=>{ x with first:=i })) i (fun x=>{ x with total:=(IntKind.i64.wrap (1+(fJ xs i).iP)) })):=gf.iL aI om (fun x a b c d e=>⟨a,b,c,d,e⟩)
 obtain⟨y,hy⟩:∃ y,y=fN xs i (fun x=>{ x with size:=1,first:=i,total:=IntKind.i64.wrap (1+x.iP) }):=⟨_,rfl⟩
 have bk:=aB
 have F:=aJ
 refine fK aB 4 ?_
 rw[acY o_,<-hy]at bk F
 have bV:y.length=m:=by rw[hy,gC,hm]
 refine gE bk 8 ?_
 refine qi 3 (iz (fR bk 13 ?_))
 refine mw (i:=0) rfl rfl rfl yq ye rfl gr d_ rfl (fK bk 7 ?_)
 by_cases a2:(((fJ y i).k0:Int):Int)=(0:Int)
 . refine fQ bk 12 ?_
   refine tN (?_)
   refine iz (fR bk 13 ?_)
   refine mw (i:=1) rfl rfl rfl yq ye rfl gr d_ rfl (fK bk 7 ?_)
   by_cases a3:(((fJ y i).k1:Int):Int)=(0:Int)
   . refine fQ bk 12 ?_
     refine tN (?_)
     refine iz (iH bk 11 ?_)
     refine iO uS ?_
     have e9:iI xs i=y:=by rw[uM hy o_];first|(rw[tC (k:=(fJ y i).k0) o_];rw[tC (k:=(fJ y i).k1) o_])
     have T:=bk
     rw[<-e9]at T
     exact⟨rfl,yj (yc [_,_] [] T)⟩
   . refine fK bk 13 ?_
     refine ji (o' := ((fJ y i).k1)*9+0) (i:=((fJ y i).k1:Int)) rfl rfl rfl yh jh (o9 (show ((fJ y i).k1)<(y).length from(o9 (F.k1 i om)))) o_ (gI bk 12 fun a4 V=>?_)
     refine ld rfl rfl ye rfl (mF V (i:=1) rfl f_ (o9 (F.k1 i om)) rfl) (ar (e:=(IntKind.i64.wrap ((fJ y i).size+(fJ y ((fJ y i).k1)).size))) rfl rfl rfl rfl rfl (fK V 2 ?_))
     refine jU (f:=(fun x:Nd=>{ x with size:=(IntKind.i64.wrap ((fJ y i).size+(fJ y ((fJ y i).k1)).size)) })) 1 V (fun a5 W a6=>?_)
     have X:gf (fN y i (fun x=>{ x with size:=(IntKind.i64.wrap ((fJ y i).size+(fJ y ((fJ y i).k1)).size)) })):=gf.iL F om (fun x a b c d e=>⟨a,b,c,d,e⟩)
     obtain⟨B,R,a7,X,W⟩:=iC (m:=m) X W
     refine gI W 11 fun a8 Y=>?_
     refine ld rfl rfl ye rfl (mF Y (i:=1) rfl f_ (o9 (F.k1 i om)) rfl) (ar (e:=(IntKind.i64.wrap ((fJ B i).total+(fJ B ((fJ y i).k1)).total))) rfl rfl rfl rfl rfl (fK Y 2 ?_))
     refine jU (f:=(fun x:Nd=>{ x with total:=(IntKind.i64.wrap ((fJ B i).total+(fJ B ((fJ y i).k1)).total)) })) 1 Y (fun a9 Z ba=>?_)
     have C:gf (fN B i (fun x=>{ x with total:=(IntKind.i64.wrap ((fJ B i).total+(fJ B ((fJ y i).k1)).total)) })):=gf.iL X om (fun x a b c d e=>⟨a,b,c,d,e⟩)
     obtain⟨j,S,bb,C,Z⟩:=iC (m:=m) C Z
     refine gI Z 8 fun aK J=>?_
     refine ld rfl rfl ye rfl (mF J (i:=1) rfl f_ (o9 (F.k1 i om)) rfl) (fK J 4 ?_)
     refine cl Ey (Eb fb nb m ed j aK (J.at (i:=0) rfl) (J.at (i:=1) rfl) oa hb C ((fJ j ((fJ y i).k1)).first) ((fJ j i).first) (o9 (C.first ((fJ y i).k1) (o9 (F.k1 i om)))) (o9 (C.first i om))) ?_
     rintro _ bc ⟨rfl,aL⟩
     have u:=yo J aL
     refine gE u 2 ?_
     cases U:(kY j ((fJ j ((fJ y i).k1)).first) ((fJ j i).first):Bool)
     . skip
       refine iH u 8 ?_
       refine tN (?_)
       refine iz (iH u 11 ?_)
       refine iO uS ?_
       have e9:iI xs i=j:=by rw[uM hy o_];first|(rw[tC (k:=(fJ y i).k0) o_];rw[tA (k:=(fJ y i).k1) o_ R S U])|(rw[tA (k:=(fJ y i).k0) o_ R S U];rw[tC (k:=(fJ y i).k1) o_])
       have T:=u
       rw[<-e9]at T
       exact⟨rfl,yj (yc [_,_] [] T)⟩
     . skip
       refine fR u 6 ?_
       refine ld rfl rfl ye rfl (mF u (i:=1) rfl f_ (o9 (F.k1 i om)) rfl) (fK u 2 ?_)
       refine jU (f:=(fun x:Nd=>{ x with first:=((fJ j ((fJ y i).k1)).first) })) 1 u (fun bd K be=>?_)
       have aC:gf (fN j i (fun x=>{ x with first:=((fJ j ((fJ y i).k1)).first) })):=gf.iL C om (fun x a b c d e=>⟨a,b,c,(o9 (C.first ((fJ y i).k1) (o9 (F.k1 i om)))),e⟩)
       obtain⟨aM,aD,bf,aC,K⟩:=iC (m:=m) aC K
       refine fQ K 7 ?_
       refine tN (?_)
       refine iz (iH K 11 ?_)
       refine iO uS ?_
       have e9:iI xs i=aM:=by rw[uM hy o_];first|(rw[tC (k:=(fJ y i).k0) o_];rw[tB (k:=(fJ y i).k1) o_ R S U aD])|(rw[tB (k:=(fJ y i).k0) o_ R S U aD];rw[tC (k:=(fJ y i).k1) o_])
       have T:=K
       rw[<-e9]at T
       exact⟨rfl,yj (yc [_,_] [] T)⟩
 . refine fK bk 13 ?_
   refine ji (o' := ((fJ y i).k0)*9+0) (i:=((fJ y i).k0:Int)) rfl rfl rfl yh jh (o9 (show ((fJ y i).k0)<(y).length from(o9 (F.k0 i om)))) o_ (gI bk 12 fun bg aa=>?_)
   refine ld rfl rfl ye rfl (mF aa (i:=1) rfl f_ (o9 (F.k0 i om)) rfl) (ar (e:=(IntKind.i64.wrap ((fJ y i).size+(fJ y ((fJ y i).k0)).size))) rfl rfl rfl rfl rfl (fK aa 2 ?_))
   refine jU (f:=(fun x:Nd=>{ x with size:=(IntKind.i64.wrap ((fJ y i).size+(fJ y ((fJ y i).k0)).size)) })) 1 aa (fun bh ab bi=>?_)
   have ac:gf (fN y i (fun x=>{ x with size:=(IntKind.i64.wrap ((fJ y i).size+(fJ y ((fJ y i).k0)).size)) })):=gf.iL F om (fun x a b c d e=>⟨a,b,c,d,e⟩)
   obtain⟨D,l,bj,ac,ab⟩:=iC (m:=m) ac ab
   refine gI ab 11 fun bl ad=>?_
   refine ld rfl rfl ye rfl (mF ad (i:=1) rfl f_ (o9 (F.k0 i om)) rfl) (ar (e:=(IntKind.i64.wrap ((fJ D i).total+(fJ D ((fJ y i).k0)).total))) rfl rfl rfl rfl rfl (fK ad 2 ?_))
   refine jU (f:=(fun x:Nd=>{ x with total:=(IntKind.i64.wrap ((fJ D i).total+(fJ D ((fJ y i).k0)).total)) })) 1 ad (fun bm ae bn=>?_)
   have v:gf (fN D i (fun x=>{ x with total:=(IntKind.i64.wrap ((fJ D i).total+(fJ D ((fJ y i).k0)).total)) })):=gf.iL ac om (fun x a b c d e=>⟨a,b,c,d,e⟩)
   obtain⟨g,n,bo,v,ae⟩:=iC (m:=m) v ae
   refine gI ae 8 fun aN L=>?_
   refine ld rfl rfl ye rfl (mF L (i:=1) rfl f_ (o9 (F.k0 i om)) rfl) (fK L 4 ?_)
   refine cl Ey (Eb fb nb m ed g aN (L.at (i:=0) rfl) (L.at (i:=1) rfl) oa hb v ((fJ g ((fJ y i).k0)).first) ((fJ g i).first) (o9 (v.first ((fJ y i).k0) (o9 (F.k0 i om)))) (o9 (v.first i om))) ?_
   rintro _ bp ⟨rfl,aO⟩
   have h:=yo L aO
   refine gE h 2 ?_
   cases o:(kY g ((fJ g ((fJ y i).k0)).first) ((fJ g i).first):Bool)
   . skip
     refine iH h 8 ?_
     refine tN (?_)
     refine iz (fR h 13 ?_)
     refine mw (i:=1) rfl rfl rfl yq ye rfl gr d_ rfl (fK h 7 ?_)
     by_cases bq:(((fJ y i).k1:Int):Int)=(0:Int)
     . refine fQ h 12 ?_
       refine tN (?_)
       refine iz (iH h 11 ?_)
       refine iO uS ?_
       have e9:iI xs i=g:=by rw[uM hy o_];first|(rw[tC (k:=(fJ y i).k0) o_];rw[tA (k:=(fJ y i).k1) o_ l n o])|(rw[tA (k:=(fJ y i).k0) o_ l n o];rw[tC (k:=(fJ y i).k1) o_])
       have T:=h
       rw[<-e9]at T
       exact⟨rfl,yj (yc [_,_] [] T)⟩
     . refine fK h 13 ?_
       refine ji (o' := ((fJ y i).k1)*9+0) (i:=((fJ y i).k1:Int)) rfl rfl rfl yh jh (o9 (show ((fJ y i).k1)<(g).length from(o9 (F.k1 i om)))) o_ (gI h 12 fun br af=>?_)
       refine ld rfl rfl ye rfl (mF af (i:=1) rfl f_ (o9 (F.k1 i om)) rfl) (ar (e:=(IntKind.i64.wrap ((fJ g i).size+(fJ g ((fJ y i).k1)).size))) rfl rfl rfl rfl rfl (fK af 2 ?_))
       refine jU (f:=(fun x:Nd=>{ x with size:=(IntKind.i64.wrap ((fJ g i).size+(fJ g ((fJ y i).k1)).size)) })) 1 af (fun bs ag bt=>?_)
       have ah:gf (fN g i (fun x=>{ x with size:=(IntKind.i64.wrap ((fJ g i).size+(fJ g ((fJ y i).k1)).size)) })):=gf.iL v om (fun x a b c d e=>⟨a,b,c,d,e⟩)
       obtain⟨E,ai,bu,ah,ag⟩:=iC (m:=m) ah ag
       refine gI ag 11 fun bv aj=>?_
       refine ld rfl rfl ye rfl (mF aj (i:=1) rfl f_ (o9 (F.k1 i om)) rfl) (ar (e:=(IntKind.i64.wrap ((fJ E i).total+(fJ E ((fJ y i).k1)).total))) rfl rfl rfl rfl rfl (fK aj 2 ?_))
       refine jU (f:=(fun x:Nd=>{ x with total:=(IntKind.i64.wrap ((fJ E i).total+(fJ E ((fJ y i).k1)).total)) })) 1 aj (fun bw ak bx=>?_)
       have G:gf (fN E i (fun x=>{ x with total:=(IntKind.i64.wrap ((fJ E i).total+(fJ E ((fJ y i).k1)).total)) })):=gf.iL ah om (fun x a b c d e=>⟨a,b,c,d,e⟩)
       obtain⟨p,al,bz,G,ak⟩:=iC (m:=m) G ak
       refine gI ak 8 fun aP M=>?_
       refine ld rfl rfl ye rfl (mF M (i:=1) rfl f_ (o9 (F.k1 i om)) rfl) (fK M 4 ?_)
       refine cl Ey (Eb fb nb m ed p aP (M.at (i:=0) rfl) (M.at (i:=1) rfl) oa hb G ((fJ p ((fJ y i).k1)).first) ((fJ p i).first) (o9 (G.first ((fJ y i).k1) (o9 (F.k1 i om)))) (o9 (G.first i om))) ?_
       rintro _ bA ⟨rfl,aQ⟩
       have z:=yo M aQ
       refine gE z 2 ?_
       cases am:(kY p ((fJ p ((fJ y i).k1)).first) ((fJ p i).first):Bool)
       . skip
         refine iH z 8 ?_
         refine tN (?_)
         refine iz (iH z 11 ?_)
         refine iO uS ?_
         have e9:iI xs i=p:=by rw[uM hy o_];first|(rw[tA (k:=(fJ y i).k0) o_ l n o];rw[tA (k:=(fJ y i).k1) o_ ai al am])
         have T:=z
         rw[<-e9]at T
         exact⟨rfl,yj (yc [_,_] [] T)⟩
       . skip
         refine fR z 6 ?_
         refine ld rfl rfl ye rfl (mF z (i:=1) rfl f_ (o9 (F.k1 i om)) rfl) (fK z 2 ?_)
         refine jU (f:=(fun x:Nd=>{ x with first:=((fJ p ((fJ y i).k1)).first) })) 1 z (fun bB N bC=>?_)
         have aE:gf (fN p i (fun x=>{ x with first:=((fJ p ((fJ y i).k1)).first) })):=gf.iL G om (fun x a b c d e=>⟨a,b,c,(o9 (G.first ((fJ y i).k1) (o9 (F.k1 i om)))),e⟩)
         obtain⟨aR,aF,bD,aE,N⟩:=iC (m:=m) aE N
         refine fQ N 7 ?_
         refine tN (?_)
         refine iz (iH N 11 ?_)
         refine iO uS ?_
         have e9:iI xs i=aR:=by rw[uM hy o_];first|(rw[tA (k:=(fJ y i).k0) o_ l n o];rw[tB (k:=(fJ y i).k1) o_ ai al am aF])|(rw[tB (k:=(fJ y i).k0) o_ l n o ai];rw[tA (k:=(fJ y i).k1) o_ al aF am])
         have T:=N
         rw[<-e9]at T
         exact⟨rfl,yj (yc [_,_] [] T)⟩
   . skip
     refine fR h 6 ?_
     refine ld rfl rfl ye rfl (mF h (i:=1) rfl f_ (o9 (F.k0 i om)) rfl) (fK h 2 ?_)
     refine jU (f:=(fun x:Nd=>{ x with first:=((fJ g ((fJ y i).k0)).first) })) 1 h (fun bE q bF=>?_)
     have an:gf (fN g i (fun x=>{ x with first:=((fJ g ((fJ y i).k0)).first) })):=gf.iL v om (fun x a b c d e=>⟨a,b,c,(o9 (v.first ((fJ y i).k0) (o9 (F.k0 i om)))),e⟩)
     obtain⟨t,O,bG,an,q⟩:=iC (m:=m) an q
     refine fQ q 7 ?_
     refine tN (?_)
     refine iz (fR q 13 ?_)
     refine mw (i:=1) rfl rfl rfl yq ye rfl gr d_ rfl (fK q 7 ?_)
     by_cases bH:(((fJ y i).k1:Int):Int)=(0:Int)
     . refine fQ q 12 ?_
       refine tN (?_)
       refine iz (iH q 11 ?_)
       refine iO uS ?_
       have e9:iI xs i=t:=by rw[uM hy o_];first|(rw[tC (k:=(fJ y i).k0) o_];rw[tB (k:=(fJ y i).k1) o_ l n o O])|(rw[tB (k:=(fJ y i).k0) o_ l n o O];rw[tC (k:=(fJ y i).k1) o_])
       have T:=q
       rw[<-e9]at T
       exact⟨rfl,yj (yc [_,_] [] T)⟩
     . refine fK q 13 ?_
       refine ji (o' := ((fJ y i).k1)*9+0) (i:=((fJ y i).k1:Int)) rfl rfl rfl yh jh (o9 (show ((fJ y i).k1)<(t).length from(o9 (F.k1 i om)))) o_ (gI q 12 fun bI ao=>?_)
       refine ld rfl rfl ye rfl (mF ao (i:=1) rfl f_ (o9 (F.k1 i om)) rfl) (ar (e:=(IntKind.i64.wrap ((fJ t i).size+(fJ t ((fJ y i).k1)).size))) rfl rfl rfl rfl rfl (fK ao 2 ?_))
       refine jU (f:=(fun x:Nd=>{ x with size:=(IntKind.i64.wrap ((fJ t i).size+(fJ t ((fJ y i).k1)).size)) })) 1 ao (fun bJ ap bK=>?_)
       have aq:gf (fN t i (fun x=>{ x with size:=(IntKind.i64.wrap ((fJ t i).size+(fJ t ((fJ y i).k1)).size)) })):=gf.iL an om (fun x a b c d e=>⟨a,b,c,d,e⟩)
       obtain⟨H,au,bL,aq,ap⟩:=iC (m:=m) aq ap
       refine gI ap 11 fun bM av=>?_
       refine ld rfl rfl ye rfl (mF av (i:=1) rfl f_ (o9 (F.k1 i om)) rfl) (ar (e:=(IntKind.i64.wrap ((fJ H i).total+(fJ H ((fJ y i).k1)).total))) rfl rfl rfl rfl rfl (fK av 2 ?_))
       refine jU (f:=(fun x:Nd=>{ x with total:=(IntKind.i64.wrap ((fJ H i).total+(fJ H ((fJ y i).k1)).total)) })) 1 av (fun bN aw bO=>?_)
       have I:gf (fN H i (fun x=>{ x with total:=(IntKind.i64.wrap ((fJ H i).total+(fJ H ((fJ y i).k1)).total)) })):=gf.iL aq om (fun x a b c d e=>⟨a,b,c,d,e⟩)
       obtain⟨s,ax,bP,I,aw⟩:=iC (m:=m) I aw
       refine gI aw 8 fun aS P=>?_
       refine ld rfl rfl ye rfl (mF P (i:=1) rfl f_ (o9 (F.k1 i om)) rfl) (fK P 4 ?_)
       refine cl Ey (Eb fb nb m ed s aS (P.at (i:=0) rfl) (P.at (i:=1) rfl) oa hb I ((fJ s ((fJ y i).k1)).first) ((fJ s i).first) (o9 (I.first ((fJ y i).k1) (o9 (F.k1 i om)))) (o9 (I.first i om))) ?_
       rintro _ bQ ⟨rfl,aT⟩
       have A:=yo P aT
       refine gE A 2 ?_
       cases ay:(kY s ((fJ s ((fJ y i).k1)).first) ((fJ s i).first):Bool)
       . skip
         refine iH A 8 ?_
         refine tN (?_)
         refine iz (iH A 11 ?_)
         refine iO uS ?_
         have e9:iI xs i=s:=by rw[uM hy o_];first|(rw[tA (k:=(fJ y i).k0) o_ l n o];rw[tB (k:=(fJ y i).k1) o_ O au ay ax])|(rw[tB (k:=(fJ y i).k0) o_ l n o O];rw[tA (k:=(fJ y i).k1) o_ au ax ay])
         have T:=A
         rw[<-e9]at T
         exact⟨rfl,yj (yc [_,_] [] T)⟩
       . skip
         refine fR A 6 ?_
         refine ld rfl rfl ye rfl (mF A (i:=1) rfl f_ (o9 (F.k1 i om)) rfl) (fK A 2 ?_)
         refine jU (f:=(fun x:Nd=>{ x with first:=((fJ s ((fJ y i).k1)).first) })) 1 A (fun bR Q bS=>?_)
         have aG:gf (fN s i (fun x=>{ x with first:=((fJ s ((fJ y i).k1)).first) })):=gf.iL I om (fun x a b c d e=>⟨a,b,c,(o9 (I.first ((fJ y i).k1) (o9 (F.k1 i om)))),e⟩)
         obtain⟨aU,aV,bT,aG,Q⟩:=iC (m:=m) aG Q
         refine fQ Q 7 ?_
         refine tN (?_)
         refine iz (iH Q 11 ?_)
         refine iO uS ?_
         have e9:iI xs i=aU:=by rw[uM hy o_];first|(rw[tB (k:=(fJ y i).k0) o_ l n o O];rw[tB (k:=(fJ y i).k1) o_ au ax ay aV])
         have T:=Q
         rw[<-e9]at T
         exact⟨rfl,yj (yc [_,_] [] T)⟩
end
end Go.Proofs.YtoceanggliccgaaGreatDoor
