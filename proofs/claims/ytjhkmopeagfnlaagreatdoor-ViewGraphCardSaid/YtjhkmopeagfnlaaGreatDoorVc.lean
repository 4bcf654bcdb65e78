/- What the functions that the statements reach do: walks through the code of the program and of the references, one theorem a function; under what is said of its arguments. -/
import Derived.Test.YtjhkmopeagfnlaaGreatDoorFc
import Derived.Test.YtjhkmopeagfnlaaGreatDoorVa
import Derived.Test.YtjhkmopeagfnlaaGreatDoorFa
import Derived.Ground.SlmcProg
import Derived.Shelf.SlMaps.Clone
import Derived.Test.YtjhkmopeagfnlaaGreatDoorVb
import Derived.Test.YtjhkmopeagfnlaaGreatDoorFd
import Derived.Ground.SlsfProg
import Derived.Shelf.SlSortCmp.NoneTotal
import Derived.Test.YtjhkmopeagfnlaaGreatDoorProg
import Derived.Test.YtjhkmopeagfnlaaGreatDoorVR
set_option linter.unusedVariables false
set_option linter.unusedSimpArgs false
set_option maxRecDepth 100000
set_option maxHeartbeats 4000000
namespace Go.Proofs.YtjhkmopeagfnlaaGreatDoor
section
open Go Go.Sx
end
end Go.Proofs.YtjhkmopeagfnlaaGreatDoor
namespace Go.Proofs
open Go.Shelf Go.Lib Go.Sort Go.RowKit in
def Tryz.SC:Go.Shelf.Ren:=⟨fun|5=>109|7=>155|n=>n,fun|23=>99|25=>34|3=>62|4=>4|20=>20|n=>n,fun|n=>n⟩
open Go.Shelf Go.Lib Go.Sort Go.RowKit in
theorem Tryz.XZ:Go.Proofs.SlLaysW.n5 Proofs.Tryz.prog Tryz.SC where
 mixed:=by kernel_rfl
 f5:=⟨Proofs.Tryz.f109.name,by(decide),Proofs.Tryz.func109.trans (congrArg some<|by kernel_rfl)⟩
 f7:=Proofs.Tryz.func155.trans (congrArg some<|by kernel_rfl)
 t4:=Proofs.Tryz.underlying4
 a4:=Proofs.Tryz.isAgg4
 z4:=Proofs.Tryz.sizeOf4
 v4:=Proofs.Tryz.zeroValue4
 t20:=Proofs.Tryz.underlying20
 a20:=Proofs.Tryz.isAgg20
 z20:=Proofs.Tryz.sizeOf20
 v20:=Proofs.Tryz.zeroValue20
 t23:=Proofs.Tryz.underlying99
 a23:=Proofs.Tryz.isAgg99
 z23:=Proofs.Tryz.sizeOf99
 v23:=Proofs.Tryz.zeroValue99
end Go.Proofs
namespace Go.Proofs.YtjhkmopeagfnlaaGreatDoor
section
open Go Go.Sx
theorem Tz(b:Nat)(im:IM)(w:World)(hO:Own (Qh b im) w) :
 CR ya 109 #[.map (some b)] w (fun r w' => ∃ b2,r = .map (some b2)/\gp (Qh b im) w w' (gG [gR b .u64 p_ im,gR b2 .u64 p_ im])) :=
 Tu hO fun es clock h=>AnyW.maps_Clone Tryz.XZ b es clock w h
theorem Tv(v:Value)(xs:List Lv)(w:World)(hv:jx 7 Lv.cells (fun _=>True) w v xs)(hl0:xs.length<=1000000) :
 CR ya 108 #[v] w (fun r w' => qt 7 Lv.cells w w' r 42 xs/\gD [] w w'):=by
 refine en Tryz.func108 Tryz.ntmps108 ?_
 have hst0:=jB w
 refine gh hst0 9 ?_
 refine DV (v:=v) rfl rfl rfl y9 hv (gX hst0 2 ?_)
 cases e:(wo v:Bool)
 . skip
   refine gh hst0 5 ?_
   refine nk (vs:=[]) (cs:=[]) rfl rfl y9 jq rfl (by intro v hv;simp at hv) rfl rfl rfl hst0 ?_
   intro f g h i c
   have d:=c
   refine fP c 1 ?_
   refine ri (cf:=Lv.cells) (ys:=[]) (zs:=xs) (LL:=fun a=>[fV Lv.cells a 42 7 xs]) 0 rfl rfl rfl y9 jq rfl d_ d rfl (jx.src (oC d s_ d_ hv) f_) (xF f_ _) (by simp only[zx];omega) (by simp only[zx];omega) f_ (fun a j b k=>gf b 4 ?_)
   refine gF (v:=a) Tryz.results108 rfl ?_
   exact⟨St.C2 b s_,b.gI s_⟩
 . skip
   refine jr hst0 8 ?_
   refine gF (v:=Zk) Tryz.results108 rfl ?_
   obtain rfl:=Dx e hv
   exact⟨qt.Es, hst0.gI s_⟩
theorem V1(fQ fN ub:Nat)(s:fW)(w:World)(hO:Own (fW.R fQ fN ub s) w) :
 CR ya 67 (Zg ub) w (fun r w' => ∃ (ub2:Nat) (s2:fW),r = .pointer (some ⟨ub2,0,none⟩)/\((∀ y,s2.has y↔s.has y)/\s2.last=s.last)/\gp (fW.R fQ fN ub s) w w' (gG [(fW.R fQ fN ub s),(fW.R fQ fN ub2 s2)])):=by
 have htu:s.t.A.used<=s.t.A.n:=hO.fact.tok.ul
 have hUn:=hO.fact.n
 have hUt:=hO.fact.tn
 have hUe:=hO.fact.en
 have hUv:=hO.fact.vn
 have hAu:s.A.used<=s.A.begun:=by have h7:=hO.fact.lH.used;omega
 have hAl:=hO.fact.lH.le
 have hll:s.live.length=s.A.begun:=hO.fact.ll
 have hnl2:∀ id,(fU s.im id).2.length<=65536:=fun id=>hO.fact.Je id
 refine en Tryz.func67 Tryz.ntmps67 ?_
 have hst0:=Own.of hO.un
 have hU:s.ok fQ fN:=hO.fact
 have J:=yx (p:=s.ok fQ fN) (yc [_,_,_,_,_,_] _ hst0) hU
 refine gh hst0 9 ?_
 refine cl yJ (xw fQ fN ub s w (yd J (i:=0) rfl)) ?_
 rintro _ aF ⟨rfl,ht⟩
 have W:=yt 0 J ht
 have K:=(jV W).unpack
 refine fP K 11 ?_
 refine al (cs:=[Zc,Zc,ue,Z1,Z1,Zk,(.map none)]) rfl D9 rfl K (fun l aG aH aI L=>mD (L' := [blk l 101 (Z5 fQ fN s (some s.mb)),blk ub 101 (Z5 fQ fN s (some s.mb)),fV Lv.cells s.lv 42 7 s.live,gR s.mb .u64 p_ s.im,iM 3 s.im,(rL s),(Z6 s)]) 0 rfl rfl rfl rfl D9 rfl (oe rfl (oe rfl (oe rfl (oe rfl (oe rfl (oe (mg L (i:=2) rfl) (oe rfl tC))))))) L rfl rfl rfl rfl (fun X G=>fP G 8 ?_))
 refine cl NM (LY s.iN s.aw X (yd G (i:=5) rfl)) ?_
 rintro _ aJ ⟨e,m,rfl,Y,ht⟩
 have Z:=ym [5,0,1,2,3,4,6] G
 have aa:=j8 (yt 0 Z ht)
 refine mU aa 10 fun ac M=>?_
 refine cl Yc (UA s.tb s.ab s.t ac (yd M (i:=7) rfl)) ?_
 rintro _ aK ⟨f,o,u,rfl,N,ht⟩
 have ad:=ym [7,0,1,2,3,4,5,6] M
 have ae:=j8 (yt 0 ad ht)
 refine mU ae 10 fun af O=>?_
 refine cl X4 (Tv s.lv s.live af (ye O (i:=6) rfl f_).any (by first|omega|(simp;omega))) ?_
 rintro j ag hz
 have D:St _ [fV Lv.cells j 42 7 s.live,(Z6 s),(TW.R f o u),(rL s),(AW.R e m),blk l 101 [(Za fQ),(Za fN),(Zd s.last),(Zb e),(Zb f),s.lv,(.map (some s.mb))],blk ub 101 (Z5 fQ fN s (some s.mb)),fV Lv.cells s.lv 42 7 s.live,gR s.mb .u64 p_ s.im,iM 3 s.im] ag:=zD O hz.2 hz.1
 refine fP D 1 ?_
 refine mD (L' := [fV Lv.cells j 42 7 s.live,(Z6 s),(TW.R f o u),(rL s),(AW.R e m),blk l 101 (w6 fQ fN s.last e f j (some s.mb)),blk ub 101 (Z5 fQ fN s (some s.mb)),fV Lv.cells s.lv 42 7 s.live,gR s.mb .u64 p_ s.im,iM 3 s.im]) 5 rfl rfl rfl (cells_one (mg D (i:=0) rfl)) EA rfl (oe (mg D (i:=0) rfl) tC) D rfl rfl rfl rfl (fun ah E=>fP E 7 ?_)
 refine ld rfl rfl yn rfl (yo E (i:=6) rfl rfl) (cl YB (Tz s.mb s.im ah (yd E (i:=8) rfl)) ?_)
 rintro _ aL ⟨g,rfl,ht⟩
 have ai:=ym [8,0,1,2,3,4,5,6,7,9] E
 have P:=j8 (yt 0 ai ht)
 refine fP P 1 ?_
 refine mD (L' := [gR s.mb .u64 p_ s.im,gR g .u64 p_ s.im,fV Lv.cells j 42 7 s.live,(Z6 s),(TW.R f o u),(rL s),(AW.R e m),blk l 101 (w6 fQ fN s.last e f j (some g)),blk ub 101 (Z5 fQ fN s (some s.mb)),fV Lv.cells s.lv 42 7 s.live,iM 3 s.im]) 7 rfl rfl rfl rfl qx rfl rfl P rfl rfl rfl rfl (fun aM H=>fP H 8 ?_)
 refine ld rfl rfl yn rfl (yo H (i:=8) rfl rfl) (rgM (k:=.u64) (enc:=p_) (mm:=s.im) 0 rfl rfl yn H rfl ?_)
 intro z Q S
 have aj:St _ [iM 3 [],lq s.mb z .u64 p_ s.im s.im none,gR g .u64 p_ s.im,fV Lv.cells j 42 7 s.live,(Z6 s),(TW.R f o u),(rL s),(AW.R e m),blk l 101 (w6 fQ fN s.last e f j (some g)),blk ub 101 (Z5 fQ fN s (some s.mb)),fV Lv.cells s.lv 42 7 s.live,iM 3 s.im] Q:=St.H6 S
 have ak:St _ [iM 3 [],iM 3 [],lq s.mb z .u64 p_ s.im s.im none,gR g .u64 p_ s.im,fV Lv.cells j 42 7 s.live,(Z6 s),(TW.R f o u),(rL s),(AW.R e m),blk l 101 (w6 fQ fN s.last e f j (some g)),blk ub 101 (Z5 fQ fN s (some s.mb)),fV Lv.cells s.lv 42 7 s.live,iM 3 s.im] Q:=St.H6 aj
 have am:=ym [10,11,2,12,1,7,5,9,4,3,0,8,6] ak
 refine gX S 3 ?_
 refine lp (α:=IM×IM×IM×IM×(Option (Int×(Value×List Nat)))) (fun(dn,td,dn2,im2,cur)=>[(3,(Zb l)),(40,(Zb z))]) (fun(dn,td,dn2,im2,cur) w1=>St [(w,(fW.R fQ fN ub s).gU)] [blk ub 101 (Z5 fQ fN s (some s.mb)),fV Lv.cells s.lv 42 7 s.live,lq s.mb z .u64 p_ s.im td cur,iM 3 td,iM 3 dn,(rL s),(Z6 s),blk l 101 (w6 fQ fN s.last e f j (some g)),fV Lv.cells j 42 7 s.live,gR g .u64 p_ im2,iM 3 dn2,(AW.R e m),(TW.R f o u)] w1/\oD s.im dn td dn2 im2) (fun(dn,td,dn2,im2,cur)=>td.length) ([],s.im,[],s.im,none) ⟨rfl,rfl,trivial⟩ (⟨am,oD.start hU.keys⟩) ?_
 rintro⟨dn,td,dn2,im2,cur⟩ aN aO ⟨hst7,hC7⟩
 obtain⟨an,aP⟩:∃ q,Uh ya hst7 (i:=2) rfl=q:=⟨_,rfl⟩
 refine gh hst7 2 ?_
 rcases an with ⟨U,ao⟩|⟨b,x,aQ,B⟩
 . skip
   refine QY rfl rfl (ao _) ?_
   have aR:=U
   refine gf hst7 16 ?_
   refine gF (v:=(Zb l)) Tryz.results67 rfl ?_
   have hfin:=hC7.fin hU.keys U
   have ap:=St.VQ hst7 (i:=2) rfl
   have aq:=ym [4,0,1,2,3,5,6,7,8,9,10,11,12] ap
   have ar:=St.vW aq hfin.1
   have au:=ym [10,0,1,2,3,4,5,6,7,8,9,11,12] ar
   have av:=St.vW au hfin.2.1
   have I:=ym [2,3,4,1,6,7,8,9,10,0,11,12] av
   have hA9:=(y0 I (i:=10) rfl:m.A.ok)
   have hT9:=(y0 I (i:=11) rfl:u.ok)
   have hcp:=hU.copy Y hA9 hT9 N.1 N.2.1 hfin.2.2.1 hfin.2.2.2 e f o g j
   have hp1:=yx (p:=fW.ok fQ fN s) (yc [_,_,_,_,_,_] _ I) hU
   have hp2:St _ (gG [_,_,_,_,_,_] :: [(fW.R fQ fN ub s)]) _:=yc [_,_,_,_,_,_] [(fW.R fQ fN ub s)] (lP hp1 (rz (l₁:=[_]) (l₂:=[_,_,_,_,_,_])))
   have hp3:=lP (yx (p:=fW.ok fQ fN (⟨e,f,o,g,j,s.last,m,u,s.live,im2⟩:fW)) hp2 hcp.1) (List.Perm.swap _ _ _)
   exact⟨l,(⟨e,f,o,g,j,s.last,m,u,s.live,im2⟩:fW),rfl,⟨hcp.2,rfl⟩,yr (yc [_,_] _ hp3)⟩
 . skip
   refine QY rfl rfl (B.run _) ?_
   have ax:=B.st
   have ay:=ym [3,0,1,2,4,5,6,7,8,9,10,11,12] ax
   have C:=St.aaK f_ (St.Nu (St.vW ay B.perm))
   have hpl7:b.2.2.length<=65536:=by have h7:=hnl2 b.1;rw[hC7.at hU.keys B.perm]at h7;exact h7
   refine fP C 10 ?_
   refine enM (p:=b) 4 rfl rfl C rfl (fP C 3 ?_)
   refine tQ (v:=b.2.1) rfl rfl (gX C 2 ?_)
   refine oE (Γ:=Value) mixed [[],[0],[],[],[3],[0,1,2,3,4]] [4,5] d_ [fun _=>(Z0 l),fun _=>(.map (some g)),fun _=>(Zd b.1),fun _=>b.2.1,fun d=>d,fun _=>undef] [(fun d=>[fV gL b.2.1 3 1 b.2.2,iM 3 x,blk ub 101 (Z5 fQ fN s (some s.mb)),fV Lv.cells s.lv 42 7 s.live,lq s.mb z .u64 p_ s.im x (some b),iM 3 dn,(rL s),(Z6 s),blk l 101 (w6 fQ fN s.last e f j (some g)),fV Lv.cells j 42 7 s.live,gR g .u64 p_ im2,iM 3 dn2,(AW.R e m),(TW.R f o u)],fun _ _=>True),(fun d=>(Jp d b.2.2 b.2.1 x ub fQ fN s (some s.mb) (lq s.mb z .u64 p_ s.im x (some b)) dn l e f j (some g) g im2 dn2 m o u),fun _ _=>True),(fun d=>(Jp d b.2.2 b.2.1 x ub fQ fN s (some s.mb) (lq s.mb z .u64 p_ s.im x (some b)) dn l e f j (some g) g (gm im2 b.1 (d,b.2.2)) dn2 m o u),fun _ _=>True)] Zk _ rfl C (fun _ _=>trivial) ?_ (fun d=>rfl) rfl ?_
   . skip
     refine gC (fun d _=>jL (o' := 6) rfl qB rfl qx rfl) ?_
     refine nZ rfl rfl rfl rfl rfl (fun d wq hM hF=>qv rfl rfl (gZ rfl yn rfl (yo hM (i:=8) rfl rfl))) (fun d wq hM hF=>qv rfl rfl (gZ rfl yn rfl (yo hM (i:=9) rfl rfl))) (gC (fun d _=>iD (v:=(Zd b.1)) rfl) ?_)
     refine gC (fun d _=>iD (v:=b.2.1) rfl) ?_
     refine kg rfl rfl rfl rfl (fun d wq hM hF=>kC rfl rfl (iX rfl Od) (LK b.2.1 b.2.2 wq (ye hM (i:=0) rfl f_).any (by first|omega|(simp;omega))) (fun az _ hz=>⟨az,⟨(zD hM hz.2 hz.1),trivial⟩,rfl,fS rfl (fS rfl (fS rfl (fS rfl (fS trivial (fS trivial (kM))))))⟩)) (kg rfl rfl rfl rfl (fun d wq hM hF=>wj (a:=b.1) (c:=(d,b.2.2)) (mm:=im2) (enc:=p_) (k:=.u64) (L' := (Jp d b.2.2 b.2.1 x ub fQ fN s (some s.mb) (lq s.mb z .u64 p_ s.im x (some b)) dn l e f j (some g) g (gm im2 b.1 (d,b.2.2)) dn2 m o u)) 11 rfl rfl rfl rfl yn yg hM rfl rfl (fun _ h=>⟨d,⟨h,trivial⟩,rfl,jR.refl _ _ _⟩)) ?_)
     exact og
   rintro d aS V -
   refine jE tt none V 1 ?_
   refine tN (?_)
   have aA:=ym [1,6,0,2,3,4,5,7,8,9,10,11,12,13,14] V
   have aB:=((St.OT f_ aA).HK (p:=b)).vW (rz (l₁:=[_]))
   have aC:=ym [1,11,0,2,3,4,5,6,7,8,9,10,12,13] aB
   have aD:=((St.OT f_ aC).HK (p:=(b.1,(d,b.2.2)))).vW (rz (l₁:=[_]))
   have aE:=ym [3,4,5,2,1,6,7,8,9,10,0,11,12] aD
   exact again ((dn++[b]),x,(dn2++[(b.1,(d,b.2.2))]),(gm im2 b.1 (d,b.2.2)),(some b)) ⟨rfl,rfl,trivial⟩ (⟨aE,hC7.next hU.keys B.perm d⟩) (by have h7:=B.perm.length_eq;rw[zp]at h7;show x.length<td.length;omega)
end
section
open Go Go.Sx
theorem aa1:ya.eqGuardType ya.depth 123=false:=by kernel_rfl
theorem VS(c:WC)(w:World)(w1:1<=c.win)(wi:c.win<=1000000)(e1:1<=c.fN)(en:c.fN<=16384)(v2:2<=c.fQ)(vn:c.fQ<=4096)(d0:0<=c.jw/\c.jw<=16384) :
 CR ya 24 #[(wN c.win c.fN c.fQ c.jw),ue] w (fun r w' => ∃ (wb:Nat) (s:WW),r = .tuple (Z8 wb)/\(s.now=0/\s.added=0/\∀ y,¬ s.u.has y)/\gp (gG []) w w' (WW.R c wb s)):=by
 refine enter Tryz.func24 rfl Tryz.ntmps24 rfl ?_
 have hst0:=jB w
 refine gh hst0 2 ?_
 refine bx (v:=(wN c.win c.fN c.fQ c.jw)) (cs:=(zU c.win c.fN c.fQ c.jw)) rfl rfl rfl hst0 (fun O x P Q j=>fP j 8 ?_)
 refine cl aan (W9 ⟨c.win,(c.fN:Int),(c.fQ:Int),c.jw⟩ x w1 (by show _/\_;dsimp only;omega) (by show _/\_;dsimp only;omega) d0) ?_
 rintro _ S ⟨rfl,z⟩
 have k:=y8 j z
 refine fP k 8 ?_
 refine al (cs:=Q1) rfl IC rfl k (fun U V W X l=>fP l 7 ?_)
 refine lX (pvs:=[(0,(wN c.win c.fN c.fQ c.jw)),(5,ue),(6,ue)]) (v:=.agg (Qp c.win c.fN c.fQ c.jw)) rfl rfl (kV [(0,(zU c.win c.fN c.fQ c.jw)),(5,Ce),(6,Ce)] P8 aa3 rfl ⟨rfl,rfl,rfl,rfl,rfl,rfl,trivial⟩ rfl) (bx (v:=(.agg (Qp c.win c.fN c.fQ c.jw))) (cs:=[(Za c.win),(Za c.fN),(Za c.fQ),(Za c.jw),Z1,Z1,Z1,Z1,ue,ue]) rfl rfl rfl l (fun m A Y Z n=>fP n 8 ?_))
 refine cl aaa (WJ c.win A w1) ?_
 rintro _ aa ⟨a,rfl,ht⟩
 have B:=(ou n ht)
 refine mU B 18 fun C D=>?_
 refine cl YV (Vz c.fQ c.fN C vn en) ?_
 rintro _ ab ⟨b,o,rfl,d,ht⟩
 have E:=(ou D ht)
 refine mU E 15 fun G H=>?_
 refine cl ZV (Xs c.fN G o_) ?_
 rintro _ ac ⟨e,f,q,rfl,I,ht⟩
 have J:=(ou H ht)
 refine mU J 17 fun K L=>?_
 refine cl ZG (Wz c.fQ c.fN K v2 vn en) ?_
 rintro _ ad ⟨h,i,rfl,ht⟩
 have M:=(ou L ht)
 refine mU M 14 fun ae t=>?_
 refine lX (pvs:=[]) (v:=.agg #[Zc,Zc,Zc,Zc]) rfl rfl (Bc [] IC Tryz.underlying123 I8 rfl trivial rfl s_) (ZK (c:=false) rfl rfl rfl Tryz.underlying123 Tryz.underlying45 I8 aa1 rfl (gf t 13 ?_))
 refine jm (v:=(Zb m)) (v' := Zc) Tryz.results24 rfl rfl ?_
 have N:=ym [4,3,2,1,0] t
 have hok9:=WW.uD w1 wi e1 en v2 vn (g:=i) d.1 d.2 I a b e f h
 exact⟨m,(⟨a,b,e,f,h,0,q,o,i,0,0⟩:WW),rfl,⟨rfl,rfl,d.1⟩,St.AX (yx (p:=WW.ok c (⟨a,b,e,f,h,0,q,o,i,0,0⟩:WW)) (yc [_,_,_,_,_] _ N) hok9) s_⟩
theorem UT(c:WC)(w:World)(w1:1<=c.win)(wi:c.win<=1000000)(e1:1<=c.fN)(en:c.fN<=16384)(v2:2<=c.fQ)(vn:c.fQ<=4096)(d0:0<=c.jw/\c.jw<=16384) :
 CR ya 11 (QK c.win c.fN c.fQ c.jw) w (fun r w' => ∃ (wb:Nat) (s:WW),r = .tuple (Z8 wb)/\(s.now=0/\s.added=0/\∀ y,¬ s.u.has y)/\gp (gG []) w w' (WW.R c wb s)):=by
 refine enter Tryz.func11 rfl Tryz.ntmps11 rfl ?_
 have hst0:=jB w
 refine gh hst0 2 ?_
 refine bx (v:=(wN c.win c.fN c.fQ c.jw)) (cs:=(zU c.win c.fN c.fQ c.jw)) rfl rfl rfl hst0 (fun h e i j a=>fP a 7 ?_)
 refine cl YP (VS c e w1 wi e1 en v2 vn d0) ?_
 rintro _ k ⟨b,f,rfl,g,ht⟩
 have d:=(ou a ht)
 refine gf d 7 ?_
 refine jm (v:=(Zb b)) (v' := Zc) Tryz.results11 rfl rfl ?_
 exact⟨b,f,rfl,g,St.eM d⟩
end
section
open Go Go.Sx
end
end Go.Proofs.YtjhkmopeagfnlaaGreatDoor
namespace Go.Proofs
open Go.Shelf Go.Lib Go.Sort Go.RowKit in
def Tryz.SD:Go.Shelf.Ren:=⟨fun|6=>37|15=>78|14=>77|28=>131|29=>132|20=>123|21=>124|22=>125|23=>126|24=>127|25=>128|26=>129|27=>130|46=>164|47=>165|48=>166|49=>167|50=>168|57=>201|n=>n,fun|22=>31|24=>42|25=>105|3=>3|39=>171|0=>0|53=>230|55=>34|4=>4|46=>224|45=>223|50=>91|5=>5|9=>9|66=>272|70=>275|76=>299|77=>300|n=>n,fun|n=>n⟩
open Go.Shelf Go.Lib Go.Sort Go.RowKit in
theorem Tryz.NO:Go.Proofs.SlLaysF0.n6 Proofs.Tryz.prog Tryz.SD where
 mixed:=by kernel_rfl
 f6:=⟨Proofs.Tryz.f37.name,by(decide),Proofs.Tryz.func37.trans (congrArg some<|by kernel_rfl)⟩
 f14:=⟨Proofs.Tryz.f77.name,by(decide),Proofs.Tryz.func77.trans (congrArg some<|by kernel_rfl)⟩
 f15:=Proofs.Tryz.func78.trans (congrArg some<|by kernel_rfl)
 f20:=⟨Proofs.Tryz.f123.name,by(decide),Proofs.Tryz.func123.trans (congrArg some<|by kernel_rfl)⟩
 f21:=⟨Proofs.Tryz.f124.name,by(decide),Proofs.Tryz.func124.trans (congrArg some<|by kernel_rfl)⟩
 f22:=⟨Proofs.Tryz.f125.name,by(decide),Proofs.Tryz.func125.trans (congrArg some<|by kernel_rfl)⟩
 f23:=⟨Proofs.Tryz.f126.name,by(decide),Proofs.Tryz.func126.trans (congrArg some<|by kernel_rfl)⟩
 f24:=⟨Proofs.Tryz.f127.name,by(decide),Proofs.Tryz.func127.trans (congrArg some<|by kernel_rfl)⟩
 f25:=⟨Proofs.Tryz.f128.name,by(decide),Proofs.Tryz.func128.trans (congrArg some<|by kernel_rfl)⟩
 f26:=⟨Proofs.Tryz.f129.name,by(decide),Proofs.Tryz.func129.trans (congrArg some<|by kernel_rfl)⟩
 f27:=⟨Proofs.Tryz.f130.name,by(decide),Proofs.Tryz.func130.trans (congrArg some<|by kernel_rfl)⟩
 f28:=Proofs.Tryz.func131.trans (congrArg some<|by kernel_rfl)
 f29:=Proofs.Tryz.func132.trans (congrArg some<|by kernel_rfl)
 f46:=⟨Proofs.Tryz.f164.name,by(decide),Proofs.Tryz.func164.trans (congrArg some<|by kernel_rfl)⟩
 f47:=Proofs.Tryz.func165.trans (congrArg some<|by kernel_rfl)
 f48:=Proofs.Tryz.func166.trans (congrArg some<|by kernel_rfl)
 f49:=⟨Proofs.Tryz.f167.name,by(decide),Proofs.Tryz.func167.trans (congrArg some<|by kernel_rfl)⟩
 f50:=⟨Proofs.Tryz.f168.name,by(decide),Proofs.Tryz.func168.trans (congrArg some<|by kernel_rfl)⟩
 f57:=⟨Proofs.Tryz.f201.name,by(decide),Proofs.Tryz.func201.trans (congrArg some<|by kernel_rfl)⟩
 t0:=Proofs.Tryz.underlying0
 a0:=Proofs.Tryz.isAgg0
 z0:=Proofs.Tryz.sizeOf0
 v0:=Proofs.Tryz.zeroValue0
 t3:=Proofs.Tryz.underlying3
 a3:=Proofs.Tryz.isAgg3
 z3:=Proofs.Tryz.sizeOf3
 v3:=Proofs.Tryz.zeroValue3
 t4:=Proofs.Tryz.underlying4
 a4:=Proofs.Tryz.isAgg4
 z4:=Proofs.Tryz.sizeOf4
 v4:=Proofs.Tryz.zeroValue4
 t5:=Proofs.Tryz.underlying5
 a5:=Proofs.Tryz.isAgg5
 z5:=Proofs.Tryz.sizeOf5
 v5:=Proofs.Tryz.zeroValue5
 t9:=Proofs.Tryz.underlying9
 a9:=Proofs.Tryz.isAgg9
 z9:=Proofs.Tryz.sizeOf9
 v9:=Proofs.Tryz.zeroValue9
 t22:=Proofs.Tryz.underlying31
 a22:=Proofs.Tryz.isAgg31
 z22:=Proofs.Tryz.sizeOf31
 v22:=Proofs.Tryz.zeroValue31
 t25:=Proofs.Tryz.underlying105
 a25:=Proofs.Tryz.isAgg105
 z25:=Proofs.Tryz.sizeOf105
 v25:=Proofs.Tryz.zeroValue105
 t39:=Proofs.Tryz.underlying171
 a39:=Proofs.Tryz.isAgg171
 z39:=Proofs.Tryz.sizeOf171
 v39:=Proofs.Tryz.zeroValue171
 t45:=Proofs.Tryz.underlying223
 a45:=Proofs.Tryz.isAgg223
 z45:=Proofs.Tryz.sizeOf223
 v45:=Proofs.Tryz.zeroValue223
 t46:=Proofs.Tryz.underlying224
 a46:=Proofs.Tryz.isAgg224
 z46:=Proofs.Tryz.sizeOf224
 v46:=Proofs.Tryz.zeroValue224
 t50:=Proofs.Tryz.underlying91
 a50:=Proofs.Tryz.isAgg91
 z50:=Proofs.Tryz.sizeOf91
 v50:=Proofs.Tryz.zeroValue91
 t53:=Proofs.Tryz.underlying230
 a53:=Proofs.Tryz.isAgg230
 z53:=Proofs.Tryz.sizeOf230
 v53:=Proofs.Tryz.zeroValue230
 t55:=Proofs.Tryz.underlying34
 a55:=Proofs.Tryz.isAgg34
 z55:=Proofs.Tryz.sizeOf34
 v55:=Proofs.Tryz.zeroValue34
 t66:=Proofs.Tryz.underlying272
 a66:=Proofs.Tryz.isAgg272
 z66:=Proofs.Tryz.sizeOf272
 v66:=Proofs.Tryz.zeroValue272
 t70:=Proofs.Tryz.underlying275
 a70:=Proofs.Tryz.isAgg275
 z70:=Proofs.Tryz.sizeOf275
 v70:=Proofs.Tryz.zeroValue275
 t76:=Proofs.Tryz.underlying299
 a76:=Proofs.Tryz.isAgg299
 z76:=Proofs.Tryz.sizeOf299
 v76:=Proofs.Tryz.zeroValue299
 t77:=Proofs.Tryz.underlying300
 a77:=Proofs.Tryz.isAgg300
 z77:=Proofs.Tryz.sizeOf300
 v77:=Proofs.Tryz.zeroValue300
end Go.Proofs
namespace Go.Proofs.YtjhkmopeagfnlaaGreatDoor
section
open Go Go.Sx Go.Lib Go.Sort Go.RowKit
theorem aaD(x:Int)(w:World):Calls ya 79 #[.int .u64 x] w fun e w' => e = .returned Zq/\w' = w:=by
 go_enter Tryz.func79,Tryz.ntmps79
 go_wp2
 go_ret
 exact⟨s_,rfl⟩
theorem aaT(x y:Int)(w:World):Calls ya 39 (Ar x y) w fun e w' => e = .returned (Za (compareInt x y))/\w' = w:=by
 go_enter Tryz.func39,Tryz.ntmps39
 go_wp2_with (go_at_call 79;refine(aaD _ _).mono ?_;rintro e w' ⟨rfl,hw⟩;rw[hw])
 all_goals (go_ret;refine⟨?_,rfl⟩;unfold compareInt;(repeat' split)<;>first|rfl|(exfalso;omega))
def wB(x y:Lv):Int:=compareInt x.seq y.seq
theorem ZZ(x y:Lv)(W:World):Calls ya 38 #[.agg x.cells.toArray,.agg y.cells.toArray] W fun e w' => e = .returned (Za (wB x y))/\∃ q os', w' = grow (W.drewN q) os' := by
 have hcon:=fun W' => aaT x.seq y.seq W'
 unfold wB
 generalize compareInt x.seq y.seq=r at hcon ⊢
 obtain⟨x1,x2,x3,x4,x5,x6,x7⟩:=x
 obtain⟨y1,y2,y3,y4,y5,y6,y7⟩:=y
 simp only[Lv.cells]at hcon ⊢
 go_enter Tryz.func38,Tryz.ntmps38
 go_wp2_with (go_at_call 39;refine(hcon _).mono ?_;rintro e w' ⟨rfl,rfl⟩)
 go_ret
 exact⟨rfl,0,_,by rw[alloc_eq_grow,alloc_eq_grow,grow_grow];rfl⟩
theorem D6(x y:Lv):ltOf wB x y=decide (x.seq<y.seq):=by
 unfold ltOf wB compareInt
 by_cases h1:x.seq<y.seq
 . simp[h1]
 . by_cases h2:y.seq<x.seq<;>simp[h1,h2]
theorem YJ:SWO (ltOf wB) where
 irrefl x:=by rw[D6];simp
 trans x y z h1 h2:=by rw[D6]at *;simp at *;omega
 ntrans x y z h1 h2:=by rw[D6]at *;simp at *;omega
theorem VY(v:Value)(xs:List Lv)(w:World)(hO:Own (fV Lv.cells v 42 7 xs) w)(hl:xs.length<=1000000) :
 CR ya 37 #[v,.func (.func 38) #[] #[]] w (fun r w' => ∃ ys:List Lv,r = .tuple #[]/\(ys.Perm xs/\ys.Pairwise fun a b=>a.seq<=b.seq)/\gp (fV Lv.cells v 42 7 xs) w w' (fV Lv.cells v 42 7 ys)):=by
 refine CR.mono (US (cf:=Lv.cells) (k:=7) (xs:=xs) (lt:=ltOf wB) f_ d_ hO o_ (AnyF.slices_SortFunc_none (P:=ya) Tryz.NO none 0 _ w) fun blk cap d hH hb hsz=>?_) ?_
 . exact AnyQ.slices_SortFunc (P:=ya) Tryz.NO 7 Tryz.isAgg42 Tryz.sizeOf42 Lv.cells f_ (fun x v hv=>by simp[Lv.cells]at hv;rcases hv with rfl|rfl|rfl|rfl|rfl|rfl|rfl<;>rfl) wB YJ 38 #[] blk 0 cap d w (enters_of Tryz.func38 k_ rfl) (fun _ _ _ _ x y=>ZZ x y _) hH hb hsz
 . rintro r w' ⟨rfl,ys,h1,h2,ht⟩
   exact⟨ys,rfl,⟨h1,h2.imp fun {a b} h=>by rw[D6]at h;simpa using h⟩,ht⟩
end
section
open Go Go.Sx
theorem L4(ab:Nat)(v:AW)(w:World)(hO:Own (AW.R ab v) w) :
 CR ya 36 (Zg ab) w (fun r w' => ∃ lv,r=lv/\gp (AW.R ab v) w w' (gG [AW.R ab v,fV gL lv 3 1 (v.A.list v.A.begun)])):=by
 refine CR.mono (VN ab v.bv v.A w hO.un hO.fact) fun r w' ⟨lv,h1,ht⟩=>⟨lv,h1,?_⟩
 refine((gp.Ej (A:=(Av ab v.bv v.A)) (B:=[iA .i64 lv 3 (gx (v.A.list v.A.begun))]) ht).Fg.Ev (by have e:∀ l:List Nat,l++[]=l:=qC;simp only[AW.R,jZ,gG,iR,kO,List.flatMap_nil,e];rfl) fun h=>?_)
 intro Q hQ
 simp only[zb,rF,or_false]at hQ
 rcases hQ with rfl|rfl
 . exact⟨hO.fact,h _ s_⟩
 . rw[Dw f_]
   exact h _ (lu _ zg) _ s_
theorem U5(fQ fN ub:Nat)(s:fW)(w:World)(hO:Own (fW.R fQ fN ub s) w) :
 CR ya 19 (Zg ub) w (fun r w' => ∃ (v:Value) (ys:List Lv),r=v/\s.nt ys/\gp (fW.R fQ fN ub s) w w' (gG [(fW.R fQ fN ub s),fV Lv.cells v 42 7 ys])):=by
 have htu:s.t.A.used<=s.t.A.n:=hO.fact.tok.ul
 have hUn:=hO.fact.n
 have hUt:=hO.fact.tn
 have hUe:=hO.fact.en
 have hUv:=hO.fact.vn
 have hAu:s.A.used<=s.A.begun:=by have h7:=hO.fact.lH.used;omega
 have hAl:=hO.fact.lH.le
 have hll:s.live.length=s.A.begun:=hO.fact.ll
 have hLl:(s.A.list s.A.begun).length=s.A.used:=hO.fact.lH.AM
 have hAn:s.A.n=fN:=hUn
 refine en Tryz.func19 Tryz.ntmps19 ?_
 have hst0:=Own.of hO.un
 have hU:s.ok fQ fN:=hO.fact
 have e:=yx (p:=s.ok fQ fN) (yc [_,_,_,_,_,_] _ hst0) hU
 refine gh hst0 9 ?_
 refine cl yJ (xw fQ fN ub s w (yd e (i:=0) rfl)) ?_
 rintro _ l ⟨rfl,ht⟩
 have o:=yt 0 e ht
 have b:=(jV o).unpack
 refine fP b 18 ?_
 refine cl Pn (L4 s.iN s.aw l (yd b (i:=4) rfl)) ?_
 rintro a q ⟨_,rfl,ht⟩
 have u:=ym [4,0,1,2,3,5] b
 have c:=j8 (yt 0 u ht)
 refine kZ (m:=(s.A.list s.A.begun).length) 1 rfl rfl yh c rfl ?_
 have y:St _ [fV Lv.cells Zk 42 7 (((s.A.list s.A.begun).take 0).map (fM s.live)),(rL s),fV gL a 3 1 (s.A.list s.A.begun),blk ub 101 (Z5 fQ fN s (some s.mb)),fV Lv.cells s.lv 42 7 s.live,gR s.mb .u64 p_ s.im,iM 3 s.im,(Z6 s)] q:=u6 c 42 7
 have z:=ym [3,4,5,6,1,7,2,0] y
 refine gX c 4 ?_
 refine lp (α:=Nat×Value) (fun(k,xv)=>[(0,(Zb ub)),(3,xv),(13,a),(14,(Za ((s.A.list s.A.begun).length:Int))),(15,(Za k))]) (fun(k,xv) w1=>St [(w,(fW.R fQ fN ub s).gU)] [blk ub 101 (Z5 fQ fN s (some s.mb)),fV Lv.cells s.lv 42 7 s.live,gR s.mb .u64 p_ s.im,iM 3 s.im,(rL s),(Z6 s),fV gL a 3 1 (s.A.list s.A.begun),fV Lv.cells xv 42 7 (((s.A.list s.A.begun).take k).map (fM s.live))] w1/\k<=(s.A.list s.A.begun).length) (fun(k,xv)=>(s.A.list s.A.begun).length-k) (0,Zk) ⟨rfl,rfl,rfl,rfl,gJ (by first|rfl|omega),trivial⟩ (⟨z,o_⟩) ?_
 rintro⟨k,xv⟩ H B ⟨hst2,hk2⟩
 refine gh hst2 2 ?_
 by_cases I:((k:Int):Int)<(((s.A.list s.A.begun).length:Int):Int)
 . have hkl:k<(s.A.list s.A.begun).length:=by omega
   have hil:fM (s.A.list s.A.begun) k<s.live.length:=by rw[hll];exact((hU.lH.nO _).1 (pG.2 ⟨k,hkl,rfl⟩)).1
   refine fP hst2 11 ?_
   refine jj (cf:=gL) (k:=k) (i:=(k:Int)) rfl rfl rfl yh gq (ye hst2 (i:=6) rfl f_) o_ o_ (gy om) (kE (cf:=gL) rfl rfl yf rfl (ye hst2 (i:=6) rfl f_) (gy om) rfl (fP hst2 10 ?_))
   refine jj (cf:=Lv.cells) (k:=(fM (s.A.list s.A.begun) k)) (i:=(((fM (s.A.list s.A.begun) k):Nat):Int)) rfl rfl rfl y9 jq (ye hst2 (i:=1) rfl f_) o_ o_ (gy om) (By (cf:=Lv.cells) (cs:=(Z4 (fM s.live (fM (s.A.list s.A.begun) k)))) rfl rfl oW rfl jq (ye hst2 (i:=1) rfl f_) (gy om) rfl rfl (nk (vs:=[(Ai (fM s.live (fM (s.A.list s.A.begun) k)))]) (cs:=(Z4 (fM s.live (fM (s.A.list s.A.begun) k)))) rfl rfl y9 jq rfl (by simp[Value.cells]) rfl rfl rfl hst2 (fun C J K L f=>ri (cf:=Lv.cells) (ys:=(((s.A.list s.A.begun).take k).map (fM s.live))) (zs:=[(fM s.live (fM (s.A.list s.A.begun) k))]) (LL:=fun d=>[row (Zx C) 42 7 1 ((Z4 (fM s.live (fM (s.A.list s.A.begun) k)))),blk ub 101 (Z5 fQ fN s (some s.mb)),fV Lv.cells s.lv 42 7 s.live,gR s.mb .u64 p_ s.im,iM 3 s.im,(rL s),(Z6 s),fV gL a 3 1 (s.A.list s.A.begun),fV Lv.cells d 42 7 ((((s.A.list s.A.begun).take k).map (fM s.live))++[(fM s.live (fM (s.A.list s.A.begun) k))])]) 8 rfl rfl rfl y9 jq rfl d_ f rfl (oU f (i:=0) rfl) (fun x hx=>zz.1 (show List.all _ _=true from rfl) x hx) (by simp only[zw,zp,zx,zr,kD,maxLen];omega) (by simp only[zw,zp,zx,zr,kD,maxLen];omega) f_ ?_)))
   intro d M D N
   have g:=ym [1,2,3,4,5,6,7,8] D
   refine gf g 8 ?_
   refine tN (?_)
   exact again ((k+1),d) ⟨rfl,rfl,rfl,rfl,gJ (by first|rfl|omega),trivial⟩ (⟨by rw[K3 _ hkl];exact g,o_⟩) (by show ((s.A.list s.A.begun).length-(k+1):Nat)<(s.A.list s.A.begun).length-k;omega)
 . refine fP hst2 13 ?_
   refine cl ZU (VY xv (((s.A.list s.A.begun).take k).map (fM s.live)) B (yd hst2 (i:=7) rfl) (by rw[zr,kD];omega)) ?_
   rintro _ O ⟨E,rfl,h,ht⟩
   have j:=yt 7 hst2 ht
   refine gf j 9 ?_
   refine gF (v:=xv) Tryz.results19 rfl ?_
   have G:=ym [0,1,2,3,4,5,7,6] j
   have hke:k=(s.A.list s.A.begun).length:=by omega
   subst hke
   have hl9:=fW.Yd hU (by have h7:=h.1;rwa [Cb]at h7) h.2
   have hp1:=yx (p:=fW.ok fQ fN s) (yc [_,_,_,_,_,_] _ G) hU
   exact⟨xv,E,rfl,hl9,yr (yc [_,_] _ hp1)⟩
end
section
open Go Go.Sx
theorem HW{fQ fN ub:Nat}{s:fW}{w:World}(h:Own (fW.R fQ fN ub s) w):s.t.A.ok :=
 (y0 (Own.of (yd (Own.of h.un) (i:=5) rfl).un) (i:=3) rfl:s.t.w.A.ok)
theorem MJ(sb hb n:Nat)(s:QS)(w:World)(hO:Own (QS.SR sb hb n s) w)(now:Int)(hn:n<=65536) :
 CR ya 28 (Zn sb now) w (fun r w' => ∃ v ds t,v=r/\pO n s t ds now/\gp (QS.SR sb hb n s) w w' (gG [QS.SR sb hb n t,fV gL v 3 1 ds])):=by
 refine CR.mono (Xp sb hb n s w hO now hn) fun r w' ⟨v,ds,t,h1,h2,ht⟩=>⟨v,ds,t,h1.symm,h2,?_⟩
 rw[Dw f_]
 exact ht
theorem UM(cb:Nat)(win now:Int)(w:World)(hO:Own (Zr cb win now) w)(h1:1<=win)(hwin:iC .i64 win)(t:Int)(htt:iC .i64 t)(h2:now<=t)(h3 : -9223372036854775808<=t+win/\t+win<=9223372036854775807) :
 CR ya 27 (Zn cb t) w (fun r w' => r = .int .i64 0/\gp (Zr cb win now) w w' (Zr cb win t)):=by
 have h:=R4 cb win now w hO h1 hwin t htt
 rw[Ns h2 h3,if_pos rfl]at h
 exact h
theorem Mn(c:WC)(wb:Nat)(s:WW)(w:World)(hO:Own (WW.R c wb s) w)(T:Int)(hT:s.now<=T)(hT2:T<=1000000) :
 CR ya 14 (Zn wb T) w (fun r w' => ∃ (s2:WW),r = .int .i64 0/\(s2.now=T/\s2.added=s.added/\(∀ y,s2.u.has y↔s.u.has y/\T<y.exp)/\s2.u.last=s.u.last)/\gp (WW.R c wb s) w w' (WW.R c wb s2)):=by
 refine en Tryz.func14 Tryz.ntmps14 ?_
 have hst0:=Own.of hO.un
 have hW:s.ok c:=hO.fact
 have hw1:=hW.w1
 have hw2:=hW.wi
 have hw3:=hW.n0
 have hw4:=hW.n1
 have huok:fW.ok c.fQ c.fN s.u:=(y0 hst0 (i:=2) rfl)
 have hwen:=hW.en
 have hwe1:=hW.e1
 have hwv2:=hW.v2
 have hwvn:=hW.vn
 have hwa0:=hW.a0
 have hwa1:=hW.a1
 have hwla:=hW.la
 have hwl0:=huok.sv
 have n:=yx (p:=s.ok c) (yc [_,_,_,_,_] _ hst0) hW
 refine gh hst0 9 ?_
 refine cl yM (xx c wb s w (yd n (i:=0) rfl)) ?_
 rintro _ z ⟨rfl,ht⟩
 have A:=yt 0 n ht
 have f:=(jV A).unpack
 refine fP f 14 ?_
 refine cl Y5 (UM s.cb c.win s.now z (yd f (i:=1) rfl) hw1 (lE o_) T (lE o_) hT o_) ?_
 rintro _ B ⟨rfl,ht⟩
 have h:=yt 1 f ht
 refine fP h 20 ?_
 refine cl OB (MJ s.sb s.hb c.fN s.q B (yd h (i:=3) rfl) T o_) ?_
 rintro _ K ⟨o,a,j,rfl,b,ht⟩
 have C:=ym [3,0,1,2,4] h
 have l:=j8 (yt 0 C ht)
 have hdl:a.length<=c.fN:=b.len
 refine kZ (m:=a.length) 1 rfl rfl yh l rfl ?_
 have D:=ym [2,3,4,0,5,1] l
 refine gX l 4 ?_
 refine lp (α:=Nat×fW×GW×Int) (fun(k,u2,g2,ex)=>[(0,(Zb wb)),(25,o),(26,(Za a.length)),(27,(Za k))]) (fun(k,u2,g2,ex) w1=>St [(w,(WW.R c wb s).gU)] [blk wb 77 [(Za c.win),(Za c.fN),(Za c.fQ),(Za c.jw),(Zb s.cb),(Zb s.ub),(Zb s.sb),(Zb s.ob),(Zd s.added),(Zd ex)],(Zr s.cb c.win T),(fW.R c.fQ c.fN s.ub u2),(QS.SR s.sb s.hb c.fN j),(GW.R c.fQ c.fN s.ob g2),fV gL o 3 1 a] w1/\ox s.u u2 (a.take k)/\iC .u64 ex/\k<=a.length) (fun(k,u2,g2,ex)=>a.length-k) (0,s.u,s.g,s.vV) ⟨rfl,rfl,rfl,gJ (by first|rfl|omega),trivial⟩ (⟨D,ox.start _,hW.ex,o_⟩) ?_
 rintro⟨k,u2,g2,ex⟩ L E ⟨hst3,hR,hex,hk3⟩
 refine gh hst3 2 ?_
 by_cases M:((k:Int):Int)<((a.length:Int):Int)
 . have hkl:k<a.length:=by omega
   refine fP hst3 11 ?_
   refine jj (cf:=gL) (k:=k) (i:=(k:Int)) rfl rfl rfl yh gq (ye hst3 (i:=5) rfl f_) o_ o_ (gy om) (kE (cf:=gL) rfl rfl yf rfl (ye hst3 (i:=5) rfl f_) (gy om) rfl (fP hst3 9 ?_))
   refine cl Y3 (SO c.fQ c.fN s.ob g2 E (yd hst3 (i:=4) rfl)) ?_
   rintro _ G ⟨H,N,O,rfl,ht⟩
   have d:=yt 4 hst3 ht
   have hu29:=(y0 d (i:=2) rfl:fW.ok c.fQ c.fN u2)
   have hcan:=ox.can hR hW.Ag hu29 b (gy hkl)
   refine fP d 9 ?_
   refine cl OE (KZ c.fQ c.fN s.ub u2 G (yd d (i:=2) rfl) (fM a k) hcan) ?_
   rintro _ P ⟨I,rfl,t,ht⟩
   have x:=yt 2 d ht
   refine fP x 7 ?_
   refine ar (e:=IntKind.u64.wrap (ex+1)) rfl rfl rfl rfl rfl (lW x 10 fun Q J=>?_)
   refine tN (?_)
   exact again ((k+1),I,H,IntKind.u64.wrap (ex+1)) ⟨rfl,rfl,rfl,gJ (by first|rfl|omega),trivial⟩ (⟨J,by rw[Ay,gy hkl];exact hR.next t.1 t.2,VE _,o_⟩) (by show (a.length-(k+1):Nat)<a.length-k;omega)
 . refine gf hst3 16 ?_
   refine gF (v:=Zc) Tryz.results14 rfl ?_
   have hke:k=a.length:=by omega
   rw[hke,Cb]at hR
   have hfin:=hR.fin hW.Ag huok b
   have hok9:=hW.tick hT hT2 hex b hfin hR.last (g2:=g2)
   exact⟨(⟨s.cb,s.ub,s.sb,s.hb,s.ob,T,j,u2,g2,s.added,ex⟩:WW),rfl,⟨rfl,rfl,hfin,hR.last⟩,yv (yx (p:=WW.ok c (⟨s.cb,s.ub,s.sb,s.hb,s.ob,T,j,u2,g2,s.added,ex⟩:WW)) (yc [_,_,_,_,_] _ hst3) hok9) zg⟩
end
section
open Go Go.Sx
theorem Ve(cb:Nat)(win now:Int)(w:World)(hO:Own (Zr cb win now) w)(h1:1<=win)(hwin:iC .i64 win)(t:Int)(htt:iC .i64 t)(h3 : -9223372036854775808<=t+win/\t+win<=9223372036854775807) :
 CR ya 69 (Zn cb t) w (fun r w' => r = .tuple (Ak (t+win))/\gp (Zr cb win now) w w' (Zr cb win now)):=by
 have h:=Sw cb win now w hO h1 hwin t htt
 rw[xL h3]at h
 exact h
abbrev W1:List (List Nat):=[[],[0],[0,1],[0,1,2],[],[],[0,1,2,3,4,5],[0,1,2,3,4,5,6],[0,1,2,3,4,5,6,7],[0,1,2,3,4,5,6,7],[],[0,1,2,3,4,5,6,7,8,10],[0,1,2,3,4,5,6,7,8,9,10,11]]
theorem Sq(c:WC)(wb:Nat)(s:WW)(w:World)(hO:Own (WW.R c wb s) w)(x:Lv)(hxo:x.ok)(hxt:x.t=s.now)(hc:s.u.gH c.fQ c.fN x.u x.v=0)(ha:s.added<1000000) :
 CR ya 33 (BU wb x) w (fun r w' => ∃ (s2:WW),r = .tuple #[]/\(s2.now=s.now/\s2.added=s.added+1/\∀ y,s2.u.has y->s.u.has y\/(y.u=x.u/\y.v=x.v))/\gp (WW.R c wb s) w w' (WW.R c wb s2)):=by
 refine en Tryz.func33 Tryz.ntmps33 ?_
 have hst0:=Own.of hO.un
 have hW:s.ok c:=hO.fact
 have hw1:=hW.w1
 have hw2:=hW.wi
 have hw3:=hW.n0
 have hw4:=hW.n1
 have huok:fW.ok c.fQ c.fN s.u:=(y0 hst0 (i:=2) rfl)
 have hwen:=hW.en
 have hwe1:=hW.e1
 have hwv2:=hW.v2
 have hwvn:=hW.vn
 have hwa0:=hW.a0
 have hwa1:=hW.a1
 have hwla:=hW.la
 have hwl0:=huok.sv
 have hl9:s.u.last<=9000000000000000000:=by omega
 have hxt9:=hxt
 have hxe:Lv.ok (Lv.mk x.slot x.seq x.u x.v x.wt x.t (x.t+c.win)):=⟨hxo.slot,hxo.seq,hxo.u,hxo.v,hxo.wt,hxo.t,lE (by show _/\_;dsimp only;omega)⟩
 refine gh hst0 2 ?_
 refine bx (v:=(sU x)) (cs:=(Zo x)) rfl rfl rfl hst0 (fun f aa ab ac D=>gX D 3 ?_)
 refine jD D 6 ?_
 intro wq hM
 refine kC rfl rfl (iX rfl YN) (Ve s.cb c.win s.now wq (yd hM (i:=2) rfl) hw1 (lE o_) x.t hxo.t o_) ?_
 rintro _ _ ⟨rfl,ht1⟩
 refine jC (yt 2 hM ht1) (fun ad Q=>?_)
 have E:=ym [2,0,1,3,4,5] Q
 refine kT tt none E 2 ?_
 refine Pu (Γ:=Nat×fW×Nat) mixed W1 [6,10,11] k_ [fun(a,b,d)=>(Zb wb),fun(a,b,d)=>(Zb wb),fun(a,b,d)=>(.pointer (some ⟨wb,5,none⟩)),fun(a,b,d)=>(Zb s.ub),fun(a,b,d)=>(sU x),fun(a,b,d)=>(Za (x.t+c.win)),fun(a,b,d)=>(BQ ((a:Nat):Int) (s.u.last+1) x (x.t+c.win)),fun(a,b,d)=>(BQ ((a:Nat):Int) (s.u.last+1) x (x.t+c.win)),fun(a,b,d)=>(QC ((a:Nat):Int) (s.u.last+1) x (x.t+c.win)),fun(a,b,d)=>Zc,fun(a,b,d)=>(Zb d),fun(a,b,d)=>undef,fun(a,b,d)=>Zc] [([],(fun(a,b,d)=>[(sI s c.win),blk f 40 (Zo x),blk wb 77 (sP c.win c.fN c.fQ c.jw s),(fW.R c.fQ c.fN s.ub s.u),(vD s c.fN),(vG c.fQ c.fN s)],fun _ _=>True)),([6],(fun(a,b,d)=>[(sI s c.win),blk f 40 (Zo x),blk wb 77 (sP c.win c.fN c.fQ c.jw s),jZ ((∀ y,fW.has b y↔s.u.has y\/y=(⟨((a:Nat):Int),s.u.last+1,x.u,x.v,x.wt,x.t,x.t+c.win⟩:Lv))/\fW.last b=s.u.last+1) (fW.R c.fQ c.fN s.ub b),(vD s c.fN),(vG c.fQ c.fN s)],fun _ _=>True)),([10],(fun(a,b,d)=>[blk d 42 Zu,(sI s c.win),blk f 40 (Zo x),blk wb 77 (sP c.win c.fN c.fQ c.jw s),(fW.R c.fQ c.fN s.ub s.u),(vD s c.fN),(vG c.fQ c.fN s)],fun _ _=>True)),([6,10],(fun(a,b,d)=>[blk d 42 Zu,(sI s c.win),blk f 40 (Zo x),blk wb 77 (sP c.win c.fN c.fQ c.jw s),jZ ((∀ y,fW.has b y↔s.u.has y\/y=(⟨((a:Nat):Int),s.u.last+1,x.u,x.v,x.wt,x.t,x.t+c.win⟩:Lv))/\fW.last b=s.u.last+1) (fW.R c.fQ c.fN s.ub b),(vD s c.fN),(vG c.fQ c.fN s)],fun _ _=>True)),([6,10,11],(fun(a,b,d)=>(QI d ((a:Nat):Int) (s.u.last+1) x (x.t+c.win) s c.win f wb c.fN c.fQ c.jw ((∀ y,fW.has b y↔s.u.has y\/y=(⟨((a:Nat):Int),s.u.last+1,x.u,x.v,x.wt,x.t,x.t+c.win⟩:Lv))/\fW.last b=s.u.last+1) b),fun _ _=>True))] (0,s.u,0) (fun(a,b,d)=>(7,Zc) :: (6,(Zb d)) :: (31,Zc) :: (30,(QC ((a:Nat):Int) (s.u.last+1) x (x.t+c.win))) :: (22,(BQ ((a:Nat):Int) (s.u.last+1) x (x.t+c.win))) :: (29,(BQ ((a:Nat):Int) (s.u.last+1) x (x.t+c.win))) :: (28,(Za (x.t+c.win))) :: (27,(sU x)) :: (26,(Zb s.ub)) :: (25,(.pointer (some ⟨wb,5,none⟩))) :: (24,(Zb wb)) :: (23,(Zb wb)) :: _) rfl E (fun _ _=>trivial) ?_ (fun(a,b,d)=>rfl) rfl ?_
 . skip
   refine mG rfl (fun(a,b,d) _ _=>qv rfl rfl (iD (v:=(Zb wb)) rfl)) (mG rfl (fun(a,b,d) _ _=>qv rfl rfl (jY rfl)) (mG rfl (fun(a,b,d) _ _=>qv rfl rfl (jL (o' := 5) rfl FB rfl Jl rfl)) (yB rfl ⟨(fun(a,b,d) wq hM hF=>qv rfl rfl (gZ rfl EH rfl (yo hM (i:=2) rfl rfl))),trivial,(fun(a,b,d) wq hM hF=>qv rfl rfl (gZ rfl EH rfl (yo hM (i:=3) rfl rfl))),trivial,trivial,trivial⟩ (yB rfl ⟨(fun(a,b,d) wq hM hF=>qv rfl rfl (uF (cs:=(Zo x)) rfl ry rfl rm rfl (mW hM (i:=1) (o:=0) (vs:=(Zo x)) rfl rfl))),trivial,(fun(a,b,d) wq hM hF=>qv rfl rfl (uF (cs:=(Zo x)) rfl ry rfl rm rfl (mW hM (i:=2) (o:=0) (vs:=(Zo x)) rfl rfl))),trivial,trivial,trivial⟩ (mG rfl (fun(a,b,d) _ _=>qv rfl rfl (iD (v:=(Za (x.t+c.win))) rfl)) (yK rfl ⟨⟨_,_,rfl,fun(a,b,d) wq hM hF=>kC rfl rfl (iX rfl OP) (KU c.fQ c.fN s.ub s.u wq (yd hM (i:=3) rfl) (Lv.mk x.slot x.seq x.u x.v x.wt x.t (x.t+c.win)) hxe hc hl9) (fun _ _ hz=>by obtain⟨n,z,rfl,hF1,ht1⟩:=hz;exact⟨(n,z,d),⟨(yt 3 hM (ht1.oQ hF1)),trivial⟩,rfl,fS rfl (fS rfl (fS rfl (fS rfl (fS rfl (fS rfl (fS trivial (fS trivial (fS trivial (fS trivial (fS rfl (fS trivial (fS trivial (kM)))))))))))))⟩)⟩,trivial,⟨_,_,rfl,fun(a,b,d) wq hM hF=>kC rfl rfl (iX rfl OP) (KU c.fQ c.fN s.ub s.u wq (yd hM (i:=4) rfl) (Lv.mk x.slot x.seq x.u x.v x.wt x.t (x.t+c.win)) hxe hc hl9) (fun _ _ hz=>by obtain⟨n,z,rfl,hF1,ht1⟩:=hz;exact⟨(n,z,d),⟨(yt 4 hM (ht1.oQ hF1)),trivial⟩,rfl,fS rfl (fS rfl (fS rfl (fS rfl (fS rfl (fS rfl (fS trivial (fS trivial (fS trivial (fS trivial (fS rfl (fS trivial (fS trivial (kM)))))))))))))⟩)⟩,trivial,trivial,trivial⟩ (mG rfl (fun(a,b,d) _ _=>qv rfl rfl (iD (v:=(BQ ((a:Nat):Int) (s.u.last+1) x (x.t+c.win))) rfl)) ?_)))))))
   refine mG rfl (fun(a,b,d) _ _=>qv rfl rfl (BF rfl rfl)) (mG rfl (fun(a,b,d) _ _=>qv rfl rfl (BF rfl rfl)) (yK rfl ⟨⟨_,_,rfl,fun(a,b,d) wq hM hF=>Jg (cs:=Zu) rfl jq rfl hM (fun A _ h=>⟨(a,b,A),⟨h,trivial⟩,rfl,fS rfl (fS rfl (fS rfl (fS rfl (fS rfl (fS rfl (fS rfl (fS rfl (fS rfl (fS rfl (fS trivial (fS trivial (fS trivial (kM)))))))))))))⟩)⟩,⟨_,_,rfl,fun(a,b,d) wq hM hF=>Jg (cs:=Zu) rfl jq rfl hM (fun A _ h=>⟨(a,b,A),⟨h,trivial⟩,rfl,fS rfl (fS rfl (fS rfl (fS rfl (fS rfl (fS rfl (fS rfl (fS rfl (fS rfl (fS rfl (fS trivial (fS trivial (fS trivial (kM)))))))))))))⟩)⟩,trivial,trivial,trivial,trivial⟩ (yK rfl ⟨trivial,trivial,trivial,⟨_,_,rfl,fun(a,b,d) wq hM hF=>ni (L' := (QI d ((a:Nat):Int) (s.u.last+1) x (x.t+c.win) s c.win f wb c.fN c.fQ c.jw ((∀ y,fW.has b y↔s.u.has y\/y=(⟨((a:Nat):Int),s.u.last+1,x.u,x.v,x.wt,x.t,x.t+c.win⟩:Lv))/\fW.last b=s.u.last+1) b)) 0 rfl rfl rfl rfl jq rfl rfl hM rfl rfl rfl rfl (fun _ h=>⟨(a,b,d),⟨h,trivial⟩,rfl,jR.refl _ _ _⟩)⟩,trivial,trivial⟩ (mG rfl (fun(a,b,d) _ _=>qv rfl rfl (tB (v:=Zc) rfl)) ?_))))
   exact Po
 rintro⟨a,b,d⟩ ae S -
 have G:=ym [4,0,1,2,3,5,6] S
 have k:=nL G
 have B:=jV G
 refine kT tt none B 2 ?_
 have hu29:=(y0 B (i:=0) rfl:fW.ok c.fQ c.fN b)
 have hfree:=hW.free huok hu29 (i:=a) (e:=(⟨((a:Nat):Int),s.u.last+1,x.u,x.v,x.wt,x.t,x.t+c.win⟩:Lv)) rfl rfl k.1
 have hieb:a<c.fN:=by obtain⟨j,h7,_,_,h8⟩:=hu29.xG ((k.1 _).2 (.inr rfl));have h9:((a:Nat):Int)=(j:Int):=h7;omega
 refine jD B 6 ?_
 intro wq hM
 refine kC rfl rfl (iX rfl OS) (Lm c.fQ c.fN s.ub b wq (yd hM (i:=0) rfl) x.u) ?_
 rintro _ _ ⟨H,af,rfl,hF1,ht1⟩
 refine jC (yt 0 hM (ht1.oQ hF1)) (fun ag I=>?_)
 have U:=nL I
 have J:=jV I
 refine kT tt none J 2 ?_
 have hza:H<c.fQ:=by have h7:=TW.vz.lt U hu29.tok (by rw[hu29.tn];omega);rw[hu29.tn]at h7;exact h7
 refine jD J 6 ?_
 intro wq hM
 refine kC rfl rfl (iX rfl OS) (Lm c.fQ c.fN s.ub b wq (yd hM (i:=0) rfl) x.v) ?_
 rintro _ _ ⟨K,ah,rfl,hF1,ht1⟩
 refine jC (yt 0 hM (ht1.oQ hF1)) (fun ai L=>?_)
 have V:=nL L
 have M:=jV L
 refine kT tt none M 2 ?_
 have hzb:K<c.fQ:=by have h7:=TW.vz.lt V hu29.tok (by rw[hu29.tn];omega);rw[hu29.tn]at h7;exact h7
 refine jD M 7 ?_
 intro wq hM
 refine kC rfl rfl (iX rfl ZN) (Xy s.sb s.hb c.fN s.q wq (yd hM (i:=5) rfl) a hieb hfree (x.t+c.win) (lE o_)) ?_
 rintro _ _ ⟨C,rfl,hF1,ht1⟩
 refine jC (yt 5 hM (ht1.oQ hF1)) (fun aj W=>?_)
 have N:=ym [5,0,1,2,3,4,6] W
 have X:=nL N
 have O:=jV N
 refine kT tt none O 2 ?_
 refine jD O 9 ?_
 intro wq hM
 refine kC rfl rfl (iX rfl ZA) (Xj c.fQ c.fN s.ob s.g wq (yd hM (i:=6) rfl) a H K (x.t+c.win) hieb hza hzb (lE o_)) ?_
 rintro _ _ ⟨l,ak,rfl,ht1⟩
 refine jC (yt 6 hM ht1) (fun al Y=>?_)
 have m:=ym [6,0,1,2,3,4,5] Y
 refine oZ tt none m 5 ?_
 refine ld rfl rfl yg rfl (yo m (i:=6) rfl rfl) (fP m 3 ?_)
 refine mD (L' := [(GW.R c.fQ c.fN s.ob l),(QS.SR s.sb s.hb c.fN C),(fW.R c.fQ c.fN s.ub b),blk d 42 [(Za ((a:Nat):Int)),(Zd (s.u.last+1)),(Zd x.u),(Zd x.v),(Za x.wt),(Za x.t),(Za (x.t+c.win))],(sI s c.win),blk f 40 (Zo x),blk wb 77 [(Za c.win),(Za c.fN),(Za c.fQ),(Za c.jw),(Zb s.cb),(Zb s.ub),(Zb s.sb),(Zb s.ob),(Zd (s.added+1)),(Zd s.vV)]]) 6 rfl rfl rfl rfl iK rfl rfl m rfl rfl rfl rfl (fun am P=>gf P 1 ?_)
 refine jf Tryz.results33 ?_
 have Z:=ym [6,4,2,1,0,3,5] P
 have hok9:=hW.ins huok (i:=a) (e:=(⟨((a:Nat):Int),s.u.last+1,x.u,x.v,x.wt,x.t,x.t+c.win⟩:Lv)) rfl rfl hxt (by show x.t+c.win=_;rw[hxt]) k.1 k.2 X ha (g2:=l)
 exact⟨(⟨s.cb,s.ub,s.sb,s.hb,s.ob,s.now,C,b,l,s.added+1,s.vV⟩:WW),rfl,⟨rfl,rfl,fun y hy=>((k.1 y).1 hy).imp_right fun e=>by subst e;exact⟨rfl,rfl⟩⟩,yv (yx (p:=WW.ok c (⟨s.cb,s.ub,s.sb,s.hb,s.ob,s.now,C,b,l,s.added+1,s.vV⟩:WW)) (yc [_,_,_,_,_] _ Z) hok9) zg⟩
end
section
open Go Go.Sx
theorem VK(sb hb n:Nat)(q:QS)(sb2 hb2:Nat)(q2:QS)(w:World)(hO:Own (jZ (q2.fO=q.fO) (gG [(QS.SR sb hb n q),(QS.SR sb2 hb2 n q2)])) w)(now:Int)(hn:n<=65536) :
 CR ya 28 (Zn sb2 now) w (fun r w' => ∃ (p:Option Addr) (cp:Nat) (ds:List Nat) (t:QS),(.slice p ds.length cp)=r/\pO n q t ds now/\gp (jZ (q2.fO=q.fO) (gG [(QS.SR sb hb n q),(QS.SR sb2 hb2 n q2)])) w w' (gG [(QS.SR sb hb n q),(QS.SR sb2 hb2 n t),fV gL (.slice p ds.length cp) 3 1 ds])):=by
 have hst:=Own.of hO.un
 refine CR.mono (MJ sb2 hb2 n q2 w (yd hst (i:=1) rfl) now hn) fun r w' ⟨v,ds,t,h1,h2,ht⟩=>?_
 have h3:=yt 1 hst ht
 have h4:=j8 (lP h3 (List.Perm.swap _ _ _))
 have h5:=lP h4 (rz (l₁:=[_,_]) (l₂:=[_]))
 have h6:=(St.Oi h5 zg).Fg (p:=(q2.fO=q.fO))
 have h7:w'.ownsRow 0 3 1 v ds.length (ds.flatMap gL):=ht.holds _ (lu _ zg)
 subst h1
 rcases h7.2 with ⟨rfl,h8⟩|⟨b,cap,cur,rfl,_⟩
 . refine⟨none,0,ds,t,by rw[h8],h2.On hO.fact,?_⟩
   rw[h8]
   exact h6
 . exact⟨_,cap,ds,t,rfl,h2.On hO.fact,h6⟩
theorem Vg(c:WC)(wb:Nat)(s:WW)(w:World)(hO:Own (WW.R c wb s) w)(x:Lv)(hxo:x.ok) :
 CR ya 32 (BU wb x) w (fun r w' => ∃ (e:Int),r = .int .i64 e/\(e=0->Room c s x)/\gp (WW.R c wb s) w w' (WW.R c wb s)):=by
 refine en Tryz.func32 Tryz.ntmps32 ?_
 have hst0:=Own.of hO.un
 have hW:s.ok c:=hO.fact
 have hw1:=hW.w1
 have hw2:=hW.wi
 have hw3:=hW.n0
 have hw4:=hW.n1
 have huok:fW.ok c.fQ c.fN s.u:=(y0 hst0 (i:=2) rfl)
 have hwen:=hW.en
 have hwe1:=hW.e1
 have hwv2:=hW.v2
 have hwvn:=hW.vn
 have hwa0:=hW.a0
 have hwa1:=hW.a1
 have hwla:=hW.la
 have hwl0:=huok.sv
 have htA:=HW (yd hst0 (i:=2) rfl)
 have hxt9:=hxo.t.i64
 refine gh hst0 2 ?_
 refine bx (v:=(sU x)) (cs:=(Zo x)) rfl rfl rfl hst0 (fun n ar au av J=>gX J 4 ?_)
 refine jD J 5 ?_
 intro wq hM
 refine kC rfl rfl (iX rfl IX) (Gs c.fQ c.fN s.ub s.u wq (yd hM (i:=3) rfl) x) ?_
 rintro _ _ ⟨rfl,ht1⟩
 refine jC (yt 3 hM ht1) (fun K L=>?_)
 have z:=ym [3,0,1,2,4,5] L
 refine oZ tt none z 5 ?_
 by_cases M:(fW.gH s.u c.fQ c.fN x.u x.v:Int)=(0:Int)
 . have hc0:=M
   refine gf z 11 ?_
   refine gF (v:=Zc) Fw rfl ?_
   have W:=ym [1,2,3,4,5,0] L
   exact⟨0,rfl,(fun _=>Room.of huok htA hc0 fun y hy=>hy.1),yv (yx (p:=s.ok c) (yc [_,_,_,_,_] _ W) hW) zg⟩
 . have hc0:=M
   obtain⟨X,aw⟩:∃ q,vt s.q.fO.length=q:=⟨_,rfl⟩
   refine fP z 13 ?_
   rcases X with h0|h0
   . skip
     refine cl OZ (Uk s.sb s.hb c.fN s.q K (yd z (i:=4) rfl) h0) ?_
     rintro _ ax ⟨rfl,ht⟩
     have N:=yt 4 z ht
     refine fP N 3 ?_
     refine al (cs:=Zz) rfl iy rfl N (fun ay az aA aB Y=>lW Y 26 fun aC Z=>?_)
     refine gF (v:=(Za (fW.gH s.u c.fQ c.fN x.u x.v))) Fw rfl ?_
     have aa:=ym [3,4,1,5,6,0,2] Z
     exact⟨fW.gH s.u c.fQ c.fN x.u x.v,rfl,(fun h7=>absurd h7 hc0),yv (yx (p:=s.ok c) (yc [_,_,_,_,_] _ aa) hW) zg⟩
   . skip
     refine cl OZ (TU s.sb s.hb c.fN s.q K (yd z (i:=4) rfl) h0) ?_
     rintro _ aD ⟨rfl,ht⟩
     have O:=yt 4 z ht
     refine fP O 3 ?_
     refine al (cs:=Zz) rfl iy rfl O (fun E aE aF aG ab=>mU ab 13 fun ac C=>?_)
     by_cases aH:((fM s.q.fO 0).key:Int)>(x.t:Int)
     . refine gf C 13 ?_
       refine gF (v:=(Za (fW.gH s.u c.fQ c.fN x.u x.v))) Fw rfl ?_
       have ad:=ym [3,4,1,5,6,0,2] C
       exact⟨fW.gH s.u c.fQ c.fN x.u x.v,rfl,(fun h7=>absurd h7 hc0),yv (yx (p:=s.ok c) (yc [_,_,_,_,_] _ ad) hW) zg⟩
     . refine fP C 13 ?_
       refine cl YS (V1 c.fQ c.fN s.ub s.u ac (yd C (i:=1) rfl)) ?_
       rintro _ aI ⟨A,B,rfl,G,ht⟩
       have ae:=ym [1,0,2,3,4,5,6] C
       have P:=j8 (yt 0 ae ht)
       refine gX P 5 ?_
       refine oE (Γ:=Nat×Nat×QS×Option Addr×Nat×List Nat×QS) mixed [[],[0],[0,1],[0,1,2],[0,1,2,3],[],[5],[0,1,2,3,4,5,6],[0,1,2,3,4,5,6,7],[]] [4,7] d_ [fun _=>(Zb wb),fun _=>(Zb wb),fun _=>(Z0 wb),fun _=>(Zb s.sb),fun(g,h,j,d,f,b,l)=>(Zb g),fun _=>(zI n),fun _=>(Za x.t),fun(g,h,j,d,f,b,l)=>(.slice d b.length f),fun(g,h,j,d,f,b,l)=>(Za b.length),fun _=>Zc] [(fun(g,h,j,d,f,b,l)=>[(fW.R c.fQ c.fN s.ub s.u),(fW.R c.fQ c.fN A B),blk E 139 (Zj ((fM s.q.fO 0).ix:Int) ((fM s.q.fO 0).key)),blk n 40 (Zo x),blk wb 77 (sP c.win c.fN c.fQ c.jw s),(sI s c.win),(vD s c.fN),(vG c.fQ c.fN s)],fun _ _=>True),(fun(g,h,j,d,f,b,l)=>[(fW.R c.fQ c.fN s.ub s.u),(fW.R c.fQ c.fN A B),blk E 139 (Zj ((fM s.q.fO 0).ix:Int) ((fM s.q.fO 0).key)),blk n 40 (Zo x),blk wb 77 (sP c.win c.fN c.fQ c.jw s),(sI s c.win),jZ (QS.fO j=QS.fO s.q) (gG [(vD s c.fN),(QS.SR g h c.fN j)]),(vG c.fQ c.fN s)],fun _ _=>True),(fun(g,h,j,d,f,b,l)=>[(fW.R c.fQ c.fN s.ub s.u),(fW.R c.fQ c.fN A B),blk E 139 (Zj ((fM s.q.fO 0).ix:Int) ((fM s.q.fO 0).key)),blk n 40 (Zo x),blk wb 77 (sP c.win c.fN c.fQ c.jw s),(sI s c.win),jZ (pO c.fN s.q l b x.t) (gG [(vD s c.fN),(QS.SR g h c.fN l),fV gL (.slice d b.length f) 3 1 b]),(vG c.fQ c.fN s)],fun _ _=>True)] (0,0,s.q,none,0,[],s.q) (fun(g,h,j,d,f,b,l)=>(51,Zc) :: (50,(Za b.length)) :: (49,(.slice d b.length f)) :: (48,(Za x.t)) :: (47,(zI n)) :: (46,(Zb g)) :: (45,(Zb s.sb)) :: (44,(Z0 wb)) :: (43,(Zb wb)) :: (42,(Zb wb)) :: _) rfl P (fun _ _=>trivial) ?_ (fun(g,h,j,d,f,b,l)=>rfl) rfl ?_
       . skip
         refine gC (fun(g,h,j,d,f,b,l) _=>iD (v:=(Zb wb)) rfl) ?_
         refine gC (fun(g,h,j,d,f,b,l) _=>jY rfl) ?_
         refine gC (fun(g,h,j,d,f,b,l) _=>jL (o' := 6) rfl FB rfl Jk rfl) ?_
         refine lU rfl rfl rfl rfl (fun(g,h,j,d,f,b,l) wq hM hF=>qv rfl rfl (gZ rfl Tryz.underlying74 rfl (yo hM (i:=4) rfl rfl))) (kg rfl rfl rfl rfl (fun(g,h,j,d,f,b,l) wq hM hF=>kC rfl rfl (iX rfl ZP) (Vs s.sb s.hb c.fN s.q wq (yd hM (i:=6) rfl)) (fun _ _ hz=>by obtain⟨af,ag,ah,rfl,hF1,ht1⟩:=hz;exact⟨(af,ag,ah,d,f,b,l),⟨(yt 6 hM (ht1.oQ hF1)),trivial⟩,rfl,fS rfl (fS rfl (fS rfl (fS rfl (fS trivial (fS rfl (fS rfl (fS trivial (fS trivial (fS rfl (kM))))))))))⟩)) (gC (fun(g,h,j,d,f,b,l) _=>jL (o' := 3) rfl ry rfl ti2 rfl) ?_))
         refine nZ rfl rfl rfl rfl rfl (fun(g,h,j,d,f,b,l) wq hM hF=>qv rfl rfl (gZ rfl tM rfl (yo hM (i:=3) rfl rfl))) (fun(g,h,j,d,f,b,l) wq hM hF=>qv rfl rfl (gZ rfl tM rfl (yo hM (i:=3) rfl rfl))) (kg rfl rfl rfl rfl (fun(g,h,j,d,f,b,l) wq hM hF=>kC rfl rfl (iX rfl OB) (VK s.sb s.hb c.fN s.q g h j wq (yd hM (i:=6) rfl) x.t o_) (fun _ _ hz=>by obtain⟨ai,aj,ak,am,rfl,hF1,ht1⟩:=hz;exact⟨(g,h,j,ai,aj,ak,am),⟨(yt 6 hM (ht1.oQ hF1)),trivial⟩,rfl,fS rfl (fS rfl (fS rfl (fS rfl (fS rfl (fS rfl (fS rfl (fS trivial (fS trivial (fS rfl (kM))))))))))⟩)) (gC (fun(g,h,j,d,f,b,l) _=>Ir (a:=d) (m:=b.length) (c:=f) rfl yh) ?_))
         refine gC (fun(g,h,j,d,f,b,l) _=>iD (v:=Zc) rfl) ?_
         exact og
       rintro⟨g,h,j,d,f,b,l⟩ aJ an -
       have Q:=ym [6,0,1,2,3,4,5,7] an
       have H:=nL Q
       have ao:=jV Q
       have I:=j8 ao
       have hdl:b.length<=c.fN:=H.len
       have hsch2:Ee B s.q:=fun e=>(hW.Ag e).trans ⟨fun⟨y,h1,h2⟩=>⟨y,(G.1 y).2 h1,h2⟩,fun⟨y,h1,h2⟩=>⟨y,(G.1 y).1 h1,h2⟩⟩
       have hu39:=(y0 I (i:=4) rfl:fW.ok c.fQ c.fN B)
       have ap:=ym [7,8,3,0,9,4,2,6] I
       refine kT tt none I 2 ?_
       refine lp (α:=Nat×fW) (fun(k,u2)=>[(3,(Zb n)),(8,(Zb A)),(49,(.slice d b.length f)),(50,(Za b.length)),(51,(Za k))]) (fun(k,u2) w1=>St [(w,(WW.R c wb s).gU)] [blk wb 77 (sP c.win c.fN c.fQ c.jw s),(sI s c.win),(fW.R c.fQ c.fN s.ub s.u),(vD s c.fN),(vG c.fQ c.fN s),(fW.R c.fQ c.fN A u2),fV gL (.slice d b.length f) 3 1 b,blk n 40 (Zo x)] w1/\ox B u2 (b.take k)/\k<=b.length) (fun(k,u2)=>b.length-k) (0,B) ⟨rfl,rfl,rfl,rfl,gJ (by first|rfl|omega),trivial⟩ (⟨ap,ox.start _,o_⟩) ?_
       rintro⟨k,u2⟩ aK S ⟨hst3,hR,hk3⟩
       refine gh hst3 2 ?_
       by_cases aL:((k:Int):Int)<((b.length:Int):Int)
       . have hkl:k<b.length:=by omega
         refine fP hst3 11 ?_
         refine jj (cf:=gL) (k:=k) (i:=(k:Int)) rfl rfl rfl yh gq (ye hst3 (i:=6) rfl f_) o_ o_ (gy om) (kE (cf:=gL) rfl rfl yf rfl (ye hst3 (i:=6) rfl f_) (gy om) rfl ?_)
         have hu29:=(y0 hst3 (i:=5) rfl:fW.ok c.fQ c.fN u2)
         have hcan:=ox.can hR hsch2 hu29 H (gy hkl)
         refine fP hst3 6 ?_
         refine cl OE (KZ c.fQ c.fN A u2 S (yd hst3 (i:=5) rfl) (fM b k) hcan) ?_
         rintro _ aM ⟨aq,rfl,U,ht⟩
         have V:=yt 5 hst3 ht
         refine gf V 7 ?_
         refine tN (?_)
         exact again ((k+1),aq) ⟨rfl,rfl,rfl,rfl,gJ (by first|rfl|omega),trivial⟩ (⟨V,by rw[Ay,gy hkl];exact hR.next U.1 U.2,o_⟩) (by show (b.length-(k+1):Nat)<b.length-k;omega)
       . refine fP hst3 13 ?_
         refine rA (cs:=(Zo x)) rfl rfl ry rfl rm rfl (mW hst3 (i:=7) (o:=0) (vs:=(Zo x)) rfl rfl) (cl IX (Gs c.fQ c.fN A u2 S (yd hst3 (i:=5) rfl) x) ?_)
         rintro _ aN ⟨rfl,ht⟩
         have D:=yt 5 hst3 ht
         refine gf D 4 ?_
         refine gF (v:=(Za (fW.gH u2 c.fQ c.fN x.u x.v))) Fw rfl ?_
         have hu49:=(y0 D (i:=5) rfl:fW.ok c.fQ c.fN u2)
         have htA4:=HW (yd D (i:=5) rfl)
         have hke:k=b.length:=by omega
         rw[hke,Cb]at hR
         have hfin:=hR.fin hsch2 hu39 H
         exact⟨fW.gH u2 c.fQ c.fN x.u x.v,rfl,(fun h7=>Room.of hu49 htA4 h7 fun y hy=>(hfin y).2 ⟨(G.1 y).2 hy.1,hy.2⟩),yv (yx (p:=s.ok c) (yc [_,_,_,_,_] _ D) hW) zg⟩
end
section
open Go Go.Sx
theorem Bg{c:WC}{wb:Nat}{s:WW}{w:World}(h:Own (WW.R c wb s) w):s.ok c/\s.u.ok c.fQ c.fN/\s.u.t.A.ok :=
 ⟨h.fact,(y0 (Own.of h.un) (i:=2) rfl:fW.ok c.fQ c.fN s.u),HW (yd (Own.of h.un) (i:=2) rfl)⟩
theorem UW(cb:Nat)(win now:Int)(w:World)(hO:Own (Zr cb win now) w)(h1:1<=win)(hwin:iC .i64 win)(t:Int)(htt:iC .i64 t)(h2:now<=t)(h3 : -9223372036854775808<=t+win/\t+win<=9223372036854775807) :
 CR ya 31 (Zn cb t) w (fun r w' => r = .int .i64 0/\gp (Zr cb win now) w w' (Zr cb win now)):=by
 have h:=Ly cb win now w hO h1 hwin t htt
 rw[Ns h2 h3]at h
 exact h
theorem Xn(c:WC)(wb:Nat)(s:WW)(w:World)(hO:Own (WW.R c wb s) w)(x:Lv)(hxo:x.ok)(hxt:s.now<=x.t)(hxt2:x.t<=1000000)(ha:s.added<1000000) :
 CR ya 15 (BU wb x) w (fun r w' => ∃ (e:Int) (s2:WW),r = .int .i64 e/\WW.Step s s2 x/\gp (WW.R c wb s) w w' (WW.R c wb s2)):=by
 refine en Tryz.func15 Tryz.ntmps15 ?_
 have hst0:=Own.of hO.un
 have hW:s.ok c:=hO.fact
 have hw1:=hW.w1
 have hw2:=hW.wi
 have hw3:=hW.n0
 have hw4:=hW.n1
 have huok:fW.ok c.fQ c.fN s.u:=(y0 hst0 (i:=2) rfl)
 have hwen:=hW.en
 have hwe1:=hW.e1
 have hwv2:=hW.v2
 have hwvn:=hW.vn
 have hwa0:=hW.a0
 have hwa1:=hW.a1
 have hwla:=hW.la
 have hwl0:=huok.sv
 refine gh hst0 2 ?_
 refine bx (v:=(sU x)) (cs:=(Zo x)) rfl rfl rfl hst0 ?_
 intro L z M N k
 have A:=ym [1,2,3,4,5,0] k
 have l:=yx (p:=s.ok c) (yc [_,_,_,_,_] _ A) hW
 refine fP k 7 ?_
 refine cl yM (xx c wb s z (yd l (i:=0) rfl)) ?_
 rintro _ O ⟨rfl,ht⟩
 have B:=yt 0 l ht
 have d:=(jV B).unpack
 refine fP d 13 ?_
 by_cases P:(x.u:Int)=(x.v:Int)
 . refine gf d 11 ?_
   refine gF (v:=(.int .i64 9)) Tryz.results15 rfl ?_
   have C:=yx (p:=s.ok c) (yc [_,_,_,_,_] _ d) hW
   exact⟨9,s,rfl,WW.Step.same s x,yr C⟩
 . refine gX d 8 ?_
   refine jD d 6 ?_
   intro wq hM
   refine kC rfl rfl (iX rfl O3) (UW s.cb c.win s.now wq (yd hM (i:=1) rfl) hw1 (lE o_) x.t hxo.t hxt o_) ?_
   rintro _ _ ⟨rfl,ht1⟩
   refine jC (yt 1 hM ht1) (fun D m=>?_)
   have n:=ym [1,0,2,3,4,5] m
   refine oZ tt none n 17 ?_
   refine cmp rfl rfl rfl (uH o_) ?_
   have E:=m
   have o:=yx (p:=s.ok c) (yc [_,_,_,_,_] _ E) hW
   refine fP n 10 ?_
   refine cl ZC (Vg c wb s D (yd o (i:=0) rfl) x hxo) ?_
   rintro _ G ⟨f,rfl,H,ht⟩
   have a:=yt 0 o ht
   refine fP a 6 ?_
   by_cases I:(f:Int)=(0:Int)
   . have hre:f=0:=by have h7:=@I;omega
     refine fP a 11 ?_
     refine cl OU (Mn c wb s G (yd a (i:=0) rfl) x.t hxt hxt2) ?_
     rintro _ J ⟨g,rfl,b,ht⟩
     have h:=yt 0 a ht
     have hww2:=Bg (yd h (i:=0) rfl)
     have hc2:=H hre g.u hww2.2.1 hww2.2.2 b.2.2.1
     have hxs2:x.t=g.now:=b.1.symm
     have has2:g.added<1000000:=by rw[b.2.1];exact ha
     refine fP h 6 ?_
     refine cl ZW (Sq c wb g J (yd h (i:=0) rfl) x hxo hxs2 hc2 has2) ?_
     rintro _ Q ⟨K,rfl,j,ht⟩
     have q:=yt 0 h ht
     refine gf q 8 ?_
     refine gF (v:=Zc) Tryz.results15 rfl ?_
     exact⟨0,K,rfl,⟨.inr (j.1.trans b.1),by rw[j.2.1,b.2.1];exact Int.le_refl _,fun y hy=>(j.2.2 y hy).imp_left fun h7=>((b.2.2.1 y).1 h7).1⟩,yr q⟩
   . refine gf a 12 ?_
     refine gF (v:=(Za f)) Tryz.results15 rfl ?_
     exact⟨f,s,rfl,WW.Step.same s x,yr a⟩
theorem TV(fQ fN ub:Nat)(s:fW)(w:World)(hO:Own (fW.R fQ fN ub s) w) :
 CR ya 19 (Zg ub) w (fun r w' => ∃ (v:Value) (ys:List Lv),v=r/\s.nt ys/\gp (fW.R fQ fN ub s) w w' (gG [(fW.R fQ fN ub s),fV Lv.cells v 42 7 ys])) :=
 CR.mono (U5 fQ fN ub s w hO) fun r w' ⟨v,ys,h1,h2,ht⟩=>⟨v,ys,h1.symm,h2,ht⟩
theorem Mk(c:WC)(wb:Nat)(s:WW)(w:World)(hO:Own (WW.R c wb s) w) :
 CR ya 6 (Zg wb) w (fun r w' => ∃ (v:Value) (ys:List Lv),v=r/\s.u.nt ys/\gp (WW.R c wb s) w w' (gG [(WW.R c wb s),fV Lv.cells v 42 7 ys])):=by
 refine en Tryz.func6 Tryz.ntmps6 ?_
 have hst0:=Own.of hO.un
 have hW:s.ok c:=hO.fact
 have hw1:=hW.w1
 have hw2:=hW.wi
 have hw3:=hW.n0
 have hw4:=hW.n1
 have huok:fW.ok c.fQ c.fN s.u:=(y0 hst0 (i:=2) rfl)
 have hwen:=hW.en
 have hwe1:=hW.e1
 have hwv2:=hW.v2
 have hwvn:=hW.vn
 have hwa0:=hW.a0
 have hwa1:=hW.a1
 have hwla:=hW.la
 have hwl0:=huok.sv
 have b:=yx (p:=s.ok c) (yc [_,_,_,_,_] _ hst0) hW
 refine gh hst0 9 ?_
 refine cl yM (xx c wb s w (yd b (i:=0) rfl)) ?_
 rintro _ f ⟨rfl,ht⟩
 have g:=yt 0 b ht
 have a:=(jV g).unpack
 refine fP a 12 ?_
 refine cl aah (TV c.fQ c.fN s.ub s.u f (yd a (i:=2) rfl)) ?_
 rintro _ n ⟨d,h,rfl,j,ht⟩
 have k:=ym [2,0,1,3,4] a
 have e:=j8 (yt 0 k ht)
 refine gf e 4 ?_
 refine gF (v:=d) Tryz.results6 rfl ?_
 have l:=ym [2,3,0,4,5,1] e
 have m:=yx (p:=s.ok c) (yc [_,_,_,_,_] _ l) hW
 exact⟨d,h,rfl,j,yr (yc [_,_] _ m)⟩
end
section
open Go Go.Sx
theorem Um(ab:Nat)(v:AW)(w:World)(hO:Own (AW.R ab v) w) :
 CR ya 36 (Zg ab) w (fun r w' => ∃ lv,lv=r/\gp (AW.R ab v) w w' (gG [AW.R ab v,fV gL lv 3 1 (v.A.list v.A.begun)])) :=
 CR.mono (L4 ab v w hO) fun r w' ⟨lv,h,ht⟩=>⟨lv,h.symm,ht⟩
theorem VM(tb ab:Nat)(t:TW)(w:World)(hO:Own (TW.R tb ab t) w)(hu12:t.A.used<=12) :
 CR ya 40 (Zg tb) w (fun r w' => ∃ (v:Value) (K:List Int),v=r/\((K.Pairwise fun a b=>a<b)/\∀ x,x∈K↔t.mem x)/\gp (TW.R tb ab t) w w' (gG [(TW.R tb ab t),fV gW v 34 1 K])):=by
 refine en Tryz.func40 Tryz.ntmps40 ?_
 have hst0:=Own.of hO.un
 have hT:t.ok:=hO.fact
 have hAk:t.A.ok:=(y0 hst0 (i:=3) rfl:t.w.A.ok)
 have hLl:(t.A.list t.A.begun).length=t.A.used:=hAk.AM
 have j:=yc [_,_,_] _ hst0
 refine gh hst0 9 ?_
 refine cl uL (um tb ab t w (yd j (i:=0) rfl) hT) ?_
 rintro _ s ⟨rfl,ht⟩
 have d:=(yq j ht)
 refine fP d 12 ?_
 refine cl Eb (DB ab t.w s (yd d (i:=3) rfl)) ?_
 rintro _ L ⟨rfl,ht⟩
 have u:=yt 3 d ht
 refine BA (cf:=gW) (z0:=0) (m:=0) (c:=t.A.used) rfl rfl rfl yp iK rfl f_ d_ (mS _) o_ o_ u ?_
 intro y z M N B
 have e:=St.Bi (cf:=gW) B (i:=0) rfl f_ (mS _) (by simp only[maxLen];omega)
 refine fP e 10 ?_
 refine cl Pn (Um ab t.w z (yd e (i:=4) rfl)) ?_
 rintro _ O ⟨f,rfl,ht⟩
 have C:=ym [4,0,1,2,3] e
 have g:=j8 (yt 0 C ht)
 refine kZ (m:=(t.A.list t.A.begun).length) 1 rfl rfl yh g rfl ?_
 have D:=ym [3,4,5,0,1,2] g
 refine gX g 4 ?_
 refine lp (α:=Nat×Value) (fun(k,xv)=>[(0,(Zb tb)),(3,xv),(19,f),(20,(Za ((t.A.list t.A.begun).length:Int))),(21,(Za k))]) (fun(k,xv) w1=>St [(w,(TW.R tb ab t).gU)] [blk tb 173 (Z7 tb ab t),fV gW t.iv 34 1 t.ids,fV gL t.cv 3 1 t.cs,(AW.R ab t.w),fV gL f 3 1 (t.A.list t.A.begun),fV gW xv 34 1 (((t.A.list t.A.begun).take k).map (fM t.ids))] w1/\k<=(t.A.list t.A.begun).length) (fun(k,xv)=>(t.A.list t.A.begun).length-k) (0,(.slice (some ⟨y,0,none⟩) 0 t.A.used)) ⟨rfl,rfl,rfl,rfl,gJ (by first|rfl|omega),trivial⟩ (⟨D,o_⟩) ?_
 rintro⟨k,xv⟩ P E ⟨hst2,hk2⟩
 refine gh hst2 2 ?_
 by_cases Q:((k:Int):Int)<(((t.A.list t.A.begun).length:Int):Int)
 . have hkl:k<(t.A.list t.A.begun).length:=by omega
   have hil:fM (t.A.list t.A.begun) k<t.ids.length:=by rw[hT.vw];exact((hAk.nO _).1 (pG.2 ⟨k,hkl,rfl⟩)).1
   refine fP hst2 11 ?_
   refine jj (cf:=gL) (k:=k) (i:=(k:Int)) rfl rfl rfl yh gq (ye hst2 (i:=4) rfl f_) o_ o_ (gy om) (kE (cf:=gL) rfl rfl yf rfl (ye hst2 (i:=4) rfl f_) (gy om) rfl (fP hst2 10 ?_))
   refine jj (cf:=gW) (k:=(fM (t.A.list t.A.begun) k)) (i:=(((fM (t.A.list t.A.begun) k):Nat):Int)) rfl rfl rfl yp iK (ye hst2 (i:=1) rfl f_) o_ o_ (gy om) (kE (cf:=gW) rfl rfl yg rfl (ye hst2 (i:=1) rfl f_) (gy om) rfl (nk (vs:=(Zt (fM t.ids (fM (t.A.list t.A.begun) k)))) (cs:=(Zt (fM t.ids (fM (t.A.list t.A.begun) k)))) rfl rfl yp iK rfl (by simp[Value.cells]) rfl rfl rfl hst2 (fun G S U V l=>ri (cf:=gW) (ys:=(((t.A.list t.A.begun).take k).map (fM t.ids))) (zs:=[(fM t.ids (fM (t.A.list t.A.begun) k))]) (LL:=fun h=>[iA .u64 (Zx G) 34 ([(fM t.ids (fM (t.A.list t.A.begun) k))]),blk tb 173 (Z7 tb ab t),fV gW t.iv 34 1 t.ids,fV gL t.cv 3 1 t.cs,(AW.R ab t.w),fV gL f 3 1 (t.A.list t.A.begun),fV gW h 34 1 ((((t.A.list t.A.begun).take k).map (fM t.ids))++[(fM t.ids (fM (t.A.list t.A.begun) k))])]) 6 rfl rfl rfl yp iK rfl d_ l rfl (oU l (i:=0) rfl) (fun x hx=>zz.1 (show List.all _ _=true from rfl) x hx) (by simp only[zw,zp,zx,zr,kD,maxLen];omega) (by simp only[zw,zp,zx,zr,kD,maxLen];omega) f_ ?_)))
   intro h W H X
   have n:=ym [1,2,3,4,5,6] H
   refine gf n 8 ?_
   refine tN (?_)
   exact again ((k+1),h) ⟨rfl,rfl,rfl,rfl,gJ (by first|rfl|omega),trivial⟩ (⟨by rw[K3 _ hkl];exact n,o_⟩) (by show ((t.A.list t.A.begun).length-(k+1):Nat)<(t.A.list t.A.begun).length-k;omega)
 . refine fP hst2 13 ?_
   refine cl ZQ (XA xv (((t.A.list t.A.begun).take k).map (fM t.ids)) E (yd hst2 (i:=5) rfl) (by rw[zr,kD];omega)) ?_
   rintro _ Y ⟨I,rfl,o,ht⟩
   have q:=yt 5 hst2 ht
   refine gf q 9 ?_
   refine gF (v:=xv) Tryz.results40 rfl ?_
   have J:=ym [0,1,2,3,5,4] q
   have hke:k=(t.A.list t.A.begun).length:=by omega
   subst hke
   have hpm:=o.1
   rw[Cb]at hpm
   have hnd:=(hpm.nodup_iff).2 (TW.Le hT hAk)
   exact⟨xv,I,rfl,⟨o.2.qA hnd,fun x=>hpm.mem_iff.trans (TW.HU hAk x)⟩,yv (yc [_,_] _ (yx (p:=t.ok) (yc [_,_,_,_] _ J) hT)) zg⟩
theorem WK(fQ fN ub:Nat)(s:fW)(w:World)(hO:Own (fW.R fQ fN ub s) w)(hv12:fQ<=12) :
 CR ya 20 (Zg ub) w (fun r w' => ∃ (v:Value) (K:List Int),v=r/\s.qF K/\gp (fW.R fQ fN ub s) w w' (gG [(fW.R fQ fN ub s),fV gW v 34 1 K])):=by
 refine en Tryz.func20 Tryz.ntmps20 ?_
 have hst0:=Own.of hO.un
 have hU:s.ok fQ fN:=hO.fact
 have hu12:s.t.A.used<=12:=by have h7:=hU.tok.ul;have h8:=hU.tn;omega
 have b:=yx (p:=s.ok fQ fN) (yc [_,_,_,_,_,_] _ hst0) hU
 refine gh hst0 9 ?_
 refine cl yJ (xw fQ fN ub s w (yd b (i:=0) rfl)) ?_
 rintro _ f ⟨rfl,ht⟩
 have g:=yt 0 b ht
 have a:=(jV g).unpack
 refine fP a 12 ?_
 refine cl YX (VM s.tb s.ab s.t f (yd a (i:=5) rfl) hu12) ?_
 rintro _ l ⟨c,h,rfl,d,ht⟩
 have j:=ym [5,0,1,2,3,4] a
 have e:=j8 (yt 0 j ht)
 refine gf e 4 ?_
 refine gF (v:=c) Tryz.results20 rfl ?_
 have k:=ym [2,3,4,5,6,0,1] e
 exact⟨c,h,rfl,⟨d.1,d.2⟩,yv (yc [_,_] _ (yx (p:=fW.ok fQ fN s) (yc [_,_,_,_,_,_] _ k) hU)) zg⟩
theorem M8(c:WC)(wb:Nat)(s:WW)(w:World)(hO:Own (WW.R c wb s) w)(hv12:c.fQ<=12) :
 CR ya 8 (Zg wb) w (fun r w' => ∃ (v:Value) (K:List Int),v=r/\s.u.qF K/\gp (WW.R c wb s) w w' (gG [(WW.R c wb s),fV gW v 34 1 K])):=by
 refine en Tryz.func8 Tryz.ntmps8 ?_
 have hst0:=Own.of hO.un
 have hW:s.ok c:=hO.fact
 have hw1:=hW.w1
 have hw2:=hW.wi
 have hw3:=hW.n0
 have hw4:=hW.n1
 have huok:fW.ok c.fQ c.fN s.u:=(y0 hst0 (i:=2) rfl)
 have hwen:=hW.en
 have hwe1:=hW.e1
 have hwv2:=hW.v2
 have hwvn:=hW.vn
 have hwa0:=hW.a0
 have hwa1:=hW.a1
 have hwla:=hW.la
 have hwl0:=huok.sv
 have b:=yx (p:=s.ok c) (yc [_,_,_,_,_] _ hst0) hW
 refine gh hst0 9 ?_
 refine cl yM (xx c wb s w (yd b (i:=0) rfl)) ?_
 rintro _ f ⟨rfl,ht⟩
 have g:=yt 0 b ht
 have a:=(jV g).unpack
 refine fP a 12 ?_
 refine cl aag (WK c.fQ c.fN s.ub s.u f (yd a (i:=2) rfl) hv12) ?_
 rintro _ n ⟨d,h,rfl,j,ht⟩
 have k:=ym [2,0,1,3,4] a
 have e:=j8 (yt 0 k ht)
 refine gf e 4 ?_
 refine gF (v:=d) Tryz.results8 rfl ?_
 have l:=ym [2,3,0,4,5,1] e
 have m:=yx (p:=s.ok c) (yc [_,_,_,_,_] _ l) hW
 exact⟨d,h,rfl,j,yr (yc [_,_] _ m)⟩
theorem U1(c:WC)(wb:Nat)(s:WW)(w:World)(hO:Own (WW.R c wb s) w) :
 CR ya 25 (Zg wb) w (fun r w' => r=(wN c.win c.fN c.fQ c.jw)/\gp (WW.R c wb s) w w' (WW.R c wb s)):=by
 refine en Tryz.func25 Tryz.ntmps25 ?_
 have hst0:=Own.of hO.un
 have hW:s.ok c:=hO.fact
 have hw1:=hW.w1
 have hw2:=hW.wi
 have hw3:=hW.n0
 have hw4:=hW.n1
 refine gh hst0 2 ?_
 refine al (cs:=Q1) rfl Bw rfl hst0 ?_
 intro j e k l a
 have f:=ym [1,2,3,4,5,0] a
 have b:=yx (p:=s.ok c) (yc [_,_,_,_,_] _ f) hW
 refine fP a 6 ?_
 refine cl yM (xx c wb s e (yd b (i:=0) rfl)) ?_
 rintro _ m ⟨rfl,ht⟩
 have g:=yt 0 b ht
 have h:=(jV g).unpack
 refine lW h 16 fun n d=>?_
 refine YU (v:=(wN c.win c.fN c.fQ c.jw)) Tryz.results25 (p5 (cs:=(zU c.win c.fN c.fQ c.jw)) rfl EU rfl Bw rfl (mW d (i:=5) (o:=0) (vs:=(zU c.win c.fN c.fQ c.jw)) rfl rfl)) ?_
 exact⟨rfl,yv (yx (p:=s.ok c) (yc [_,_,_,_,_] _ d) hW) zg⟩
end
section
open Go Go.Sx
theorem L5(v:Value)(xs:List Int)(x:Int)(w:World)(hv:jx 1 gW (fun _=>True) w v xs)(hs:xs.Pairwise fun a b=>a<b)(hl:xs.length<=1000000) :
 CR ya 34 #[v,(Zd x)] w (fun r w' => r = .int .i64 (ir xs x:Int)/\gD [] w w'):=by
 refine en Tryz.func34 Tryz.ntmps34 ?_
 have hst0:=jB w
 refine gh hst0 9 ?_
 refine cl Y4 (Y7 v xs x w hv hs hl) ?_
 rintro _ e ⟨f,rfl,d⟩
 have c:=y8 hst0 d
 refine gf c 14 ?_
 refine gF (v:=(Za (ir xs x:Int))) Tryz.results34 rfl ?_
 exact⟨rfl,c.gI s_⟩
theorem WN(c:WC)(wb:Nat)(s:WW)(w:World)(hO:Own (WW.R c wb s) w)(hv12:c.fQ<=12) :
 CR ya 17 (Zg wb) w (fun r w' => ∃ (iv ev lv:Value) (K:List Int) (L:List Lv) (es:List Ge),r = .tuple #[iv,ev,lv]/\(s.u.qF K/\s.u.nt L/\tJ K L es L.length)/\gp (WW.R c wb s) w w' (gG [(WW.R c wb s),fV gW iv 34 1 K,fV Ge.cells ev 38 3 es,fV Lv.cells lv 42 7 L])):=by
 refine enter (vs:=(Zi wb)) Tryz.func17 rfl Tryz.ntmps17 rfl ?_
 have hst0:=yy hO
 have hww:=Bg hO
 have hwen:=hww.1.en
 have hw1:=hww.1.w1
 refine gh hst0 10 ?_
 refine tP (vl:=(Zi wb)) rfl rfl Qa (M8 c wb s w (yd hst0 (i:=0) rfl) hv12) ?_
 rintro _ y ⟨d,b,rfl,g,ht⟩
 have q:St _ [(WW.R c wb s),fV gW d 34 1 b] y:=j8 (St.sD (R' := (gG [(WW.R c wb s),fV gW d 34 1 b])) 0 hst0 rfl ht rfl)
 have hKl:=g.len hww.2.1 hww.2.2
 refine fP q 1 ?_
 refine tP (vl:=(Zi wb)) rfl rfl P3 (Mk c wb s y (yd q (i:=0) rfl)) ?_
 rintro _ A ⟨e,a,rfl,t,ht⟩
 have x:St _ [(WW.R c wb s),fV Lv.cells e 42 7 a,fV gW d 34 1 b] A:=j8 (St.sD (R' := (gG [(WW.R c wb s),fV Lv.cells e 42 7 a])) 0 q rfl ht rfl)
 have hLl:=t.len hww.2.1
 refine fP x 7 ?_
 refine kZ (m:=a.length) 1 rfl rfl y9 x rfl (BA (cf:=Ge.cells) (z0:=⟨0,0,0⟩) (m:=a.length) (c:=a.length) rfl rfl rfl BY wu rfl f_ d_ (zn _) o_ o_ x ?_)
 intro j n P Q B
 have o:St _ [fV Ge.cells (Zs j a.length) 38 3 (List.replicate a.length ⟨0,0,0⟩),(WW.R c wb s),fV Lv.cells e 42 7 a,fV gW d 34 1 b] n:=St.Bi (cf:=Ge.cells) B (i:=0) rfl f_ (zn _) (by simp only[maxLen];omega)
 refine fP o 7 ?_
 refine kZ (m:=a.length) 2 rfl rfl y9 o rfl ?_
 have C:St _ [(WW.R c wb s),fV Ge.cells (Zs j a.length) 38 3 (List.replicate a.length ⟨0,0,0⟩),fV Lv.cells e 42 7 a,fV gW d 34 1 b] n:=lP o (List.Perm.swap _ _ _)
 have D:St _ [(WW.R c wb s),fV Ge.cells (Zs j a.length) 38 3 (List.replicate a.length ⟨0,0,0⟩),fV gW d 34 1 b,fV Lv.cells e 42 7 a] n:=lP C (List.Perm.cons _ (List.Perm.cons _ (List.Perm.swap _ _ _)))
 have E:St _ [(WW.R c wb s),fV gW d 34 1 b,fV Ge.cells (Zs j a.length) 38 3 (List.replicate a.length ⟨0,0,0⟩),fV Lv.cells e 42 7 a] n:=lP D (List.Perm.cons _ (List.Perm.swap _ _ _))
 refine gX o 4 ?_
 refine lp (α:=Nat×List Ge×Value) (fun(k,es,ev)=>[(5,d),(6,e),(7,ev),(17,e),(18,(Za a.length)),(19,(Za k))]) (fun(k,es,ev) w1=>St [(w,(WW.R c wb s).gU)] [(WW.R c wb s),fV gW d 34 1 b,fV Ge.cells ev 38 3 es,fV Lv.cells e 42 7 a] w1/\tJ b a es k/\k<=a.length) (fun(k,es,ev)=>a.length-k) (0,(List.replicate a.length ⟨0,0,0⟩),(Zs j a.length)) ⟨rfl,rfl,rfl,rfl,rfl,gJ (by first|rfl|omega),trivial⟩ (⟨E,tJ.start,o_⟩) ?_
 rintro⟨k,es,ev⟩ S U ⟨hst2,hPi,hk2⟩
 have hel:=hPi.len
 refine gh hst2 2 ?_
 by_cases V:((k:Int):Int)<((a.length:Int):Int)
 . have hkl:k<a.length:=by omega
   have hE:=g.ends hww.2.1 t hkl
   refine fP hst2 12 ?_
   refine jj (cf:=Lv.cells) (k:=k) (i:=(k:Int)) rfl rfl rfl y9 jq (ye hst2 (i:=3) rfl f_) o_ o_ (gy om) (By (cf:=Lv.cells) (cs:=(Z4 (fM a k))) rfl rfl oW rfl jq (ye hst2 (i:=3) rfl f_) (gy om) rfl rfl (al (cs:=Zu) rfl jq rfl hst2 (fun l W X Y G=>vp G 4 fun Z H=>?_)))
   refine jD H 17 ?_ (hA:=by refine' gN 6 ?k0;case k0=>refine' gw (fun wq hM=>rc (iX (vl:=[d,(Zd ((fM a k).u))]) rfl O6) (CR.mono (L5 d b ((fM a k).u) wq (Sl.any (ye hM (i:=2) rfl f_)) g.qA o_) fun _ _ h=>⟨h.1,hM.grow h.2⟩)) ?k1;case k1=>refine' gN 4 ?k2;case k2=>refine' gw (fun wq hM=>rc (iX (vl:=[d,(Zd ((fM a k).v))]) rfl O6) (CR.mono (L5 d b ((fM a k).v) wq (Sl.any (ye hM (i:=2) rfl f_)) g.qA o_) fun _ _ h=>⟨h.1,hM.grow h.2⟩)) ?k3;case k3=>refine' gN 3 ?k4;case k4=>refine' gw (fun wq hM=>rv (uI (pvs:=[(0,(Za (ir b ((fM a k).u):Int))),(1,(Za (ir b ((fM a k).v):Int))),(2,(Za ((fM a k).wt)))]) (v:=.agg #[(Za (ir b ((fM a k).u):Int)),(Za (ir b ((fM a k).v):Int)),(Za ((fM a k).wt))]) rfl (kV [(0,(Zf (ir b ((fM a k).u):Int))),(1,(Zf (ir b ((fM a k).v):Int))),(2,(Zf ((fM a k).wt)))] wu aaC rfl ⟨rfl,rfl,rfl,rfl,rfl,rfl,trivial⟩ rfl))) ?k5;case k5=>exact iT)
   intro wq hM
   refine v8 (cf:=Ge.cells) (ys:=es) (k:=k) (off:=0) (f:=(fun _=>(⟨(ir b ((fM a k).u)),(ir b ((fM a k).v)),(fM a k).wt⟩:Ge))) (u:=(.agg #[(Za (ir b ((fM a k).u):Int)),(Za (ir b ((fM a k).v):Int)),(Za ((fM a k).wt))])) (vs:=[(Za (ir b ((fM a k).u):Int)),(Za (ir b ((fM a k).v):Int)),(Za ((fM a k).wt))]) (L' := [blk l 42 (Z4 (fM a k)),(WW.R c wb s),fV gW d 34 1 b,fV Ge.cells ev 38 3 (fR es k (fun _=>(⟨(ir b ((fM a k).u)),(ir b ((fM a k).v)),(fM a k).wt⟩:Ge))),fV Lv.cells e 42 7 a]) 3 rfl rfl rfl rfl wu rfl rfl hM rfl f_ om rfl rfl rfl (fun _ h=>(jC h (fun p z=>?_)))
   refine jE tt none z 6 ?_
   refine tN (?_)
   have I:St _ [(WW.R c wb s),blk l 42 (Z4 (fM a k)),fV gW d 34 1 b,fV Ge.cells ev 38 3 (fR es k (fun _=>(⟨(ir b ((fM a k).u)),(ir b ((fM a k).v)),(fM a k).wt⟩:Ge))),fV Lv.cells e 42 7 a] p:=lP z (List.Perm.swap _ _ _)
   have J:St _ [(WW.R c wb s),fV gW d 34 1 b,blk l 42 (Z4 (fM a k)),fV Ge.cells ev 38 3 (fR es k (fun _=>(⟨(ir b ((fM a k).u)),(ir b ((fM a k).v)),(fM a k).wt⟩:Ge))),fV Lv.cells e 42 7 a] p:=lP I (List.Perm.cons _ (List.Perm.swap _ _ _))
   have M:St _ [(WW.R c wb s),fV gW d 34 1 b,fV Ge.cells ev 38 3 (fR es k (fun _=>(⟨(ir b ((fM a k).u)),(ir b ((fM a k).v)),(fM a k).wt⟩:Ge))),blk l 42 (Z4 (fM a k)),fV Lv.cells e 42 7 a] p:=lP J (List.Perm.cons _ (List.Perm.cons _ (List.Perm.swap _ _ _)))
   have N:St _ [(WW.R c wb s),fV gW d 34 1 b,fV Ge.cells ev 38 3 (fR es k (fun _=>(⟨(ir b ((fM a k).u)),(ir b ((fM a k).v)),(fM a k).wt⟩:Ge))),fV Lv.cells e 42 7 a,blk l 42 (Z4 (fM a k))] p:=lP M (List.Perm.cons _ (List.Perm.cons _ (List.Perm.cons _ (List.Perm.swap _ _ _))))
   have O:=St.sub (L' := [(WW.R c wb s),fV gW d 34 1 b,fV Ge.cells ev 38 3 (fR es k (fun _=>(⟨(ir b ((fM a k).u)),(ir b ((fM a k).v)),(fM a k).wt⟩:Ge))),fV Lv.cells e 42 7 a]) N (List.Sublist.cons_cons _ (List.Sublist.cons_cons _ (List.Sublist.cons_cons _ (List.Sublist.cons_cons _ (List.Sublist.cons _ (List.Sublist.refl _))))))
   exact again ((k+1),fR es k (fun _=>(⟨(ir b ((fM a k).u)),(ir b ((fM a k).v)),(fM a k).wt⟩:Ge)),ev) ⟨rfl,rfl,rfl,rfl,rfl,gJ (by first|rfl|omega),trivial⟩ (⟨O,hPi.next hkl g.qA hE.1 hE.2,o_⟩) (by show (a.length-(k+1):Nat)<a.length-k;omega)
 . refine gf hst2 21 ?_
   refine yT (v:=d) (v' := ev) (v'' := e) Tryz.results17 rfl rfl rfl ?_
   have hke:k=a.length:=by omega
   exact⟨d,ev,e,b,a,es,rfl,⟨g,t,by rw[<-hke];exact hPi⟩,yv (R' := (gG [(WW.R c wb s),fV gW d 34 1 b,fV Ge.cells ev 38 3 es,fV Lv.cells e 42 7 a])) (yc [_,_,_,_] _ hst2) zg⟩
theorem Xg(c:WC)(wb:Nat)(s:WW)(w:World)(hO:Own (WW.R c wb s) w) :
 CR ya 12 (Zg wb) w (fun r w' => ∃ (vb:Nat),r = .tuple (Z8 vb)/\gp (WW.R c wb s) w w' (Qs c wb s vb)):=by
 refine en Tryz.func12 Tryz.ntmps12 ?_
 have hst0:=yy hO
 have hww:=Bg hO
 have hwen:=hww.1.en
 have hw1:=hww.1.w1
 refine gh hst0 10 ?_
 refine B2 (a:=some ⟨wb,0,none⟩) (c:=false) rfl rfl rfl Ft rfl (fP hst0 2 ?_)
 refine cl YY (U1 c wb s w (yd hst0 (i:=0) rfl)) ?_
 rintro _ g ⟨rfl,ht⟩
 have b:=yt 0 hst0 ht
 refine XS (cs:=#[(Za c.win),(Za c.fN),(Za c.fQ),(Za c.jw)]) (v:=(Za c.win)) rfl rfl EU rfl tM rfl rfl (cmp rfl rfl rfl (nE o_) (fP b 9 ?_))
 refine lX (pvs:=[(0,(Zb wb))]) (v:=.agg (QJ wb)) rfl rfl (kV [(0,(Zi wb))] P0 aa2 rfl ⟨rfl,rfl,trivial⟩ rfl) (bx (v:=(.agg (QJ wb))) (cs:=[(Zb wb),Zq,ue,Zk,Zc,Zk,Zk,Zk,Zk,Zk,Z1,Z1,Zc]) rfl rfl rfl b (fun d h j k e=>gf e 5 ?_))
 refine jm (v:=(Zb d)) (v' := Zc) Tryz.results12 rfl rfl ?_
 have f:=ym [1,0] e
 exact⟨d,rfl,yr (yc [_,_] _ f)⟩
theorem Lg(vb wb:Nat)(w:World)(hO:Own (Al vb wb) w) :
 CR ya 16 (Zg vb) w (fun r w' => r = .bool true/\gp (Al vb wb) w w' (Al vb wb)):=by
 refine en Tryz.func16 Tryz.ntmps16 ?_
 have hst0:=yy hO
 refine gh hst0 8 ?_
 refine ow (a:=some ⟨vb,0,none⟩) (c:=true) rfl rfl rfl Tryz.underlying24 rfl (fP hst0 5 ?_)
 refine ow (a:=some ⟨wb,0,none⟩) (c:=true) rfl rfl rfl Ft rfl (gf hst0 5 ?_)
 refine gF (v:=Zl) Tryz.results16 rfl ?_
 exact⟨rfl,yr hst0⟩
theorem Su(vb wb:Nat)(w:World)(hO:Own (Al vb wb) w) :
 CR ya 9 (Zg vb) w (fun r w' => r = .int .i64 0/\gp (Al vb wb) w w' (Al vb wb)):=by
 refine en Tryz.func9 Tryz.ntmps9 ?_
 have hst0:=yy hO
 refine gh hst0 9 ?_
 refine cl OQ (Lg vb wb w (yd hst0 (i:=0) rfl)) ?_
 rintro _ b ⟨rfl,ht⟩
 have a:=yt 0 hst0 ht
 refine gf a 16 ?_
 refine gF (v:=Zc) Tryz.results9 rfl ?_
 exact⟨rfl,yr a⟩
theorem Vq(c:WC)(vb wb:Nat)(s:WW)(w:World)(hO:Own (JS vb wb c s) w)(hv12:c.fQ<=12) :
 CR ya 5 (Zg vb) w (fun r w' => ∃ (iv ev lv:Value) (K:List Int) (L:List Lv) (es:List Ge),r = .tuple #[iv,ev]/\(s.u.qF K/\s.u.nt L/\tJ K L es L.length)/\gp (JS vb wb c s) w w' (gG [(JS vb wb c s),fV gW iv 34 1 K,fV Ge.cells ev 38 3 es])):=by
 refine en Tryz.func5 Tryz.ntmps5 ?_
 have hst0:=(yy hO).unpack
 refine gh hst0 10 ?_
 refine cl OQ (Lg vb wb w (yd hst0 (i:=0) rfl)) ?_
 rintro _ f ⟨rfl,ht⟩
 have a:=yt 0 hst0 ht
 refine fP a 12 ?_
 refine cl ZJ (WN c wb s f (yd a (i:=1) rfl) hv12) ?_
 rintro _ p ⟨b,d,g,h,j,k,rfl,l,ht⟩
 have m:=ym [1,0] a
 have e:=j8 (yt 0 m ht)
 refine gf e 18 ?_
 refine jm (v:=b) (v' := d) Tryz.results5 rfl rfl ?_
 have n:=ym [4,0,1,2,3] e
 have o:=yc [_,_] _ n
 exact⟨b,d,g,h,j,k,rfl,l,yr (yc [_,_,_] _ o)⟩
end
section
open Go Go.Sx
theorem XN(va vb:Value)(ys:List Int)(w:World)(ha:jx 1 gW (fun _=>True) w va ys)(hb:jx 1 gW (fun _=>True) w vb ys)(hl0:ys.length<=1000000) :
 CR ya 7 #[va,vb] w (fun r w' => r = .bool true/\gD [] w w'):=by
 refine en Tryz.func7 Tryz.ntmps7 ?_
 have hst0:=jB w
 refine gh hst0 9 ?_
 refine tE (v:=va) rfl rfl yp ha (fP hst0 1 ?_)
 refine tE (v:=vb) rfl rfl yp hb (cmp rfl rfl rfl (n9 (Eq.refl _)) (gX hst0 12 ?_))
 refine lp (α:=Nat) (fun i=>[(0,va),(1,vb),(5,(Za i))]) (fun i w1=>St [(w,[])] [] w1/\i<=ys.length) (fun i=>ys.length-i) 0 ⟨rfl,rfl,gJ (by first|rfl|omega),trivial⟩ (⟨hst0,o_⟩) ?_
 rintro i d e ⟨hst,hi⟩
 refine gh hst 5 ?_
 refine tE (v:=va) rfl rfl yp ha ?_
 by_cases f:((i:Int):Int)<((ys.length:Int):Int)
 . refine gX hst 9 ?_
   obtain⟨b,a⟩:=qg (show i<ys.length by omega)
   refine kS hst (fun g c=>?_) (hA:=by refine' gN 2 ?k0;case k0=>refine' gw (fun wq hM=>rv (jU (v:=va) (k:=i) (i:=(i:Int)) rfl rfl yp iK ha o_ o_ a)) ?k1;case k1=>refine' gw (fun wq hM=>rv (mA (u:=(Zd b)) rfl yg rfl (oC hM s_ d_ ha) a rfl)) ?k2;case k2=>refine' gN 2 ?k3;case k3=>refine' gw (fun wq hM=>rv (jU (v:=vb) (k:=i) (i:=(i:Int)) rfl rfl yp iK hb o_ o_ a)) ?k4;case k4=>refine' gw (fun wq hM=>rv (mA (u:=(Zd b)) rfl yg rfl (oC hM s_ d_ hb) a rfl)) ?k5;case k5=>refine' gw (fun wq hM=>rv (mz rfl rfl (n9 (Eq.refl _)))) ?k6;case k6=>exact iT)
   refine jE tt none c 10 ?_
   refine tN (?_)
   exact again (i+1) ⟨rfl,rfl,gJ (by first|rfl|omega),trivial⟩ (⟨c,o_⟩) (by show (ys.length-(i+1):Nat)<ys.length-i;omega)
 . refine gf hst 15 ?_
   refine gF (v:=Zl) Tryz.results7 rfl ?_
   exact⟨rfl,hst.gI s_⟩
theorem Ug(lv:Value)(xs:List Mw)(w:World)(hl:jx 5 Mw.cells (fun _=>True) w lv xs)(hxs:∀ x∈xs,x.mv.ok) :
 CR ya 4 #[lv] w (fun r w' => ∃ (wb vb:Nat) (s:WW),r = .tuple #[.pointer (some ⟨wb,0,none⟩),.pointer (some ⟨vb,0,none⟩),.bool true]/\gp (gG []) w w' (Qs cG wb s vb)):=by
 refine en Tryz.func4 Tryz.ntmps4 ?_
 have hst0:=jB w
 have hlen:=hl.len
 refine gh hst0 9 ?_
 refine lX (pvs:=[(0,(.int .i64 20)),(1,(.int .i64 40)),(2,(.int .i64 10)),(3,(.int .i64 60))]) (v:=.agg #[(.int .i64 20),(.int .i64 40),(.int .i64 10),(.int .i64 60)]) rfl rfl (kV [(0,[(.int .i64 20)]),(1,[(.int .i64 40)]),(2,[(.int .i64 10)]),(3,[(.int .i64 60)])] Bw aaA rfl ⟨rfl,rfl,rfl,rfl,rfl,rfl,rfl,rfl,trivial⟩ rfl) (cl Y1 (UT cG w d_ d_ d_ d_ d_ d_ d_) ?_)
 rintro _ q ⟨c,l,rfl,g,ht⟩
 have h:=(ou hst0 ht)
 refine fP h 20 ?_
 refine cl aai (Xg cG c l q (yd h (i:=0) rfl)) ?_
 rintro _ B ⟨d,rfl,ht⟩
 have m:=j8 (yt 0 h ht)
 refine gX m 24 ?_
 refine lp (α:=Nat×WW) (fun(k,s)=>[(0,lv),(5,(Zb c)),(7,(Zb d)),(8,(Za k))]) (fun(k,s) w1=>St [(w,[])] (Fl cG c s d) w1/\sC cG s k/\k<=xs.length/\k<=60) (fun(k,s)=>60-k) (0,l) ⟨rfl,rfl,rfl,gJ (by first|rfl|omega),trivial⟩ (⟨m,sC.start g.1 g.2.1 g.2.2,o_,o_⟩) ?_
 rintro⟨k,s⟩ C D ⟨hst3,hS,hk1,hk2⟩
 have hok7:=(Bg (yd hst3 (i:=0) rfl)).1
 have hn0:=hok7.n0
 have hs1:=hS.now
 have hs2:=hS.added
 refine gh hst3 5 ?_
 refine tE (v:=lv) rfl rfl xe hl ?_
 by_cases E:((k:Int):Int)<((xs.length:Int):Int)
 . refine fP hst3 3 ?_
   by_cases G:((k:Int):Int)<(60:Int)
   . refine gX hst3 10 ?_
     obtain⟨el,hel⟩:=qg (show k<xs.length by omega)
     have hmo:=hxs _ (zh hel)
     have hmu:=hmo.u
     have hmv:=hmo.v
     have hmwt:=hmo.wt
     have hmaf:=hmo.af
     have hwt9 : -128<=el.wt/\el.wt<=127:=hmwt
     have hrok:=hmo.BD hn0 o_
     have hmu9:0<=el.u/\el.u<=255:=hmu
     have hmv9:0<=el.v/\el.v<=255:=hmv
     have hmaf9:0<=el.af/\el.af<=255:=hmaf
     refine oE (Γ:=Unit) mixed [[],[0],[],[],[2,3],[2,3,4],[2,3,4,5],[2,3,4,5,6],[2,3,4,5,6,7],[0,1,2,3,4,5,6,7,8],[0,1,2,3,4,5,6,7,8,9]] [1] d_ [fun _=>(Zb c),fun _=>(Za s.now),fun _=>lv,fun _=>(Za k),fun _=>(j7 5 lv k 0),fun _=>(j7 5 lv k 4),fun _=>(.int .u8 el.af),fun _=>(.int .u8 (el.af%4)),fun _=>(Za (el.af%4)),fun _=>(Za (s.now+(el.af%4))),fun _=>(Za (s.now+(el.af%4)))] [(fun _=>(Fl cG c s d),fun _ _=>True),(fun _=>(Fl cG c s d),fun _ _=>True)] () _ rfl hst3 (fun _ _=>trivial) ?_ f_ rfl ?_
     . skip
       refine gC (fun _ _=>iD (v:=(Zb c)) rfl) ?_
       refine kg rfl rfl rfl rfl (fun _ wq hM hF=>kC rfl rfl (iX rfl aad) (Xl cG c s wq (yd hM (i:=0) rfl)) (fun _ _ hz=>by obtain⟨rfl,ht1⟩:=hz;exact⟨(),⟨(yt 0 hM ht1),trivial⟩,rfl,jR.refl _ _ _⟩)) (gC (fun _ _=>iD (v:=lv) rfl) ?_)
       refine gC (fun _ _=>iD (v:=(Za k)) rfl) ?_
       refine gC (fun _ _=>jU (k:=k) (i:=(k:Int)) rfl rfl xe yQ hl o_ o_ hel) ?_
       refine gC (fun _ _=>qu (off:=0) (off' := 4) rfl Az rfl FA rfl hl hel) ?_
       refine nZ rfl rfl rfl rfl rfl (fun _ wq hM hF=>qv rfl rfl (mA (u:=(.int .u8 el.af)) rfl vm rfl (oC hM s_ d_ hl) hel rfl)) (fun _ wq hM hF=>qv rfl rfl (mA (u:=(.int .u8 el.af)) rfl vm rfl (oC hM s_ d_ hl) hel rfl)) (gC (fun _ _=>Bu (a:=el.af) (b:=4) (e:=el.af%4) rfl rfl d_ (EC hmaf.1)) ?_)
       refine gC (fun _ _=>yW (a:=el.af%4) (e:=el.af%4) rfl vm tM (iV o_)) ?_
       refine gC (fun _ _=>kG rfl rfl rfl (iV o_)) ?_
       refine gC (fun _ _=>tB (v:=(Za (s.now+(el.af%4)))) rfl) ?_
       exact og
     rintro-t f -
     refine oZ tt none f 6 ?_
     refine jj (k:=k) (i:=(k:Int)) rfl rfl rfl xe yQ hl o_ o_ hel (vH (off:=0) (off' := 0) rfl rfl Az rfl qM rfl hl hel (kE rfl rfl ny rfl (oC f s_ d_ hl) hel rfl (gX f 2 ?_)))
     cases H:(el.wa:Bool)
     . skip
       refine p8 f 3 ?_
       refine jD f 23 ?_ (hA:=by refine' gN 3 ?k0;case k0=>refine' gw (fun wq hM=>rv (jU (v:=lv) (k:=k) (i:=(k:Int)) rfl rfl xe yQ hl o_ o_ hel)) ?k1;case k1=>refine' gw (fun wq hM=>rv (qu (off:=0) (off' := 1) rfl Az rfl FA rfl hl hel)) ?k2;case k2=>refine' gw (fun wq hM=>rv (mA (u:=(.int .u8 el.u)) rfl vm rfl (oC hM s_ d_ hl) hel rfl)) ?k3;case k3=>refine' gw (fun wq hM=>rv (Bu (a:=el.u) (b:=12) (e:=el.u%12) rfl rfl d_ (EC hmu.1))) ?k4;case k4=>refine' gw (fun wq hM=>rv (yW (a:=el.u%12) (e:=el.u%12) rfl vm yg (uV o_))) ?k5;case k5=>refine' gN 2 ?k6;case k6=>refine' gw (fun wq hM=>rv (jU (v:=lv) (k:=k) (i:=(k:Int)) rfl rfl xe yQ hl o_ o_ hel)) ?k7;case k7=>refine' gw (fun wq hM=>rv (qu (off:=0) (off' := 2) rfl Az rfl FA rfl hl hel)) ?k8;case k8=>refine' gw (fun wq hM=>rv (mA (u:=(.int .u8 el.v)) rfl vm rfl (oC hM s_ d_ hl) hel rfl)) ?k9;case k9=>refine' gw (fun wq hM=>rv (Bu (a:=el.v) (b:=12) (e:=el.v%12) rfl rfl d_ (EC hmv.1))) ?k10;case k10=>refine' gw (fun wq hM=>rv (yW (a:=el.v%12) (e:=el.v%12) rfl vm yg (uV o_))) ?k11;case k11=>refine' gN 2 ?k12;case k12=>refine' gw (fun wq hM=>rv (jU (v:=lv) (k:=k) (i:=(k:Int)) rfl rfl xe yQ hl o_ o_ hel)) ?k13;case k13=>refine' gw (fun wq hM=>rv (qu (off:=0) (off' := 3) rfl Az rfl P7 rfl hl hel)) ?k14;case k14=>refine' gw (fun wq hM=>rv (mA (u:=(.int .i8 el.wt)) rfl Tryz.underlying53 rfl (oC hM s_ d_ hl) hel rfl)) ?k15;case k15=>refine' gw (fun wq hM=>rv (yW (a:=el.wt) (e:=el.wt) rfl Tryz.underlying53 tM (iV o_))) ?k16;case k16=>refine' gN 1 ?k17;case k17=>refine' gw (fun wq hM=>rv (uI (pvs:=[(0,(Zd (el.u%12))),(1,(Zd (el.v%12))),(2,(Za el.wt)),(3,(Za (s.now+(el.af%4))))]) (v:=.agg #[(Zd (el.u%12)),(Zd (el.v%12)),(Za el.wt),(Za (s.now+(el.af%4)))]) rfl (kV [(0,(Zt (el.u%12))),(1,(Zt (el.v%12))),(2,(Zf el.wt)),(3,(Zf (s.now+(el.af%4))))] rm aaH rfl ⟨rfl,rfl,rfl,rfl,rfl,rfl,rfl,rfl,trivial⟩ rfl))) ?k18;case k18=>exact iT)
       intro wq hM
       refine kC rfl rfl (iX rfl aap) (Xn cG c s wq (yd hM (i:=0) rfl) (el.mv.BD s.now) hrok (by show s.now<=s.now+el.af%4;omega) (by show s.now+el.af%4<=1000000;omega) o_) ?_
       rintro _ _ ⟨I,y,rfl,hF1,ht1⟩
       refine jC (yt 0 hM (ht1.oQ hF1)) (fun J n=>?_)
       have z:=nL n
       have o:=jV n
       refine jE tt none o 7 ?_
       refine tN (?_)
       exact again ((k+1),y) ⟨rfl,rfl,rfl,gJ (by first|rfl|omega),trivial⟩ (⟨o,hS.next z (by show s.now+el.af%4<=s.now+3;omega) (by show 0<=el.u%12/\el.u%12<12;omega) (by show 0<=el.v%12/\el.v%12<12;omega),o_,o_⟩) (by show (60-(k+1):Nat)<60-k;omega)
     . skip
       refine gh f 6 ?_
       refine cl OU (Mn cG c s t (yd f (i:=0) rfl) (s.now+el.af%4) o_ o_) ?_
       rintro _ K ⟨A,rfl,j,ht⟩
       have p:=yt 0 f ht
       refine gf p 15 ?_
       refine tN (?_)
       exact again ((k+1),A) ⟨rfl,rfl,rfl,gJ (by first|rfl|omega),trivial⟩ (⟨p,hS.tick j.1 o_ j.2.1 j.2.2.1,o_,o_⟩) (by show (60-(k+1):Nat)<60-k;omega)
   . refine gf hst3 20 ?_
     refine yT (v:=(Zb c)) (v' := (Zb d)) (v'' := Zl) Tryz.results4 rfl rfl rfl ?_
     exact⟨c,d,s,rfl,St.eM (yc [_,_] _ hst3)⟩
 . refine gf hst3 23 ?_
   refine yT (v:=(Zb c)) (v' := (Zb d)) (v'' := Zl) Tryz.results4 rfl rfl rfl ?_
   exact⟨c,d,s,rfl,St.eM (yc [_,_] _ hst3)⟩
end
section
open Go Go.Sx
theorem VI{w w' : World}{p:Nat×List Value}(h:Go.Ex.uE w p)(hc:gD [] w w'):Go.Ex.uE w' p:=by
 obtain⟨h1,h2,h3,h4⟩:=h
 refine⟨h1,h2,h3,fun j u hu=>?_⟩
 have hx:=h4 j u hu
 have hb:=World.block_lt_of_cell? w _ hx
 rw[<-hx]
 exact World.cell?_of_block (hc.block _ hb s_)
theorem Lh(lv:Value)(xs:List Mw)(w:World)(hl:jx 5 Mw.cells (fun _=>True) w lv xs)(hxs:∀ x∈xs,x.mv.ok)(hg:∀ p∈Em,Go.Ex.uE w p) :
 CR ya 3 #[lv] w (fun r w' => r = .bool true/\gD [] w w'):=by
 refine en Tryz.func3 Tryz.ntmps3 ?_
 have hst0:=jB w
 refine gh hst0 8 ?_
 refine cl aaP (Ug lv xs w hl hxs) ?_
 rintro _ D ⟨g,q,n,rfl,ht⟩
 have s:=j8 (ou hst0 ht)
 have E:=ym [1,0] s
 have t:=yc [_,_] _ E
 refine fP s 22 ?_
 refine cl aaN (Vq cG q g n D (yd t (i:=0) rfl) d_) ?_
 rintro _ G ⟨c,y,Y,f,d,a,rfl,o,ht⟩
 have H:=j8 (yt 0 t ht)
 have h:=j8 H
 have hGI:=o.1
 have hGL:=o.2.1
 have hGP:=o.2.2
 have hww:=Bg (yd h (i:=1) rfl)
 have hGl:d.length<=40:=hGL.len hww.2.1
 have hGk:f.length<=10:=hGI.len hww.2.1 hww.2.2
 have hGe:=hGP.len
 refine fP h 10 ?_
 refine cl P3 (Mk cG g n G (yd h (i:=1) rfl)) ?_
 rintro _ I ⟨z,Z,rfl,J,ht⟩
 have K:=ym [1,0,2,3] h
 have L:=j8 (yt 0 K ht)
 have hlu:=fW.nt.uniq J hGL
 have j:=L
 rw[hlu]at j
 refine fP j 8 ?_
 refine cl Qa (M8 cG g n I (yd j (i:=0) rfl) d_) ?_
 rintro _ M ⟨N,aa,rfl,O,ht⟩
 have P:=j8 (yt 0 j ht)
 have hku:=fW.qF.uniq O hGI
 have l:=P
 rw[hku]at l
 refine cl aaG (XN c N f M (Sl.any (ye l (i:=4) rfl f_)) (Sl.any (ye l (i:=1) rfl f_)) o_) ?_
 rintro _ Q ⟨rfl,R⟩
 have e:=y8 l R
 refine fP e 3 ?_
 refine kZ (m:=a.length) 5 rfl rfl BY e rfl (fP e 1 ?_)
 refine kZ (m:=d.length) 2 rfl rfl y9 e rfl (cmp rfl rfl rfl (n9 o_) (fP e 3 ?_))
 refine cl aaJ (Su q g Q (yd e (i:=3) rfl)) ?_
 rintro _ ab ⟨rfl,ht⟩
 have A:=yt 3 e ht
 have S:=ym [4,5,2] A
 refine gX A 14 ?_
 refine lp (α:=Nat) (fun i=>[(6,c),(7,y),(8,z),(9,(Za i))]) (fun i w1=>St [(w,[])] [fV gW c 34 1 f,fV Ge.cells y 38 3 a,fV Lv.cells z 42 7 d] w1/\i<=a.length) (fun i=>a.length-i) 0 ⟨rfl,rfl,rfl,gJ (by first|rfl|omega),trivial⟩ (⟨S,o_⟩) ?_
 rintro i ac U ⟨hst3,hi⟩
 refine gh hst3 5 ?_
 refine kZ (m:=a.length) 1 rfl rfl BY hst3 rfl ?_
 by_cases ad:((i:Int):Int)<((a.length:Int):Int)
 . have hiL:i<d.length:=by omega
   have hE:=hGP.fst i hiL
   have hE1:=hE.ul
   have hE2:=hE.vl
   refine fP hst3 12 ?_
   refine jj (cf:=Ge.cells) (k:=i) (i:=(i:Int)) rfl rfl rfl BY wu (ye hst3 (i:=1) rfl f_) o_ o_ (gy om) (By (cf:=Ge.cells) (cs:=[(Za ((fM a i).u:Int)),(Za ((fM a i).v:Int)),(Za ((fM a i).w))]) rfl rfl Tryz.underlying38 rfl wu (ye hst3 (i:=1) rfl f_) (gy om) rfl rfl (al (cs:=[Zc,Zc,Zc]) rfl wu rfl hst3 (fun ae af ag ah V=>vp V 4 fun ai b=>?_)))
   refine kS b (fun aj B=>?_) (hA:=by refine' gN 2 ?k0;case k0=>refine' gw (fun wq hM=>rv (mz rfl rfl (nE o_))) ?k1;case k1=>refine' gN 3 ?k2;case k2=>refine' gw (fun wq hM=>rv (mz rfl rfl (nE o_))) ?k3;case k3=>refine' gN 5 ?k4;case k4=>refine' gw (fun wq hM=>rv (nU (v:=c) rfl yp (ye (cf:=gW) b (i:=1) rfl f_))) ?k5;case k5=>refine' gw (fun wq hM=>rv (mz rfl rfl (uH o_))) ?k6;case k6=>refine' gN 5 ?k7;case k7=>refine' gw (fun wq hM=>rv (nU (v:=c) rfl yp (ye (cf:=gW) b (i:=1) rfl f_))) ?k8;case k8=>refine' gw (fun wq hM=>rv (mz rfl rfl (uH o_))) ?k9;case k9=>refine' gN 5 ?k10;case k10=>refine' gw (fun wq hM=>rv (jU (v:=c) (cf:=gW) (k:=((fM a i).u)) (i:=((fM a i).u:Int)) rfl rfl yp iK (ye b (i:=1) rfl f_) o_ o_ (gy om))) ?k11;case k11=>refine' gw (fun wq hM=>rv (mA (cf:=gW) (u:=(Zd (fM f ((fM a i).u)))) rfl yg rfl (ye hM (i:=1) rfl f_) (gy om) rfl)) ?k12;case k12=>refine' gN 3 ?k13;case k13=>refine' gw (fun wq hM=>rv (qu (cf:=Lv.cells) (off:=0) (off' := 2) rfl oW rfl rm rfl (ye b (i:=3) rfl f_) (gy om))) ?k14;case k14=>refine' gw (fun wq hM=>rv (qu (cf:=Lv.cells) (off:=2) (off' := 2) rfl ry rfl iK rfl (ye b (i:=3) rfl f_) (gy om))) ?k15;case k15=>refine' gw (fun wq hM=>rv (mA (cf:=Lv.cells) (u:=(Zd ((fM d i).u))) rfl yg rfl (ye hM (i:=3) rfl f_) (gy om) rfl)) ?k16;case k16=>refine' gw (fun wq hM=>rv (mz rfl rfl (n9 hE.u))) ?k17;case k17=>refine' gN 5 ?k18;case k18=>refine' gw (fun wq hM=>rv (jU (v:=c) (cf:=gW) (k:=((fM a i).v)) (i:=((fM a i).v:Int)) rfl rfl yp iK (ye b (i:=1) rfl f_) o_ o_ (gy om))) ?k19;case k19=>refine' gw (fun wq hM=>rv (mA (cf:=gW) (u:=(Zd (fM f ((fM a i).v)))) rfl yg rfl (ye hM (i:=1) rfl f_) (gy om) rfl)) ?k20;case k20=>refine' gN 3 ?k21;case k21=>refine' gw (fun wq hM=>rv (qu (cf:=Lv.cells) (off:=0) (off' := 2) rfl oW rfl rm rfl (ye b (i:=3) rfl f_) (gy om))) ?k22;case k22=>refine' gw (fun wq hM=>rv (qu (cf:=Lv.cells) (off:=2) (off' := 3) rfl ry rfl iK rfl (ye b (i:=3) rfl f_) (gy om))) ?k23;case k23=>refine' gw (fun wq hM=>rv (mA (cf:=Lv.cells) (u:=(Zd ((fM d i).v))) rfl yg rfl (ye hM (i:=3) rfl f_) (gy om) rfl)) ?k24;case k24=>refine' gw (fun wq hM=>rv (mz rfl rfl (n9 hE.v))) ?k25;case k25=>refine' gN 7 ?k26;case k26=>refine' gw (fun wq hM=>rv (qu (cf:=Lv.cells) (off:=0) (off' := 2) rfl oW rfl rm rfl (ye b (i:=3) rfl f_) (gy om))) ?k27;case k27=>refine' gw (fun wq hM=>rv (qu (cf:=Lv.cells) (off:=2) (off' := 4) rfl ry rfl ti2 rfl (ye b (i:=3) rfl f_) (gy om))) ?k28;case k28=>refine' gw (fun wq hM=>rv (mA (cf:=Lv.cells) (u:=(Za ((fM d i).wt))) rfl tM rfl (ye hM (i:=3) rfl f_) (gy om) rfl)) ?k29;case k29=>refine' gw (fun wq hM=>rv (mz rfl rfl (n9 hE.w))) ?k30;case k30=>exact iT)
   refine jE tt none B 10 ?_
   refine tN (?_)
   have W:=ym [1,2,3] B
   exact again (i+1) ⟨rfl,rfl,rfl,gJ (by first|rfl|omega),trivial⟩ (⟨W,o_⟩) (by show (a.length-(i+1):Nat)<a.length-i;omega)
 . refine fP hst3 11 ?_
   refine cl aas (TA U (fun p hp=>VI (hg p hp) (hst3.gI s_))) ?_
   rintro _ ak ⟨rfl,X⟩
   have C:=y8 hst3 X
   refine gf C 4 ?_
   refine gF (v:=Zl) Tryz.results3 rfl ?_
   exact⟨rfl,C.gI s_⟩
end
end Go.Proofs.YtjhkmopeagfnlaaGreatDoor
