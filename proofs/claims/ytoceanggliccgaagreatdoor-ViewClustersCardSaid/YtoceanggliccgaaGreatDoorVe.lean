/- What the functions that the statements reach do: walks through the code of the program and of the references, one theorem a function; under what is said of its arguments. -/
import Derived.Test.YtoceanggliccgaaGreatDoorFb
import Derived.Test.YtoceanggliccgaaGreatDoorVa
import Derived.Test.YtoceanggliccgaaGreatDoorFd
import Derived.Test.YtoceanggliccgaaGreatDoorVd
import Derived.Test.YtoceanggliccgaaGreatDoorVb
import Derived.Test.YtoceanggliccgaaGreatDoorFc
import Derived.Ground.SlmcProg
import Derived.Shelf.SlMaps.Clone
import Derived.Test.YtoceanggliccgaaGreatDoorVc
import Derived.Test.YtoceanggliccgaaGreatDoorFa
import Derived.Ground.SlsfProg
import Derived.Shelf.SlSortCmp.NoneTotal
import Derived.Test.YtoceanggliccgaaGreatDoorProg
set_option linter.unusedVariables false
set_option linter.unusedSimpArgs false
set_option maxRecDepth 100000
set_option maxHeartbeats 4000000
namespace Go.Proofs.YtoceanggliccgaaGreatDoor
section
open Go Go.Sx
theorem aaX(n:Nat)(w:World)(a:n<=65536) :
 CR ya 174 (Z8 n) w (fun r w' => ∃ fb nb,r = .tuple (Zy fb)/\fZ (gj []) w w' (kB fb nb (n+1))) :=
 CR.mono (aaG n w a) fun r w' ⟨fb,nb,e,b⟩=>⟨fb,nb,e,agO (ed:=0) (xs:=mE n n) (by simpa using b) (qn n n) (Q2 o_) (abO o_)⟩
theorem Y6(fO fM:Nat)(w:World)(J:2<=fO)(hv:fO<=4096)(K:fM<=16384) :
 CR ya 110 (Zx fO fM) w (fun r w' => ∃ (ob:Nat) (s:GW),r = .tuple (Zy ob)/\fZ (gj []) w w' (GW.R fO fM ob s)):=by
 refine en Tryz.func110 Tryz.ntmps110 ?_
 have F:=yt w
 refine fS F 10 ?_
 refine cmp rfl rfl rfl (kV o_) (fK F 2 ?_)
 refine cmp rfl rfl rfl (pJ o_) (fK F 3 ?_)
 refine cmp rfl rfl rfl (kV o_) (fK F 3 ?_)
 refine cmp rfl rfl rfl (pJ o_) (fK F 10 ?_)
 refine ar (e:=((fM+fO:Nat):Int)) rfl rfl rfl rfl iT (cl W2 (aaX (fM+fO) w o_) ?_)
 rintro _ q ⟨a,d,rfl,I⟩
 have g:=(jJ F I)
 refine gF g 25 ?_
 refine lp (α:=Nat) (fun k=>[(0,(Za fO)),(1,(Za fM)),(4,Zt),(5,Zc),(6,(Zb a)),(7,Zc),(34,(Za fO)),(35,(Za ((k:Nat):Int)))]) (fun k w1=>St [(w,[])] [(kB a d (fM+fO+1))] w1/\k<=fO) (fun k=>fO-k) 0 ⟨rfl,rfl,rfl,rfl,rfl,rfl,rfl,gm rO,trivial⟩ (⟨g,o_⟩) ?_
 rintro k t h ⟨H,L⟩
 refine fS H 2 ?_
 by_cases u:(((k:Nat):Int):Int)<((fO:Int):Int)
 . refine fK H 19 ?_
   refine ar (e:=((fM+k:Nat):Int)) rfl rfl rfl rfl iT (cl Ox (QB a d (fM+fO+1) h (ye H 0 rfl) o_ (fM+k) o_ 9223372036854775807 (kA d_)) ?_)
   rintro _ x ⟨rfl,I⟩
   have i:=ym 0 H I
   refine fQ i 7 ?_
   refine tN (?_)
   exact again (k+1) ⟨rfl,rfl,rfl,rfl,rfl,rfl,rfl,gm rO,trivial⟩ (⟨i,o_⟩) (by show (fO-(k+1):Nat)<fO-k;omega)
 . refine fK H 13 ?_
   refine cl Ow (RY fM h o_) ?_
   rintro _ y ⟨b,j,rfl,z,I⟩
   have f:=(jJ H I)
   refine fK f 22 ?_
   refine ja (pvs:=[(0,(Zb a))]) (v:=.agg (Zi a)) rfl rfl (jq [(0,(Zh a))] K7 acr rfl ⟨rfl,rfl,trivial⟩ rfl) (fK f 1 ?_)
   refine mkV Ed.enc .i64 rfl rfl f (fun c A B C n=>ja (pvs:=[(0,(Za fO)),(1,(Za fM)),(2,(.agg (Zi a))),(3,(Zb b)),(4,(.map (some c)))]) (v:=.agg #[(Za fO),(Za fM),(Zb a),(Zb b),(.map (some c)),Zc]) rfl rfl (jq [(0,(Ze fO)),(1,(Ze fM)),(2,(Zh a)),(3,(Zh b)),(4,[(.map (some c))])] Td acs rfl ⟨rfl,rfl,rfl,rfl,rfl,rfl,rfl,rfl,rfl,rfl,trivial⟩ rfl) (ij n (fun l D E G m=>?_)))
   refine fQ m 5 ?_
   refine iC (v:=(Zb l)) (v' := Zc) Tryz.results110 rfl rfl ?_
   have o:=yg [0,3,2,1] m
   exact⟨l,(⟨a,d,b,c,0,j,[]⟩:GW),rfl,uY (yr (p:=GW.ok fO fM (⟨a,d,b,c,0,j,[]⟩:GW)) (yc [_,_,_,_] _ o) ⟨J,hv,K,fun p hp=>by cases hp⟩) s_⟩
end
section
open Go Go.Sx
theorem aho(c:Cf)(w:World)(h1:1<=c.win)(h:1<=c.fM/\c.fM<=16384)(i:2<=c.fO/\c.fO<=4096)(j:0<=c.ki/\c.ki<=16384) :
 CR ya 106 (Me c.win c.fM c.fO c.ki) w (fun r w' => r = .bool true/\gx [] w w'):=by
 refine en Tryz.func106 Tryz.ntmps106 ?_
 have g:=yt w
 refine fS g 2 ?_
 refine ij g (fun b d e f a=>?_)
 refine fK a 7 ?_
 refine cmp rfl rfl rfl (nv o_) (fK a 3 ?_)
 refine cmp rfl rfl rfl (nv o_) (fK a 4 ?_)
 refine cmp rfl rfl rfl (vN o_) (fK a 4 ?_)
 refine cmp rfl rfl rfl (nv o_) (fK a 4 ?_)
 refine cmp rfl rfl rfl (vN o_) (fK a 4 ?_)
 refine cmp rfl rfl rfl (nv o_) (fK a 4 ?_)
 refine cmp rfl rfl rfl (vN o_) (fQ a 5 ?_)
 refine gq (v:=Zf) Tryz.results106 rfl ?_
 exact⟨rfl,a.gz s_⟩
end
section
open Go Go.Sx
theorem Uu(a b:Int)(w:World)(m:gX .i64 a)(hb:gX .i64 b) :
 CR ya 90 (Zx a b) w (fun r w' => r = .tuple (Zx ((qb a b).1) ((qb a b).2))/\gx [] w w'):=by
 have o := m.i64
 have p := hb.i64
 obtain⟨s,hs⟩:∃ s,s=IntKind.i64.wrap (a+b):=⟨_,rfl⟩
 have n:=hs
 rw[IntKind.wrap_i64]at n
 refine en Tryz.func90 Tryz.ntmps90 ?_
 have j:=yt w
 refine fS j 10 ?_
 refine ar (e:=s) rfl rfl rfl rfl hs.symm (fK j 7 ?_)
 by_cases d:(a:Int)<(0:Int)
 . refine fK j 2 ?_
   by_cases f:(b:Int)<(0:Int)
   . refine fK j 1 ?_
     refine EJ (c:=true) rfl rfl rfl mY rfl (fK j 2 ?_)
     by_cases g:(s:Int)<(0:Int)
     . refine fK j 3 ?_
       refine Fu (c:=false) rfl rfl rfl mY rfl (fQ j 14 ?_)
       refine iC (v:=(Za s)) (v' := Zc) Bp rfl rfl ?_
       have k:=zY (a:=a) (b:=b) o_
       have l:s=a+b:=by omega
       exact⟨by rw[k,l],j.gz s_⟩
     . refine fK j 3 ?_
       refine Fu (c:=true) rfl rfl rfl mY rfl (fQ j 12 ?_)
       refine iC (v:=Zc) (v' := (.int .i64 7)) Bp rfl rfl ?_
       have k:=M8 (a:=a) (b:=b) o_
       exact⟨by rw[k],j.gz s_⟩
   . refine fK j 1 ?_
     refine EJ (c:=false) rfl rfl rfl mY rfl (fQ j 20 ?_)
     refine iC (v:=(Za s)) (v' := Zc) Bp rfl rfl ?_
     have k:=zY (a:=a) (b:=b) o_
     have l:s=a+b:=by omega
     exact⟨by rw[k,l],j.gz s_⟩
 . refine fK j 2 ?_
   by_cases h:(b:Int)<(0:Int)
   . refine fK j 1 ?_
     refine EJ (c:=false) rfl rfl rfl mY rfl (fQ j 20 ?_)
     refine iC (v:=(Za s)) (v' := Zc) Bp rfl rfl ?_
     have k:=zY (a:=a) (b:=b) o_
     have l:s=a+b:=by omega
     exact⟨by rw[k,l],j.gz s_⟩
   . refine fK j 1 ?_
     refine EJ (c:=true) rfl rfl rfl mY rfl (fK j 2 ?_)
     by_cases i:(s:Int)<(0:Int)
     . refine fK j 3 ?_
       refine Fu (c:=true) rfl rfl rfl mY rfl (fQ j 12 ?_)
       refine iC (v:=Zc) (v' := (.int .i64 7)) Bp rfl rfl ?_
       have k:=M8 (a:=a) (b:=b) o_
       exact⟨by rw[k],j.gz s_⟩
     . refine fK j 3 ?_
       refine Fu (c:=false) rfl rfl rfl mY rfl (fQ j 14 ?_)
       refine iC (v:=(Za s)) (v' := Zc) Bp rfl rfl ?_
       have k:=zY (a:=a) (b:=b) o_
       have l:s=a+b:=by omega
       exact⟨by rw[k,l],j.gz s_⟩
theorem Na(win t:Int)(w:World)(f:gX .i64 win)(e:gX .i64 t) :
 CR ya 121 (Zx win t) w (fun r w' => r = .tuple (Zx ((qb t win).1) ((qb t win).2))/\gx [] w w'):=by
 refine en Tryz.func121 Tryz.ntmps121 ?_
 have d:=yt w
 refine fS d 10 ?_
 refine cl Yk (Uu t win w e f) ?_
 rintro _ c ⟨rfl,b⟩
 have a:=yq d b
 refine fQ a 7 ?_
 refine iC (v:=(Za ((qb t win).1))) (v' := (Za ((qb t win).2))) Tryz.results121 rfl rfl ?_
 exact⟨rfl,a.gz s_⟩
theorem Ii(cb:Nat)(win now:Int)(w:World)(d:Own (Zv cb win now) w)(h1:1<=win)(e:gX .i64 win) :
 CR ya 111 (Zi cb) w (fun r w' => r = .bool true/\fZ (Zv cb win now) w w' (Zv cb win now)):=by
 refine en Tryz.func111 Tryz.ntmps111 ?_
 have b:=yp d
 refine fS b 8 ?_
 refine lS (a:=some ⟨cb,0,none⟩) (c:=true) rfl rfl rfl Tryz.underlying108 rfl (fK b 5 ?_)
 refine cmp rfl rfl rfl (nv o_) (fQ b 5 ?_)
 refine gq (v:=Zf) Tryz.results111 rfl ?_
 exact⟨rfl,yj b⟩
theorem VN(cb:Nat)(win now:Int)(w:World)(d:Own (Zv cb win now) w)(h1:1<=win)(f:gX .i64 win) :
 CR ya 61 (Zi cb) w (fun r w' => r = .int .i64 now/\fZ (Zv cb win now) w w' (Zv cb win now)):=by
 refine en Tryz.func61 Tryz.ntmps61 ?_
 have c:=yp d
 refine fS c 9 ?_
 refine cl Is (Ii cb win now w (ye c 0 rfl) h1 f) ?_
 rintro _ b ⟨rfl,e⟩
 have a:=ym 0 c e
 refine fQ a 16 ?_
 refine gq (v:=(Za now)) Tryz.results61 rfl ?_
 exact⟨rfl,yj a⟩
theorem Nw(cb:Nat)(win now:Int)(w:World)(i:Own (Zv cb win now) w)(h1:1<=win)(h:gX .i64 win)(t:Int)(k:gX .i64 t) :
 CR ya 66 (Zm cb t) w (fun r w' => r = .int .i64 (rI win now t)/\fZ (Zv cb win now) w w' (Zv cb win now)):=by
 refine en Tryz.func66 Tryz.ntmps66 ?_
 have g:=yp i
 refine fS g 9 ?_
 refine cl Is (Ii cb win now w (ye g 0 rfl) h1 h) ?_
 rintro _ c ⟨rfl,j⟩
 have a:=ym 0 g j
 refine fK a 14 ?_
 by_cases e:(t:Int)<(now:Int)
 . refine fQ a 11 ?_
   refine gq (v:=xw) Tryz.results66 rfl ?_
   exact⟨gm (by unfold rI;rw[if_pos (by assumption)]),yj a⟩
 . refine fK a 13 ?_
   refine cl Oi (Na win t c h k) ?_
   rintro _ f ⟨rfl,d⟩
   have b:=yq a d
   refine fQ b 14 ?_
   refine gq (v:=(Za ((qb t win).2))) Tryz.results66 rfl ?_
   exact⟨gm (by unfold rI;rw[if_neg (by assumption)]),yj b⟩
theorem Vb(cb:Nat)(win now:Int)(w:World)(h:Own (Zv cb win now) w)(h1:1<=win)(g:gX .i64 win)(t:Int)(j:gX .i64 t) :
 CR ya 126 (Zm cb t) w (fun r w' => r = .tuple (Zx ((qb t win).1) ((qb t win).2))/\fZ (Zv cb win now) w w' (Zv cb win now)):=by
 refine en Tryz.func126 Tryz.ntmps126 ?_
 have f:=yp h
 refine fS f 10 ?_
 refine cl Is (Ii cb win now w (ye f 0 rfl) h1 g) ?_
 rintro _ c ⟨rfl,i⟩
 have a:=ym 0 f i
 refine fK a 13 ?_
 refine cl Oi (Na win t c g j) ?_
 rintro _ e ⟨rfl,d⟩
 have b:=yq a d
 refine fQ b 7 ?_
 refine iC (v:=(Za ((qb t win).1))) (v' := (Za ((qb t win).2))) Tryz.results126 rfl rfl ?_
 exact⟨rfl,yj b⟩
theorem U4(cb:Nat)(win now:Int)(w:World)(h:Own (Zv cb win now) w)(h1:1<=win)(k:gX .i64 win)(t:Int)(j:gX .i64 t) :
 CR ya 62 (Zm cb t) w (fun r w' => r = .int .i64 (rI win now t)/\fZ (Zv cb win now) w w' (Zv cb win (if rI win now t=0 then t else now))):=by
 refine en Tryz.func62 Tryz.ntmps62 ?_
 have g:=yp h
 refine fS g 9 ?_
 refine cl O8 (Nw cb win now w (ye g 0 rfl) h1 k t j) ?_
 rintro _ c ⟨rfl,i⟩
 have a:=ym 0 g i
 refine fK a 7 ?_
 by_cases d:(rI win now t:Int)=(0:Int)
 . refine jZ a 19 fun e b=>?_
   refine gq (v:=(Za (rI win now t))) Tryz.results62 rfl ?_
   have f:(if rI win now t=0 then t else now)=t:=if_pos (by assumption)
   refine⟨rfl,?_⟩
   rw[f]
   exact yj b
 . refine fQ a 13 ?_
   refine gq (v:=(Za (rI win now t))) Tryz.results62 rfl ?_
   have f:(if rI win now t=0 then t else now)=now:=if_neg (by assumption)
   refine⟨rfl,?_⟩
   rw[f]
   exact yj a
theorem VM(win:Int)(w:World)(h1:1<=win) :
 CR ya 107 (Z8 win) w (fun r w' => ∃ cb,r = .tuple (Zy cb)/\fZ (gj []) w w' (blk cb 221 [(Za win),Zc])):=by
 refine en Tryz.func107 Tryz.ntmps107 ?_
 have f:=yt w
 refine fS f 10 ?_
 refine cmp rfl rfl rfl (kV o_) (fK f 8 ?_)
 refine ja (pvs:=[(0,(Za win))]) (v:=.agg (xl win)) rfl rfl (jq [(0,(Ze win))] S9 acq rfl ⟨rfl,rfl,trivial⟩ rfl) (ij f (fun a c d e b=>?_))
 refine fQ b 5 ?_
 refine iC (v:=(Zb a)) (v' := Zc) Tryz.results107 rfl rfl ?_
 exact⟨a,rfl,nV b⟩
end
section
open Go Go.Sx
def WW.R(c:WC)(a:Nat)(s:WW):fU:=j7 (s.ok c) (gj [blk a 113 (tq c.win c.fM c.fO c.ki s),(uh s c.win),(fW.R c.fO c.fM s.ub s.u),(QS.SR s.sb s.hb c.fM s.q),(GW.R c.fO c.fM s.ob s.g)])
abbrev rC(a:Nat) b c (d:Nat) e:=(gj [blk a 89 b,WW.R c d e]:fU)
abbrev D5 a (b:Nat) c d e f g h i:=([WW.R a b c,fL gW d 40 1 e,fL Ge.cells f 91 3 g,fL Lv.cells h 59 7 i]:List fU)
abbrev ME(a:Nat)(b:Lv) c (d:Nat) e f g h i j k:=([blk a 59 (Z9 b),WW.R c d e,fL gW f 40 1 g,fL Ge.cells h 91 3 i,fL Lv.cells j 59 7 k]:List fU)
abbrev Mm a (b:Nat) c (d:Nat):=([WW.R a b c,blk d 89 (DT b)]:List fU)
abbrev L4 a (b:Nat) c (d:Nat):=(gj (Mm a b c d):fU)
abbrev uq(a b:Nat) c d:=(gj [blk a 89 (DT b),WW.R c b d]:fU)
abbrev Mz(a b:Nat) c d e:=(gj [blk a 89 (DT b),WW.R c b d,e]:fU)
theorem wQ(c:WC)(d:Nat)(s:WW)(w:World)(f:Own (WW.R c d s) w) :
 CR ya 45 (Zi d) w (fun r w' => r = .bool true/\fZ (WW.R c d s) w w' (WW.R c d s)):=by
 refine en Tryz.func45 Tryz.ntmps45 ?_
 have e:=Own.of f.un
 have b:s.ok c:=f.fact
 have g:=b.w1
 have h:=b.wi
 have i:=b.n0
 have j:=b.n1
 refine fS e 8 ?_
 refine lS (a:=some ⟨d,0,none⟩) (c:=true) rfl rfl rfl Bm rfl (fK e 5 ?_)
 refine lS (a:=some ⟨s.cb,0,none⟩) (c:=true) rfl rfl rfl Tryz.underlying108 rfl (fQ e 5 ?_)
 refine gq (v:=Zf) Tryz.results45 rfl ?_
 exact⟨rfl,yo (yr (p:=s.ok c) (yc [_,_,_,_,_] _ e) b) za⟩
theorem ahB(c:WC)(i:Nat)(s:WW)(w:World)(k:Own (WW.R c i s) w) :
 CR ya 27 (Zi i) w (fun r w' => r = .int .i64 s.now/\fZ (WW.R c i s) w w' (WW.R c i s)):=by
 refine en Tryz.func27 Tryz.ntmps27 ?_
 have l:=Own.of k.un
 have h:s.ok c:=k.fact
 have m:=h.w1
 have n:=h.wi
 have o:=h.n0
 have q:=h.n1
 have b:=yr (p:=s.ok c) (yc [_,_,_,_,_] _ l) h
 refine fS l 9 ?_
 refine cl vV (wQ c i s w (ye b 0 rfl)) ?_
 rintro _ e ⟨rfl,j⟩
 have f:=ym 0 b j
 have a:=(jP f).unpack
 refine fK a 12 ?_
 refine cl XZ (VN s.cb c.win s.now e (ye a 1 rfl) m (kA o_)) ?_
 rintro _ g ⟨rfl,j⟩
 have d:=ym 1 a j
 refine fQ d 4 ?_
 refine gq (v:=(Za s.now)) Tryz.results27 rfl ?_
 exact⟨rfl,yo (yr (p:=s.ok c) (yc [_,_,_,_,_] _ d) h) za⟩
end
section
open Go Go.Sx
end
end Go.Proofs.YtoceanggliccgaaGreatDoor
namespace Go.Proofs
open Go.Shelf Go.Lib Go.Sort Go.RowKit in
def Tryz.aaE:Go.Shelf.Ren:=⟨fun|5=>188|7=>238|n=>n,fun|23=>167|25=>40|3=>35|4=>4|20=>20|n=>n,fun|n=>n⟩
open Go.Shelf Go.Lib Go.Sort Go.RowKit in
theorem Tryz.aaD:Go.Proofs.SlLaysW.n5 Proofs.Tryz.prog Tryz.aaE where
 mixed:=by kernel_rfl
 f5:=⟨Proofs.Tryz.f188.name,by(decide),Proofs.Tryz.func188.trans (congrArg some<|by kernel_rfl)⟩
 f7:=Proofs.Tryz.func238.trans (congrArg some<|by kernel_rfl)
 t4:=Proofs.Tryz.underlying4
 a4:=Proofs.Tryz.isAgg4
 z4:=Proofs.Tryz.sizeOf4
 v4:=Proofs.Tryz.zeroValue4
 t20:=Proofs.Tryz.underlying20
 a20:=Proofs.Tryz.isAgg20
 z20:=Proofs.Tryz.sizeOf20
 v20:=Proofs.Tryz.zeroValue20
 t23:=Proofs.Tryz.underlying167
 a23:=Proofs.Tryz.isAgg167
 z23:=Proofs.Tryz.sizeOf167
 v23:=Proofs.Tryz.zeroValue167
end Go.Proofs
namespace Go.Proofs.YtoceanggliccgaaGreatDoor
section
open Go Go.Sx
theorem abe(b:Nat)(im:IM)(w:World)(c:Own (MC b im) w) :
 CR ya 188 #[.map (some b)] w (fun r w' => ∃ b2,r = .map (some b2)/\fZ (MC b im) w w' (gj [gM b .u64 p_ im,gM b2 .u64 p_ im])) :=
 Vs c fun es a h=>AnyW.maps_Clone Tryz.aaD b es a w h
theorem Vq(v:Value)(xs:List Lv)(w:World)(hv:iw 7 Lv.cells (fun _=>True) w v xs)(m:xs.length<=1000000) :
 CR ya 187 #[v] w (fun r w' => p5 7 Lv.cells w w' r 59 xs/\gx [] w w'):=by
 refine en Tryz.func187 Tryz.ntmps187 ?_
 have l:=yt w
 refine fS l 9 ?_
 refine Ci (v:=v) rfl rfl rfl r7 hv (gF l 2 ?_)
 cases e:(wo v:Bool)
 . skip
   refine fS l 5 ?_
   refine jL (vs:=[]) (cs:=[]) rfl rfl r7 nF rfl (by intro v hv;simp at hv) rfl rfl rfl l ?_
   intro f g h i c
   have d:=c
   refine fK c 1 ?_
   refine lF (cf:=Lv.cells) (ys:=[]) (zs:=xs) (LL:=fun a=>[fL Lv.cells a 59 7 xs]) 0 rfl rfl rfl r7 nF rfl d_ d rfl (iw.src (yw d s_ d_ hv) f_) (xH f_ _) (by simp only[zh];omega) (by simp only[zh];omega) f_ (fun a j b k=>fQ b 4 ?_)
   refine gq (v:=a) Tryz.results187 rfl ?_
   exact⟨Di b s_,b.gz s_⟩
 . skip
   refine iN l 8 ?_
   refine gq (v:=Zg) Tryz.results187 rfl ?_
   obtain rfl:=CI e hv
   exact⟨p5.CH, l.gz s_⟩
theorem agT(fO fM ub:Nat)(s:fW)(w:World)(F:Own (fW.R fO fM ub s) w) :
 CR ya 124 (Zi ub) w (fun r w' => ∃ (a0:Nat) (s2:fW),r = .pointer (some ⟨a0,0,none⟩)/\((∀ y,s2.has y↔s.has y)/\s2.last=s.last)/\fZ (fW.R fO fM ub s) w w' (gj [(fW.R fO fM ub s),(fW.R fO fM a0 s2)])):=by
 have bf:s.t.A.used<=s.t.A.n:=F.fact.tok.ul
 have ba:=F.fact.n
 have bb:=F.fact.tn
 have a9:=F.fact.en
 have bc:=F.fact.vn
 have a8:s.A.used<=s.A.begun:=by have h7:=F.fact.kU.used;omega
 have a7:=F.fact.kU.le
 have bd:s.live.length=s.A.begun:=F.fact.ll
 have a3:∀ id,(gh s.im id).2.length<=65536:=fun id=>F.fact.Jg id
 refine en Tryz.func124 Tryz.ntmps124 ?_
 have aZ:=Own.of F.un
 have hU:s.ok fO fM:=F.fact
 have K:=yr (p:=s.ok fO fM) (yc [_,_,_,_,_,_] _ aZ) hU
 refine fS aZ 9 ?_
 refine cl Ak (Bd fO fM ub s w (ye K 0 rfl)) ?_
 rintro _ aG ⟨rfl,ht⟩
 have X:=ym 0 K ht
 have L:=(jP X).unpack
 refine fK L 11 ?_
 refine iH L (fun h aH aI aJ M=>?_)
 refine jM 0 M (fun Y E=>?_) (h1:=(ia rfl (ia rfl (ia rfl (ia rfl (ia rfl (ia (yu M (i:=2) rfl) (ia rfl kT))))))))
 refine fK E 8 ?_
 refine cl Oz (TO s.jd s.aw Y (ye E 5 rfl)) ?_
 rintro _ aK ⟨d,j,rfl,Z,ht⟩
 have aa:=yg [5,0,1,2,3,4,6] E
 have ac:=yy (ym 0 aa ht)
 refine gJ ac 10 fun ad N=>?_
 refine cl W7 (aeU s.tb s.ab s.t ad (ye N 7 rfl)) ?_
 rintro _ aL ⟨e,l,m,rfl,O,ht⟩
 have ae:=yg [7,0,1,2,3,4,5,6] N
 have af:=yy (ym 0 ae ht)
 refine gJ af 10 fun ag P=>?_
 refine cl W8 (Vq s.lv s.live ag (y8 P 6 rfl).any (by first|omega|(simp;omega))) ?_
 rintro g ah hz
 have D:St _ [fL Lv.cells g 59 7 s.live,(xu s),(TW.R e l m),(xq s),(AW.R d j),blk h 169 [(Za fO),(Za fM),(Zn s.last),(Zb d),(Zb e),s.lv,(.map (some s.mb))],blk ub 169 (pg fO fM s (some s.mb)),fL Lv.cells s.lv 59 7 s.live,gM s.mb .u64 p_ s.im,jA 3 s.im] ah:=tQ P hz.2 hz.1
 refine fK D 1 ?_
 refine jM 5 D (fun ai G=>?_) (hvs:=(cells_one (yu D (i:=0) rfl))) (h1:=(ia (yu D (i:=0) rfl) kT))
 refine fK G 8 ?_
 refine cl W9 (abe s.mb s.im ai (ye G 8 rfl)) ?_
 rintro _ aM ⟨f,rfl,ht⟩
 have aj:=yg [8,0,1,2,3,4,5,6,7,9] G
 have Q:=yy (ym 0 aj ht)
 refine fK Q 1 ?_
 refine jM 7 Q (fun aN H=>?_)
 refine fK H 8 ?_
 refine ld rfl rfl yx rfl (kQ H 8 rfl rfl) (R7 (k:=.u64) (enc:=p_) (mm:=s.im) 0 rfl rfl yx H rfl ?_)
 intro u S U
 have ak:St _ [jA 3 [],lH s.mb u .u64 p_ s.im s.im none,gM f .u64 p_ s.im,fL Lv.cells g 59 7 s.live,(xu s),(TW.R e l m),(xq s),(AW.R d j),blk h 169 (Ef fO fM s.last d e g (some f)),blk ub 169 (pg fO fM s (some s.mb)),fL Lv.cells s.lv 59 7 s.live,jA 3 s.im] S:=St.IV U
 have al:St _ [jA 3 [],jA 3 [],lH s.mb u .u64 p_ s.im s.im none,gM f .u64 p_ s.im,fL Lv.cells g 59 7 s.live,(xu s),(TW.R e l m),(xq s),(AW.R d j),blk h 169 (Ef fO fM s.last d e g (some f)),blk ub 169 (pg fO fM s (some s.mb)),fL Lv.cells s.lv 59 7 s.live,jA 3 s.im] S:=St.IV ak
 have am:=yg [10,11,2,12,1,7,5,9,4,3,0,8,6] al
 refine gF U 3 ?_
 refine lp (α:=IM×IM×IM×IM×(Option (Int×(Value×List Nat)))) (fun(dn,td,aU,T,cur)=>[(3,(Zb h)),(40,(Zb u))]) (fun(dn,td,aU,T,cur) w1=>St [(w,(fW.R fO fM ub s).gG)] [blk ub 169 (pg fO fM s (some s.mb)),fL Lv.cells s.lv 59 7 s.live,lH s.mb u .u64 p_ s.im td cur,jA 3 td,jA 3 dn,(xq s),(xu s),blk h 169 (Ef fO fM s.last d e g (some f)),fL Lv.cells g 59 7 s.live,gM f .u64 p_ T,jA 3 aU,(AW.R d j),(TW.R e l m)] w1/\o5 s.im dn td aU T) (fun(dn,td,aU,T,cur)=>td.length) ([],s.im,[],s.im,none) ⟨rfl,rfl,trivial⟩ (⟨am,o5.start hU.keys⟩) ?_
 rintro⟨dn,td,aU,T,cur⟩ aO aP ⟨aW,aX⟩
 obtain⟨an,aQ⟩:∃ q,QE ya aW (i:=2) rfl=q:=⟨_,rfl⟩
 refine fS aW 2 ?_
 rcases an with ⟨V,ao⟩|⟨b,x,aR,z⟩
 . skip
   refine Fw rfl rfl (ao _) ?_
   have aS:=V
   refine fQ aW 16 ?_
   refine gq (v:=(Zb h)) Tryz.results124 rfl ?_
   have aV:=aX.fin hU.keys V
   have ap:=St.QD aW (i:=2) rfl
   have aq:=yg [4,0,1,2,3,5,6,7,8,9,10,11,12] ap
   have ar:=St.xG aq aV.1
   have au:=yg [10,0,1,2,3,4,5,6,7,8,9,11,12] ar
   have av:=St.xG au aV.2.1
   have I:=yg [2,3,4,1,6,7,8,9,10,0,11,12] av
   have a1:=(y0 I (i:=10) rfl:j.A.ok)
   have a2:=(y0 I (i:=11) rfl:m.ok)
   have aY:=hU.copy Z a1 a2 O.1 O.2.1 aV.2.2.1 aV.2.2.2 d e l f g
   have a4:=yr (p:=fW.ok fO fM s) (yc [_,_,_,_,_,_] _ I) hU
   have a5:St _ (gj [_,_,_,_,_,_] :: [(fW.R fO fM ub s)]) _:=yc [_,_,_,_,_,_] [(fW.R fO fM ub s)] (lN a4 (qB (l₁:=[_]) (l₂:=[_,_,_,_,_,_])))
   have a6:=lN (yr (p:=fW.ok fO fM (⟨d,e,l,f,g,s.last,j,m,s.live,T⟩:fW)) a5 aY.1) (List.Perm.swap _ _ _)
   exact⟨h,(⟨d,e,l,f,g,s.last,j,m,s.live,T⟩:fW),rfl,⟨aY.2,rfl⟩,yj (yc [_,_] _ a6)⟩
 . skip
   refine Fw rfl rfl (z.run _) ?_
   have ax:=z.st
   have ay:=yg [3,0,1,2,4,5,6,7,8,9,10,11,12] ax
   have B:=St.adC f_ (St.Pj (St.xG ay z.perm))
   have be:b.2.2.length<=65536:=by have h7:=a3 b.1;rw[aX.at hU.keys z.perm]at h7;exact h7
   refine fK B 10 ?_
   refine Oc (p:=b) 4 rfl rfl B rfl (fK B 3 ?_)
   refine sL (v:=b.2.1) rfl rfl (gF B 2 ?_)
   refine kY mixed [([0,1,2,3,4],[1])] [5] B (fun az C=>jO ?_)
   refine fK C 1 ?_
   refine ld rfl rfl yx rfl (kQ C 8 rfl rfl) (fK C 1 ?_)
   refine mv (v:=b.2.1) rfl rfl (cl Cg (B6 b.2.1 b.2.2 az (y8 C 0 rfl).any (by first|omega|(simp;omega))) ?_)
   rintro o aA hz
   have J:St _ (MQ o b.2.2 b.2.1 x ub fO fM s (some s.mb) (lH s.mb u .u64 p_ s.im x (some b)) dn h d e g (some f) f T aU j l m) aA:=tQ C hz.2 hz.1
   refine fQ J 1 ?_
   refine uU (lJ rfl (qW (kW rfl yx rfl (kQ J 9 rfl rfl)) rfl rfl) (trivial)) (kZ ?_)
   refine qm (a:=b.1) (c:=(o,b.2.2)) (mm:=T) (enc:=p_) (k:=.u64) (L' := (MQ o b.2.2 b.2.1 x ub fO fM s (some s.mb) (lH s.mb u .u64 p_ s.im x (some b)) dn h d e g (some f) f (gD T b.1 (o,b.2.2)) aU j l m)) 11 rfl rfl rfl rfl yx yk J rfl rfl (fun aT W=>fQ W 2 ?_)
   refine tN (?_)
   have aB:=yg [1,6,0,2,3,4,5,7,8,9,10,11,12,13,14] W
   have aC:=((St.Sg f_ aB).Ic (p:=b)).xG (qB (l₁:=[_]))
   have aD:=yg [1,11,0,2,3,4,5,6,7,8,9,10,12,13] aC
   have aE:=((St.Sg f_ aD).Ic (p:=(b.1,(o,b.2.2)))).xG (qB (l₁:=[_]))
   have aF:=yg [3,4,5,2,1,6,7,8,9,10,0,11,12] aE
   exact again ((dn++[b]),x,(aU++[(b.1,(o,b.2.2))]),(gD T b.1 (o,b.2.2)),(some b)) ⟨rfl,rfl,trivial⟩ (⟨aF,aX.next hU.keys z.perm o⟩) (by have h7:=z.perm.length_eq;rw[ze]at h7;show x.length<td.length;omega)
end
section
open Go Go.Sx
theorem YY:ya.eqGuardType ya.depth 210=false:=by kernel_rfl
theorem ahs(c:WC)(w:World)(w1:1<=c.win)(wi:c.win<=1000000)(e1:1<=c.fM)(en:c.fM<=16384)(v2:2<=c.fO)(vn:c.fO<=4096)(d0:0<=c.ki/\c.ki<=16384) :
 CR ya 59 #[(Eb c.win c.fM c.fO c.ki),tj] w (fun r w' => ∃ (wb:Nat) (s:WW),r = .tuple (Zy wb)/\(s.now=0/\s.added=0/\∀ y,¬ s.u.has y)/\fZ (gj []) w w' (WW.R c wb s)):=by
 refine enter Tryz.func59 rfl Tryz.ntmps59 rfl ?_
 have T:=yt w
 refine fS T 2 ?_
 refine ij T (fun W A X Y k=>?_)
 refine fK k 8 ?_
 refine cl Wr (aho ⟨c.win,(c.fM:Int),(c.fO:Int),c.ki⟩ A w1 (by show _/\_;dsimp only;omega) (by show _/\_;dsimp only;omega) d0) ?_
 rintro _ Z ⟨rfl,B⟩
 have l:=yq k B
 refine fK l 8 ?_
 refine iH l (fun aa ab ac ad m=>?_)
 refine fK m 7 ?_
 refine ja (pvs:=[(0,(Eb c.win c.fM c.fO c.ki)),(5,tj),(6,tj)]) (v:=.agg #[(Za c.win),(Za c.fM),(Za c.fO),(Za c.ki),Zt,Zt,Zt,Zt,tj,tj]) rfl rfl (jq [(0,(Hr c.win c.fM c.fO c.ki)),(5,BM),(6,BM)] S3 acj rfl ⟨rfl,rfl,rfl,rfl,rfl,rfl,trivial⟩ rfl) (ij m (fun n C ae af q=>?_))
 refine fK q 8 ?_
 refine cl Ws (VM c.win C w1) ?_
 rintro _ ag ⟨a,rfl,F⟩
 have D:=(jJ q F)
 refine gJ D 6 fun ah E=>?_
 refine jB (o:=0) (o' := 0) (i:=0) rfl rfl rfl yR yM d_ rfl (gJ E 11 fun G H=>?_)
 refine cl Wt (agW c.fO c.fM G vn en) ?_
 rintro _ ai ⟨b,t,rfl,d,F⟩
 have I:=(jJ H F)
 refine gJ I 6 fun aj J=>?_
 refine jB (o:=0) (o' := 1) (i:=1) rfl rfl rfl yR yM d_ rfl (gJ J 8 fun K L=>?_)
 refine cl Wu (aed c.fM K o_) ?_
 rintro _ ak ⟨e,f,x,rfl,M,F⟩
 have N:=(jJ L F)
 refine gJ N 6 fun al O=>?_
 refine jB (o:=0) (o' := 2) (i:=2) rfl rfl rfl yR yM d_ rfl (gJ O 10 fun P Q=>?_)
 refine cl Ww (Y6 c.fO c.fM P v2 vn en) ?_
 rintro _ am ⟨h,j,rfl,F⟩
 have S:=(jJ Q F)
 refine gJ S 6 fun an U=>?_
 refine jB (o:=0) (o' := 3) (i:=3) rfl rfl rfl yR yM d_ rfl (gJ U 7 fun ao z=>?_)
 refine ja (pvs:=[]) (v:=.agg #[Zc,Zc,Zc,Zc]) rfl rfl (ur [] S7 yR yM rfl trivial rfl s_) (abH (c:=false) rfl rfl rfl yR Tryz.underlying32 yM YY rfl (fQ z 13 ?_))
 refine iC (v:=(Zb n)) (v' := Zc) Tryz.results59 rfl rfl ?_
 have V:=yg [4,3,2,1,0] z
 have ap:=WW.tG w1 wi e1 en v2 vn (g:=j) d.1 d.2 M a b e f h
 exact⟨n,(⟨a,b,e,f,h,0,x,t,j,0,0⟩:WW),rfl,⟨rfl,rfl,d.1⟩,uY (yr (p:=WW.ok c (⟨a,b,e,f,h,0,x,t,j,0,0⟩:WW)) (yc [_,_,_,_,_] _ V) ap) s_⟩
theorem TY(c:WC)(w:World)(w1:1<=c.win)(wi:c.win<=1000000)(e1:1<=c.fM)(en:c.fM<=16384)(v2:2<=c.fO)(vn:c.fO<=4096)(n:0<=c.ki/\c.ki<=16384) :
 CR ya 25 (Me c.win c.fM c.fO c.ki) w (fun r w' => ∃ (m:Nat) (s:WW),r = .tuple (Zy m)/\(s.now=0/\s.added=0/\∀ y,¬ s.u.has y)/\fZ (gj []) w w' (WW.R c m s)):=by
 refine enter Tryz.func25 rfl Tryz.ntmps25 rfl ?_
 have l:=yt w
 refine fS l 2 ?_
 refine ij l (fun h e i j a=>?_)
 refine fK a 7 ?_
 refine cl XW (ahs c e w1 wi e1 en v2 vn n) ?_
 rintro _ k ⟨b,f,rfl,g,o⟩
 have d:=(jJ a o)
 refine fQ d 7 ?_
 refine iC (v:=(Zb b)) (v' := Zc) Tryz.results25 rfl rfl ?_
 exact⟨b,f,rfl,g,nV d⟩
end
section
open Go Go.Sx
end
end Go.Proofs.YtoceanggliccgaaGreatDoor
namespace Go.Proofs
open Go.Shelf Go.Lib Go.Sort Go.RowKit in
def Tryz.aen:Go.Shelf.Ren:=⟨fun|6=>93|15=>100|14=>155|28=>166|29=>167|20=>211|21=>212|22=>213|23=>214|24=>215|25=>216|26=>217|27=>218|46=>267|47=>220|48=>221|49=>268|50=>269|57=>288|n=>n,fun|22=>53|24=>59|25=>187|3=>3|39=>202|0=>0|53=>285|55=>40|4=>4|46=>279|45=>278|50=>137|5=>5|9=>9|66=>338|70=>341|76=>378|77=>206|n=>n,fun|n=>n⟩
open Go.Shelf Go.Lib Go.Sort Go.RowKit in
theorem Tryz.SG:Go.Proofs.SlLaysF0.n6 Proofs.Tryz.prog Tryz.aen where
 mixed:=by kernel_rfl
 f6:=⟨Proofs.Tryz.f93.name,by(decide),Proofs.Tryz.func93.trans (congrArg some<|by kernel_rfl)⟩
 f14:=⟨Proofs.Tryz.f155.name,by(decide),Proofs.Tryz.func155.trans (congrArg some<|by kernel_rfl)⟩
 f15:=Proofs.Tryz.func100.trans (congrArg some<|by kernel_rfl)
 f20:=⟨Proofs.Tryz.f211.name,by(decide),Proofs.Tryz.func211.trans (congrArg some<|by kernel_rfl)⟩
 f21:=⟨Proofs.Tryz.f212.name,by(decide),Proofs.Tryz.func212.trans (congrArg some<|by kernel_rfl)⟩
 f22:=⟨Proofs.Tryz.f213.name,by(decide),Proofs.Tryz.func213.trans (congrArg some<|by kernel_rfl)⟩
 f23:=⟨Proofs.Tryz.f214.name,by(decide),Proofs.Tryz.func214.trans (congrArg some<|by kernel_rfl)⟩
 f24:=⟨Proofs.Tryz.f215.name,by(decide),Proofs.Tryz.func215.trans (congrArg some<|by kernel_rfl)⟩
 f25:=⟨Proofs.Tryz.f216.name,by(decide),Proofs.Tryz.func216.trans (congrArg some<|by kernel_rfl)⟩
 f26:=⟨Proofs.Tryz.f217.name,by(decide),Proofs.Tryz.func217.trans (congrArg some<|by kernel_rfl)⟩
 f27:=⟨Proofs.Tryz.f218.name,by(decide),Proofs.Tryz.func218.trans (congrArg some<|by kernel_rfl)⟩
 f28:=Proofs.Tryz.func166.trans (congrArg some<|by kernel_rfl)
 f29:=Proofs.Tryz.func167.trans (congrArg some<|by kernel_rfl)
 f46:=⟨Proofs.Tryz.f267.name,by(decide),Proofs.Tryz.func267.trans (congrArg some<|by kernel_rfl)⟩
 f47:=Proofs.Tryz.func220.trans (congrArg some<|by kernel_rfl)
 f48:=Proofs.Tryz.func221.trans (congrArg some<|by kernel_rfl)
 f49:=⟨Proofs.Tryz.f268.name,by(decide),Proofs.Tryz.func268.trans (congrArg some<|by kernel_rfl)⟩
 f50:=⟨Proofs.Tryz.f269.name,by(decide),Proofs.Tryz.func269.trans (congrArg some<|by kernel_rfl)⟩
 f57:=⟨Proofs.Tryz.f288.name,by(decide),Proofs.Tryz.func288.trans (congrArg some<|by kernel_rfl)⟩
 t0:=Proofs.Tryz.underlying0
 a0:=Proofs.Tryz.isAgg0
 z0:=Proofs.Tryz.sizeOf0
 v0:=Proofs.Tryz.zeroValue0
 t3:=Proofs.Tryz.underlying3
 a3:=Proofs.Tryz.isAgg3
 z3:=Proofs.Tryz.sizeOf3
 v3:=Proofs.Tryz.zeroValue3
 t4:=Proofs.Tryz.underlying4
 a4:=Proofs.Tryz.isAgg4
 z4:=Proofs.Tryz.sizeOf4
 v4:=Proofs.Tryz.zeroValue4
 t5:=Proofs.Tryz.underlying5
 a5:=Proofs.Tryz.isAgg5
 z5:=Proofs.Tryz.sizeOf5
 v5:=Proofs.Tryz.zeroValue5
 t9:=Proofs.Tryz.underlying9
 a9:=Proofs.Tryz.isAgg9
 z9:=Proofs.Tryz.sizeOf9
 v9:=Proofs.Tryz.zeroValue9
 t22:=Proofs.Tryz.underlying53
 a22:=Proofs.Tryz.isAgg53
 z22:=Proofs.Tryz.sizeOf53
 v22:=Proofs.Tryz.zeroValue53
 t25:=Proofs.Tryz.underlying187
 a25:=Proofs.Tryz.isAgg187
 z25:=Proofs.Tryz.sizeOf187
 v25:=Proofs.Tryz.zeroValue187
 t39:=Proofs.Tryz.underlying202
 a39:=Proofs.Tryz.isAgg202
 z39:=Proofs.Tryz.sizeOf202
 v39:=Proofs.Tryz.zeroValue202
 t45:=Proofs.Tryz.underlying278
 a45:=Proofs.Tryz.isAgg278
 z45:=Proofs.Tryz.sizeOf278
 v45:=Proofs.Tryz.zeroValue278
 t46:=Proofs.Tryz.underlying279
 a46:=Proofs.Tryz.isAgg279
 z46:=Proofs.Tryz.sizeOf279
 v46:=Proofs.Tryz.zeroValue279
 t50:=Proofs.Tryz.underlying137
 a50:=Proofs.Tryz.isAgg137
 z50:=Proofs.Tryz.sizeOf137
 v50:=Proofs.Tryz.zeroValue137
 t53:=Proofs.Tryz.underlying285
 a53:=Proofs.Tryz.isAgg285
 z53:=Proofs.Tryz.sizeOf285
 v53:=Proofs.Tryz.zeroValue285
 t55:=Proofs.Tryz.underlying40
 a55:=Proofs.Tryz.isAgg40
 z55:=Proofs.Tryz.sizeOf40
 v55:=Proofs.Tryz.zeroValue40
 t66:=Proofs.Tryz.underlying338
 a66:=Proofs.Tryz.isAgg338
 z66:=Proofs.Tryz.sizeOf338
 v66:=Proofs.Tryz.zeroValue338
 t70:=Proofs.Tryz.underlying341
 a70:=Proofs.Tryz.isAgg341
 z70:=Proofs.Tryz.sizeOf341
 v70:=Proofs.Tryz.zeroValue341
 t76:=Proofs.Tryz.underlying378
 a76:=Proofs.Tryz.isAgg378
 z76:=Proofs.Tryz.sizeOf378
 v76:=Proofs.Tryz.zeroValue378
 t77:=Proofs.Tryz.underlying206
 a77:=Proofs.Tryz.isAgg206
 z77:=Proofs.Tryz.sizeOf206
 v77:=Proofs.Tryz.zeroValue206
end Go.Proofs
namespace Go.Proofs.YtoceanggliccgaaGreatDoor
section
open Go Go.Sx Go.Lib Go.Sort Go.RowKit
theorem abz(x:Int)(w:World):Calls ya 156 (xm x) w fun e w' => e = .returned Zp/\w' = w:=by
 go_enter Tryz.func156,Tryz.ntmps156
 go_wp2
 go_ret
 exact⟨s_,rfl⟩
theorem VH(x y:Int)(w:World):Calls ya 95 (vq x y) w fun e w' => e = .returned (Za (compareInt x y))/\w' = w:=by
 go_enter Tryz.func95,Tryz.ntmps95
 go_wp2_with (go_at_call 156;refine(abz _ _).mono ?_;rintro e w' ⟨rfl,a⟩;rw[a])
 all_goals (go_ret;refine⟨?_,rfl⟩;unfold compareInt;(repeat' split)<;>first|rfl|(exfalso;omega))
def yG(x y:Lv):Int:=compareInt x.seq y.seq
theorem Vt(x y:Lv)(W:World):Calls ya 94 #[.agg x.cells.toArray,.agg y.cells.toArray] W fun e w' => e = .returned (Za (yG x y))/\∃ q c, w' = grow (W.drewN q) c := by
 have a:=fun b => VH x.seq y.seq b
 unfold yG
 generalize compareInt x.seq y.seq=r at a ⊢
 obtain⟨d,f,g,h,i,j,k⟩:=x
 obtain⟨y1,y2,l,m,n,o,p⟩:=y
 simp only[Lv.cells]at a ⊢
 go_enter Tryz.func94,Tryz.ntmps94
 go_wp2_with (go_at_call 95;refine(a _).mono ?_;rintro e w' ⟨rfl,rfl⟩)
 go_ret
 exact⟨rfl,0,_,by rw[alloc_eq_grow,alloc_eq_grow,grow_grow];rfl⟩
theorem Ff(x y:Lv):ltOf yG x y=decide (x.seq<y.seq):=by
 unfold ltOf yG compareInt
 by_cases h1:x.seq<y.seq
 . simp[h1]
 . by_cases h2:y.seq<x.seq<;>simp[h1,h2]
theorem aeJ:SWO (ltOf yG) where
 irrefl x:=by rw[Ff];simp
 trans x y z h1 h2:=by rw[Ff]at *;simp at *;omega
 ntrans x y z h1 h2:=by rw[Ff]at *;simp at *;omega
theorem aem(v:Value)(xs:List Lv)(w:World)(i:Own (fL Lv.cells v 59 7 xs) w)(m:xs.length<=1000000) :
 CR ya 93 #[v,.func (.func 94) #[] #[]] w (fun r w' => ∃ ys:List Lv,r = .tuple #[]/\(ys.Perm xs/\ys.Pairwise fun a b=>a.seq<=b.seq)/\fZ (fL Lv.cells v 59 7 xs) w w' (fL Lv.cells v 59 7 ys)):=by
 refine CR.mono (aeq (cf:=Lv.cells) (k:=7) (xs:=xs) (lt:=ltOf yG) f_ d_ i o_ (AnyF.slices_SortFunc_none (P:=ya) Tryz.SG none 0 _ w) fun blk c d g hb j=>?_) ?_
 . exact AnyQ.slices_SortFunc (P:=ya) Tryz.SG 7 Tryz.isAgg59 Tryz.sizeOf59 Lv.cells f_ (fun x v hv=>by simp[Lv.cells]at hv;rcases hv with rfl|rfl|rfl|rfl|rfl|rfl|rfl<;>rfl) yG aeJ 94 #[] blk 0 c d w (enters_of Tryz.func94 k_ rfl) (fun _ _ _ _ x y=>Vt x y _) g hb j
 . rintro r w' ⟨rfl,ys,e,f,l⟩
   exact⟨ys,rfl,⟨e,f.imp fun {a b} h=>by rw[Ff]at h;simpa using h⟩,l⟩
end
section
open Go Go.Sx
theorem TX(ab:Nat)(v:AW)(w:World)(a:Own (AW.R ab v) w) :
 CR ya 92 (Zi ab) w (fun r w' => ∃ lv,r=lv/\fZ (AW.R ab v) w w' (gj [AW.R ab v,fL fR lv 3 1 (v.A.list v.A.begun)])):=by
 refine CR.mono (Uy ab v.bv v.A w a.un a.fact) fun r w' ⟨lv,c,d⟩=>⟨lv,c,?_⟩
 refine((fZ.ER (A:=(zW ab v.bv v.A)) (B:=[ig .i64 lv 3 (gw (v.A.list v.A.begun))]) d).Gd.Fh (by have e:∀ l:List Nat,l++[]=l:=qA;simp only[AW.R,j7,gj,iU,zy,List.flatMap_nil,e];rfl) fun h=>?_)
 intro Q b
 simp only[zb,nI,or_false]at b
 rcases b with rfl|rfl
 . exact⟨a.fact,h _ s_⟩
 . rw[CX f_]
   exact h _ (lV _ za) _ s_
theorem agZ(fO fM ub:Nat)(s:fW)(w:World)(Q:Own (fW.R fO fM ub s) w) :
 CR ya 53 (Zi ub) w (fun r w' => ∃ (v:Value) (ys:List Lv),r=v/\s.mo ys/\fZ (fW.R fO fM ub s) w w' (G1 fO fM ub s v ys)):=by
 have am:s.t.A.used<=s.t.A.n:=Q.fact.tok.ul
 have Y:=Q.fact.n
 have ai:=Q.fact.tn
 have ah:=Q.fact.en
 have aj:=Q.fact.vn
 have af:s.A.used<=s.A.begun:=by have V:=Q.fact.kU.used;omega
 have ad:=Q.fact.kU.le
 have ab:s.live.length=s.A.begun:=Q.fact.ll
 have ag:(s.A.list s.A.begun).length=s.A.used:=Q.fact.kU.AD
 have ae:s.A.n=fM:=Y
 refine enter (vs:=(Zh ub)) Tryz.func53 rfl Tryz.ntmps53 rfl ?_
 have X:St _ (Mr ub fO fM s (some s.mb)) w:=Own.of Q.un
 have U:s.ok fO fM:=Q.fact
 have l:St _ [(fW.R fO fM ub s)] w:=yr (p:=s.ok fO fM) (yc [_,_,_,_,_,_] _ X) U
 refine fS X 9 ?_
 refine jI (vl:=(Zh ub)) rfl rfl Ak (Bd fO fM ub s w (kP l (i:=0) rfl)) ?_
 rintro _ e ⟨rfl,T⟩
 have B:St _ [(fW.R fO fM ub s)] e:=lP (R' := (fW.R fO fM ub s)) 0 l rfl T rfl
 have f:St _ (Mr ub fO fM s (some s.mb)) e:=(jP B).unpack
 refine fK f 18 ?_
 refine jI (vl:=(Zh s.jd)) rfl rfl Pd (TX s.jd s.aw e (kP f (i:=4) rfl)) ?_
 rintro a o ⟨_,rfl,T⟩
 have C:=yg [4,0,1,2,3,5] f
 have g:St _ [(xq s),fL fR a 3 1 (s.A.list s.A.begun),blk ub 169 (pg fO fM s (some s.mb)),fL Lv.cells s.lv 59 7 s.live,gM s.mb .u64 p_ s.im,jA 3 s.im,(xu s)] o:=yy (lP (R' := (gj [(xq s),fL fR a 3 1 (s.A.list s.A.begun)])) 0 C rfl T rfl)
 refine iL (m:=(s.A.list s.A.begun).length) 1 rfl rfl yd g rfl ?_
 have D:St _ [fL Lv.cells Zg 59 7 (((s.A.list s.A.begun).take 0).map (fJ s.live)),(xq s),fL fR a 3 1 (s.A.list s.A.begun),blk ub 169 (pg fO fM s (some s.mb)),fL Lv.cells s.lv 59 7 s.live,gM s.mb .u64 p_ s.im,jA 3 s.im,(xu s)] o:=oU g 59 7
 have E:=yg [3,4,5,6,1,7,2,0] D
 refine gF g 4 ?_
 refine lp (α:=Nat×Value) (fun(k,F)=>[(0,(Zb ub)),(3,F),(13,a),(14,(Za ((s.A.list s.A.begun).length:Int))),(15,(Za k))]) (fun(k,F) w1=>St [(w,(fW.R fO fM ub s).gG)] (Mq ub fO fM s (some s.mb) a (s.A.list s.A.begun) F (((s.A.list s.A.begun).take k).map (fJ s.live))) w1/\k<=(s.A.list s.A.begun).length) (fun(k,F)=>(s.A.list s.A.begun).length-k) (0,Zg) ⟨rfl,rfl,rfl,rfl,gm (by first|rfl|omega),trivial⟩ (⟨E,o_⟩) ?_
 rintro⟨k,F⟩ L G ⟨S,al⟩
 refine fS S 2 ?_
 by_cases M:((k:Int):Int)<(((s.A.list s.A.begun).length:Int):Int)
 . have W:k<(s.A.list s.A.begun).length:=by omega
   have ak:fJ (s.A.list s.A.begun) k<s.live.length:=by rw[ab];exact((U.kU.oQ _).1 (qS.2 ⟨k,W,rfl⟩)).1
   refine fK S 25 ?_
   refine jL (vs:=[(zJ (fJ s.live (fJ (s.A.list s.A.begun) k)))]) (cs:=(Z9 (fJ s.live (fJ (s.A.list s.A.begun) k)))) rfl rfl r7 nF rfl (by simp[Value.cells]) rfl rfl rfl S ?_
   intro h H N O b
   have b:St _ (Hg (row (.slice (some ⟨h,0,none⟩) 1 1) 59 7 1 ([(.int .i64 ((fJ s.live (fJ (s.A.list s.A.begun) k)).slot)),(.int .u64 ((fJ s.live (fJ (s.A.list s.A.begun) k)).seq)),(.int .u64 ((fJ s.live (fJ (s.A.list s.A.begun) k)).u)),(.int .u64 ((fJ s.live (fJ (s.A.list s.A.begun) k)).v)),(.int .i64 ((fJ s.live (fJ (s.A.list s.A.begun) k)).wt)),(.int .i64 ((fJ s.live (fJ (s.A.list s.A.begun) k)).t)),(.int .i64 ((fJ s.live (fJ (s.A.list s.A.begun) k)).exp))])) ub fO fM s (some s.mb) a (s.A.list s.A.begun) F (((s.A.list s.A.begun).take k).map (fJ s.live))) H:=b
   refine lF (cf:=Lv.cells) (ys:=(((s.A.list s.A.begun).take k).map (fJ s.live))) (zs:=[(fJ s.live (fJ (s.A.list s.A.begun) k))]) (LL:=fun c=>(Hg (row (.slice (some ⟨h,0,none⟩) 1 1) 59 7 1 ([(.int .i64 ((fJ s.live (fJ (s.A.list s.A.begun) k)).slot)),(.int .u64 ((fJ s.live (fJ (s.A.list s.A.begun) k)).seq)),(.int .u64 ((fJ s.live (fJ (s.A.list s.A.begun) k)).u)),(.int .u64 ((fJ s.live (fJ (s.A.list s.A.begun) k)).v)),(.int .i64 ((fJ s.live (fJ (s.A.list s.A.begun) k)).wt)),(.int .i64 ((fJ s.live (fJ (s.A.list s.A.begun) k)).t)),(.int .i64 ((fJ s.live (fJ (s.A.list s.A.begun) k)).exp))])) ub fO fM s (some s.mb) a (s.A.list s.A.begun) c ((((s.A.list s.A.begun).take k).map (fJ s.live))++[(fJ s.live (fJ (s.A.list s.A.begun) k))]))) 8 rfl rfl rfl r7 nF rfl d_ b rfl (kO b (i:=0) rfl) (fun x hx=>zn.1 (show List.all _ _=true from rfl) x hx) (by simp only[zq,ze,zh,zo,zx,maxLen];omega) (by simp only[zq,ze,zh,zo,zx,maxLen];omega) f_ ?_
   intro c I j P
   have j:St _ (Hg (row (.slice (some ⟨h,0,none⟩) 1 1) 59 7 1 ([(.int .i64 ((fJ s.live (fJ (s.A.list s.A.begun) k)).slot)),(.int .u64 ((fJ s.live (fJ (s.A.list s.A.begun) k)).seq)),(.int .u64 ((fJ s.live (fJ (s.A.list s.A.begun) k)).u)),(.int .u64 ((fJ s.live (fJ (s.A.list s.A.begun) k)).v)),(.int .i64 ((fJ s.live (fJ (s.A.list s.A.begun) k)).wt)),(.int .i64 ((fJ s.live (fJ (s.A.list s.A.begun) k)).t)),(.int .i64 ((fJ s.live (fJ (s.A.list s.A.begun) k)).exp))])) ub fO fM s (some s.mb) a (s.A.list s.A.begun) c ((((s.A.list s.A.begun).take k).map (fJ s.live))++[(fJ s.live (fJ (s.A.list s.A.begun) k))])) I:=j
   have q:=yg [1,2,3,4,5,6,7,8] j
   refine fQ q 8 ?_
   refine tN (?_)
   exact again ((k+1),c) ⟨rfl,rfl,rfl,rfl,gm (by first|rfl|omega),trivial⟩ (⟨by rw[C5 _ W];exact q,o_⟩) (by show ((s.A.list s.A.begun).length-(k+1):Nat)<(s.A.list s.A.begun).length-k;omega)
 . refine fK S 13 ?_
   refine jI (vl:=[F,(.func (.func 94) #[] #[])]) rfl rfl Yl (aem F (((s.A.list s.A.begun).take k).map (fJ s.live)) G (kP S (i:=7) rfl) (by rw[zo,zx];omega)) ?_
   rintro _ J ⟨d,rfl,y,T⟩
   have z:St _ (Mq ub fO fM s (some s.mb) a (s.A.list s.A.begun) F d) J:=lP (R' := fL Lv.cells F 59 7 d) 7 S rfl T rfl
   refine fQ z 9 ?_
   refine gq (v:=F) Tryz.results53 rfl ?_
   have K:=yg [0,1,2,3,4,5,7,6] z
   have Z:k=(s.A.list s.A.begun).length:=by omega
   subst Z
   have aa:=fW.aa4 U (by have V:=y.1;rwa [qz]at V) y.2
   have ac:=yr (p:=fW.ok fO fM s) (yc [_,_,_,_,_,_] _ K) U
   exact⟨F,d,rfl,aa,yo (R' := (G1 fO fM ub s F d)) (yc [_,_] _ ac) za⟩
end
section
open Go Go.Sx
theorem J8{fO fM ub:Nat}{s:fW}{w:World}(h:Own (fW.R fO fM ub s) w):s.t.A.ok :=
 (y0 (Own.of (kP (Own.of h.un) (i:=5) rfl).un) (i:=3) rfl:s.t.w.A.ok)
theorem Sq(sb hb n:Nat)(s:QS)(w:World)(c:Own (QS.SR sb hb n s) w)(now:Int)(d:n<=65536) :
 CR ya 63 (Zm sb now) w (fun r w' => ∃ v ds t,v=r/\qE n s t ds now/\fZ (QS.SR sb hb n s) w w' (gj [QS.SR sb hb n t,fL fR v 3 1 ds])):=by
 refine CR.mono (adY sb hb n s w c now d) fun r w' ⟨v,ds,t,a,b,e⟩=>⟨v,ds,t,a.symm,b,?_⟩
 rw[CX f_]
 exact e
theorem U3(cb:Nat)(win now:Int)(w:World)(c:Own (Zv cb win now) w)(h1:1<=win)(e:gX .i64 win)(t:Int)(d:gX .i64 t)(a:now<=t)(b : -9223372036854775808<=t+win/\t+win<=9223372036854775807) :
 CR ya 62 (Zm cb t) w (fun r w' => r = .int .i64 0/\fZ (Zv cb win now) w w' (Zv cb win t)):=by
 have h:=U4 cb win now w c h1 e t d
 rw[NB a b,if_pos rfl]at h
 exact h
theorem T4(c:WC)(V:Nat)(s:WW)(w:World)(Z:Own (WW.R c V s) w)(T:Int)(hT:s.now<=T)(ad:T<=1000000) :
 CR ya 28 (Zm V T) w (fun r w' => ∃ (s2:WW),r = .int .i64 0/\(s2.now=T/\s2.added=s.added/\(∀ y,s2.u.has y↔s.u.has y/\T<y.exp)/\s2.u.last=s.u.last)/\fZ (WW.R c V s) w w' (WW.R c V s2)):=by
 refine en Tryz.func28 Tryz.ntmps28 ?_
 have Y:=Own.of Z.un
 have F:s.ok c:=Z.fact
 have aj:=F.w1
 have am:=F.wi
 have an:=F.n0
 have ao:=F.n1
 have ac:fW.ok c.fO c.fM s.u:=(y0 Y (i:=2) rfl)
 have av:=F.en
 have au:=F.e1
 have ay:=F.v2
 have az:=F.vn
 have ap:=F.a0
 have aq:=F.a1
 have ax:=F.la
 have aw:=ac.sN
 have n:=yr (p:=s.ok c) (yc [_,_,_,_,_] _ Y) F
 refine fS Y 9 ?_
 refine cl vV (wQ c V s w (ye n 0 rfl)) ?_
 rintro _ z ⟨rfl,S⟩
 have A:=ym 0 n S
 have f:=(jP A).unpack
 refine fK f 14 ?_
 refine cl X0 (U3 s.cb c.win s.now z (ye f 1 rfl) aj (kA o_) T (kA o_) hT o_) ?_
 rintro _ B ⟨rfl,S⟩
 have h:=ym 1 f S
 refine fK h 20 ?_
 refine cl O6 (Sq s.sb s.hb c.fM s.q B (ye h 3 rfl) T o_) ?_
 rintro _ K ⟨o,a,j,rfl,b,S⟩
 have C:=yg [3,0,1,2,4] h
 have l:=yy (ym 0 C S)
 have ak:a.length<=c.fM:=b.len
 refine iL (m:=a.length) 1 rfl rfl yd l rfl ?_
 have D:=yg [2,3,4,0,5,1] l
 refine gF l 4 ?_
 refine lp (α:=Nat×fW×GW×Int) (fun(k,U,g2,ex)=>[(0,(Zb V)),(25,o),(26,(Za a.length)),(27,(Za k))]) (fun(k,U,g2,ex) w1=>St [(w,(WW.R c V s).gG)] [blk V 113 [(Za c.win),(Za c.fM),(Za c.fO),(Za c.ki),(Zb s.cb),(Zb s.ub),(Zb s.sb),(Zb s.ob),(Zn s.added),(Zn ex)],(Zv s.cb c.win T),(fW.R c.fO c.fM s.ub U),(QS.SR s.sb s.hb c.fM j),(GW.R c.fO c.fM s.ob g2),fL fR o 3 1 a] w1/\o8 s.u U (a.take k)/\gX .u64 ex/\k<=a.length) (fun(k,U,g2,ex)=>a.length-k) (0,s.u,s.g,s.jw) ⟨rfl,rfl,rfl,gm rO,trivial⟩ (⟨D,o8.start _,F.ex,o_⟩) ?_
 rintro⟨k,U,g2,ex⟩ L E ⟨X,W,af,al⟩
 refine fS X 2 ?_
 by_cases M:((k:Int):Int)<((a.length:Int):Int)
 . have ab:k<a.length:=by omega
   refine fK X 22 ?_
   refine cl X3 (Y3 c.fO c.fM s.ob g2 E (ye X 4 rfl)) ?_
   rintro _ G ⟨H,N,O,rfl,S⟩
   have d:=ym 4 X S
   have ai:=(y0 d (i:=2) rfl:fW.ok c.fO c.fM U)
   have ae:=o8.can W F.AZ ai b (gy ab)
   refine fK d 9 ?_
   refine cl O7 (TF c.fO c.fM s.ub U G (ye d 2 rfl) (fJ a k) ae) ?_
   rintro _ P ⟨I,rfl,t,S⟩
   have x:=ym 2 d S
   refine fK x 7 ?_
   refine ar (e:=IntKind.u64.wrap (ex+1)) rfl rfl rfl rfl rfl (jZ x 10 fun Q J=>?_)
   refine tN (?_)
   exact again ((k+1),I,H,IntKind.u64.wrap (ex+1)) ⟨rfl,rfl,rfl,gm rO,trivial⟩ (⟨J,by rw[nY,gy ab];exact W.next t.1 t.2,ZU _,o_⟩) (by show (a.length-(k+1):Nat)<a.length-k;omega)
 . refine fQ X 16 ?_
   refine gq (v:=Zc) Tryz.results28 rfl ?_
   have ag:k=a.length:=by omega
   rw[ag,qz]at W
   have aa:=W.fin F.AZ ac b
   have ah:=F.tick hT ad af b aa W.last (g2:=g2)
   exact⟨(⟨s.cb,s.ub,s.sb,s.hb,s.ob,T,j,U,g2,s.added,ex⟩:WW),rfl,⟨rfl,rfl,aa,W.last⟩,yo (yr (p:=WW.ok c (⟨s.cb,s.ub,s.sb,s.hb,s.ob,T,j,U,g2,s.added,ex⟩:WW)) (yc [_,_,_,_,_] _ X) ah) za⟩
end
section
open Go Go.Sx
theorem Va(cb:Nat)(win now:Int)(w:World)(b:Own (Zv cb win now) w)(h1:1<=win)(d:gX .i64 win)(t:Int)(c:gX .i64 t)(a : -9223372036854775808<=t+win/\t+win<=9223372036854775807) :
 CR ya 126 (Zm cb t) w (fun r w' => r = .tuple (xl (t+win))/\fZ (Zv cb win now) w w' (Zv cb win now)):=by
 have h:=Vb cb win now w b h1 d t c
 rw[zY a]at h
 exact h
abbrev acI:List (List Nat):=[[],[0],[0,1],[0,1,2],[],[],[0,1,2,3,4,5],[0,1,2,3,4,5,6],[0,1,2,3,4,5,6,7],[0,1,2,3,4,5,6,7],[],[0,1,2,3,4,5,6,7,8,10],[0,1,2,3,4,5,6,7,8,9,10,11]]
theorem aht(c:WC)(T:Nat)(s:WW)(w:World)(hO:Own (WW.R c T s) w)(x:Lv)(au:x.ok)(az:x.t=s.now)(hc:s.u.gK c.fO c.fM x.u x.v=0)(ha:s.added<1000000) :
 CR ya 68 (xo T x) w (fun r w' => ∃ (s2:WW),r = .tuple #[]/\(s2.now=s.now/\s2.added=s.added+1/\(∃ i:Nat,∀ y,s2.u.has y↔s.u.has y\/y=(⟨((i:Nat):Int),s.u.last+1,x.u,x.v,x.wt,x.t,x.t+c.win⟩:Lv))/\s2.u.last=s.u.last+1)/\fZ (WW.R c T s) w w' (WW.R c T s2)):=by
 refine en Tryz.func68 Tryz.ntmps68 ?_
 have aw:=Own.of hO.un
 have hW:s.ok c:=hO.fact
 have aF:=hW.w1
 have aI:=hW.wi
 have aJ:=hW.n0
 have aK:=hW.n1
 have ay:fW.ok c.fO c.fM s.u:=(y0 aw (i:=2) rfl)
 have aO:=hW.en
 have aN:=hW.e1
 have aR:=hW.v2
 have aS:=hW.vn
 have aL:=hW.a0
 have aM:=hW.a1
 have aQ:=hW.la
 have aP:=ay.sN
 have aB:s.u.last<=9000000000000000000:=by omega
 have aT:=az
 have aC:Lv.ok (Lv.mk x.slot x.seq x.u x.v x.wt x.t (x.t+c.win)):=⟨au.slot,au.seq,au.u,au.v,au.wt,au.t,kA (by show _/\_;dsimp only;omega)⟩
 refine fS aw 2 ?_
 refine ij aw (fun f ae af ag M=>?_)
 refine gJ M 10 fun N A=>?_
 refine cl WA (Va s.cb c.win s.now N (ye A 2 rfl) aF (kA o_) x.t au.t o_) ?_
 rintro _ ah ⟨rfl,ht⟩
 have B:=ym 2 A ht
 refine gF B 8 ?_
 refine Sb (Γ:=Nat×fW×Nat) mixed acI [6,10,11] k_ [fun(a,b,d)=>(Zb T),fun(a,b,d)=>(Zb T),fun(a,b,d)=>(.pointer (some ⟨T,5,none⟩)),fun(a,b,d)=>(Zb s.ub),fun(a,b,d)=>(Ec x),fun(a,b,d)=>(Za (x.t+c.win)),fun(a,b,d)=>(BR ((a:Nat):Int) (s.u.last+1) x (x.t+c.win)),fun(a,b,d)=>(BR ((a:Nat):Int) (s.u.last+1) x (x.t+c.win)),fun(a,b,d)=>(MY ((a:Nat):Int) (s.u.last+1) x (x.t+c.win)),fun(a,b,d)=>Zc,fun(a,b,d)=>(Zb d),fun(a,b,d)=>undef,fun(a,b,d)=>Zc] [([],(fun(a,b,d)=>[blk f 57 (Zz x),blk T 113 (tq c.win c.fM c.fO c.ki s),(uh s c.win),(fW.R c.fO c.fM s.ub s.u),(vw s c.fM),(vu c.fO c.fM s)],fun _ _=>True)),([6],(fun(a,b,d)=>[blk f 57 (Zz x),blk T 113 (tq c.win c.fM c.fO c.ki s),(uh s c.win),j7 ((∀ y,fW.has b y↔s.u.has y\/y=(⟨((a:Nat):Int),s.u.last+1,x.u,x.v,x.wt,x.t,x.t+c.win⟩:Lv))/\fW.last b=s.u.last+1) (fW.R c.fO c.fM s.ub b),(vw s c.fM),(vu c.fO c.fM s)],fun _ _=>True)),([10],(fun(a,b,d)=>[blk d 59 nr,blk f 57 (Zz x),blk T 113 (tq c.win c.fM c.fO c.ki s),(uh s c.win),(fW.R c.fO c.fM s.ub s.u),(vw s c.fM),(vu c.fO c.fM s)],fun _ _=>True)),([6,10],(fun(a,b,d)=>[blk d 59 nr,blk f 57 (Zz x),blk T 113 (tq c.win c.fM c.fO c.ki s),(uh s c.win),j7 ((∀ y,fW.has b y↔s.u.has y\/y=(⟨((a:Nat):Int),s.u.last+1,x.u,x.v,x.wt,x.t,x.t+c.win⟩:Lv))/\fW.last b=s.u.last+1) (fW.R c.fO c.fM s.ub b),(vw s c.fM),(vu c.fO c.fM s)],fun _ _=>True)),([6,10,11],(fun(a,b,d)=>(MD d ((a:Nat):Int) (s.u.last+1) x (x.t+c.win) f T c.win c.fM c.fO c.ki s ((∀ y,fW.has b y↔s.u.has y\/y=(⟨((a:Nat):Int),s.u.last+1,x.u,x.v,x.wt,x.t,x.t+c.win⟩:Lv))/\fW.last b=s.u.last+1) b),fun _ _=>True))] (0,s.u,0) (fun(a,b,d)=>(7,Zc) :: (6,(Zb d)) :: (31,Zc) :: (30,(MY ((a:Nat):Int) (s.u.last+1) x (x.t+c.win))) :: (22,(BR ((a:Nat):Int) (s.u.last+1) x (x.t+c.win))) :: (29,(BR ((a:Nat):Int) (s.u.last+1) x (x.t+c.win))) :: (28,(Za (x.t+c.win))) :: (27,(Ec x)) :: (26,(Zb s.ub)) :: (25,(.pointer (some ⟨T,5,none⟩))) :: (24,(Zb T)) :: (23,(Zb T)) :: _) rfl B (fun _ _=>trivial) ?_ (fun(a,b,d)=>rfl) rfl ?_
 . skip
   refine ny rfl (fun(a,b,d) _ _=>qv rfl rfl (kI (v:=(Zb T)) rfl)) (ny rfl (fun(a,b,d) _ _=>qv rfl rfl (wv rfl)) (ny rfl (fun(a,b,d) _ _=>qv rfl rfl (sM (o' := 5) rfl Gu rfl KY rfl)) (AL rfl ⟨(fun(a,b,d) wq F hF=>qv rfl rfl (kW rfl Gt rfl (kQ F 1 rfl rfl))),trivial,(fun(a,b,d) wq F hF=>qv rfl rfl (kW rfl Gt rfl (kQ F 2 rfl rfl))),trivial,trivial,trivial⟩ (AL rfl ⟨(fun(a,b,d) wq F hF=>qv rfl rfl (tE (cs:=(Zz x)) rfl Bo rfl uR rfl (lM F (i:=0) (o:=0) (vs:=(Zz x)) rfl rfl))),trivial,(fun(a,b,d) wq F hF=>qv rfl rfl (tE (cs:=(Zz x)) rfl Bo rfl uR rfl (lM F (i:=1) (o:=0) (vs:=(Zz x)) rfl rfl))),trivial,trivial,trivial⟩ (ny rfl (fun(a,b,d) _ _=>qv rfl rfl (kI (v:=(Za (x.t+c.win))) rfl)) (AK rfl ⟨⟨_,_,rfl,fun(a,b,d) wq F hF=>AE rfl rfl (oN rfl Ol) (TB c.fO c.fM s.ub s.u wq (ye F 3 rfl) (Lv.mk x.slot x.seq x.u x.v x.wt x.t (x.t+c.win)) aC hc aB) (fun _ _ hz=>by obtain⟨l,m,rfl,av,ax⟩:=hz;exact⟨(l,m,d),⟨(ym 3 F (ax.Be av)),trivial⟩,rfl,kC rfl sT⟩)⟩,trivial,⟨_,_,rfl,fun(a,b,d) wq F hF=>AE rfl rfl (oN rfl Ol) (TB c.fO c.fM s.ub s.u wq (ye F 4 rfl) (Lv.mk x.slot x.seq x.u x.v x.wt x.t (x.t+c.win)) aC hc aB) (fun _ _ hz=>by obtain⟨l,m,rfl,av,ax⟩:=hz;exact⟨(l,m,d),⟨(ym 4 F (ax.Be av)),trivial⟩,rfl,kC rfl sT⟩)⟩,trivial,trivial,trivial⟩ (ny rfl (fun(a,b,d) _ _=>qv rfl rfl (kI (v:=(BR ((a:Nat):Int) (s.u.last+1) x (x.t+c.win))) rfl)) ?_)))))))
   refine ny rfl (fun(a,b,d) _ _=>qv rfl rfl (EL rfl rfl)) (ny rfl (fun(a,b,d) _ _=>qv rfl rfl (EL rfl rfl)) (AK rfl ⟨⟨_,_,rfl,fun(a,b,d) wq F hF=>Fg (cs:=nr) rfl nF rfl F (fun n _ h=>⟨(a,b,n),⟨h,trivial⟩,rfl,kC rfl sT⟩)⟩,⟨_,_,rfl,fun(a,b,d) wq F hF=>Fg (cs:=nr) rfl nF rfl F (fun n _ h=>⟨(a,b,n),⟨h,trivial⟩,rfl,kC rfl sT⟩)⟩,trivial,trivial,trivial,trivial⟩ (AK rfl ⟨trivial,trivial,trivial,⟨_,_,rfl,fun(a,b,d) wq F hF=>JF (L' := (MD d ((a:Nat):Int) (s.u.last+1) x (x.t+c.win) f T c.win c.fM c.fO c.ki s ((∀ y,fW.has b y↔s.u.has y\/y=(⟨((a:Nat):Int),s.u.last+1,x.u,x.v,x.wt,x.t,x.t+c.win⟩:Lv))/\fW.last b=s.u.last+1) b)) 0 rfl rfl rfl rfl nF rfl rfl F rfl rfl rfl rfl (fun _ h=>⟨(a,b,d),⟨h,trivial⟩,rfl,lX.refl _ _ _⟩)⟩,trivial,trivial⟩ (ny rfl (fun(a,b,d) _ _=>qv rfl rfl (vL (v:=Zc) rfl)) ?_))))
   exact Q8
 rintro⟨a,b,d⟩ ai O -
 have C:=yg [4,0,1,2,3,5,6] O
 have k:=qw C
 have D:=jP C
 have ar:=(y0 D (i:=0) rfl:fW.ok c.fO c.fM b)
 have aD:=hW.free ay ar (i:=a) (e:=(⟨((a:Nat):Int),s.u.last+1,x.u,x.v,x.wt,x.t,x.t+c.win⟩:Lv)) rfl rfl k.1
 have aA:a<c.fM:=by obtain⟨j,h7,_,_,h8⟩:=ar.Ar ((k.1 _).2 (.inr rfl));have h9:((a:Nat):Int)=(j:Int):=h7;omega
 refine Kz tt none D 9 fun P E=>?_
 refine cl EB (Gc c.fO c.fM s.ub b P (ye E 0 rfl) x.u) ?_
 rintro _ aj ⟨G,ak,rfl,Q,ht⟩
 have S:=ym 0 E ht
 have aG:G<c.fO:=by have h7:=TW.oc.lt Q ar.tok (by rw[ar.tn];omega);rw[ar.tn]at h7;exact h7
 refine gJ S 15 fun U H=>?_
 refine cl EB (Gc c.fO c.fM s.ub b U (ye H 0 rfl) x.v) ?_
 rintro _ al ⟨I,am,rfl,V,ht⟩
 have W:=ym 0 H ht
 have aH:I<c.fO:=by have h7:=TW.oc.lt V ar.tok (by rw[ar.tn];omega);rw[ar.tn]at h7;exact h7
 refine gJ W 16 fun X J=>?_
 refine cl WB (aev s.sb s.hb c.fM s.q X (ye J 5 rfl) a aA aD (x.t+c.win) (kA o_)) ?_
 rintro _ an ⟨K,rfl,Y,ht⟩
 have Z:=ym 5 J ht
 refine gJ Z 13 fun aa L=>?_
 refine cl WD (YX c.fO c.fM s.ob s.g aa (ye L 6 rfl) a G I (x.t+c.win) aA aG aH (kA o_)) ?_
 rintro _ ao ⟨z,ap,rfl,ht⟩
 have ab:=ym 6 L ht
 refine jZ ab 12 fun aq ac=>?_
 refine iQ Tryz.results68 ?_
 have ad:=yg [3,4,0,5,6,1,2] ac
 have aE:=hW.ins ay (i:=a) (e:=(⟨((a:Nat):Int),s.u.last+1,x.u,x.v,x.wt,x.t,x.t+c.win⟩:Lv)) rfl rfl az (by show x.t+c.win=_;rw[az]) k.1 k.2 Y ha (g2:=z)
 exact⟨(⟨s.cb,s.ub,s.sb,s.hb,s.ob,s.now,K,b,z,s.added+1,s.jw⟩:WW),rfl,⟨rfl,rfl,⟨a,k.1⟩,k.2⟩,yo (yr (p:=WW.ok c (⟨s.cb,s.ub,s.sb,s.hb,s.ob,s.now,K,b,z,s.added+1,s.jw⟩:WW)) (yc [_,_,_,_,_] _ ad) aE) za⟩
end
section
open Go Go.Sx
theorem adX(sb hb n:Nat)(q:QS)(c d:Nat)(a:QS)(w:World)(e:Own (j7 (a.fP=q.fP) (gj [(QS.SR sb hb n q),(QS.SR c d n a)])) w)(now:Int)(y:n<=65536) :
 CR ya 63 (Zm c now) w (fun r w' => ∃ (p:Option Addr) (f:Nat) (ds:List Nat) (t:QS),(.slice p ds.length f)=r/\qE n q t ds now/\fZ (j7 (a.fP=q.fP) (gj [(QS.SR sb hb n q),(QS.SR c d n a)])) w w' (gj [(QS.SR sb hb n q),(QS.SR c d n t),fL fR (.slice p ds.length f) 3 1 ds])):=by
 have j:=Own.of e.un
 refine CR.mono (Sq c d n a w (ye j 1 rfl) now y) fun r w' ⟨v,ds,t,m,g,k⟩=>?_
 have o:=ym 1 j k
 have s:=yy (lN o (List.Perm.swap _ _ _))
 have u:=lN s (qB (l₁:=[_,_]) (l₂:=[_]))
 have h:=(St.Od u za).Gd (p:=(a.fP=q.fP))
 have x:w'.ownsRow 0 3 1 v ds.length (ds.flatMap fR):=k.holds _ (lV _ za)
 subst m
 rcases x.2 with ⟨rfl,i⟩|⟨b,l,cur,rfl,_⟩
 . refine⟨none,0,ds,t,by rw[i],g.Q9 e.fact,?_⟩
   rw[i]
   exact h
 . exact⟨_,l,ds,t,rfl,g.Q9 e.fact,h⟩
theorem ahN(c:WC)(T:Nat)(s:WW)(w:World)(hO:Own (WW.R c T s) w)(x:Lv)(a5:x.ok) :
 CR ya 67 (xo T x) w (fun r w' => ∃ (e:Int),r = .int .i64 e/\((e=0->Room c s x)/\(s.u.gK c.fO c.fM x.u x.v=0->e=0))/\fZ (WW.R c T s) w w' (WW.R c T s)):=by
 refine en Tryz.func67 Tryz.ntmps67 ?_
 have aP:=Own.of hO.un
 have F:s.ok c:=hO.fact
 have a8:=F.w1
 have a9:=F.wi
 have ba:=F.n0
 have bb:=F.n1
 have aU:fW.ok c.fO c.fM s.u:=(y0 aP (i:=2) rfl)
 have bf:=F.en
 have be:=F.e1
 have bi:=F.v2
 have bj:=F.vn
 have bc:=F.a0
 have bd:=F.a1
 have bh:=F.la
 have bg:=aU.sN
 have aY:=J8 (ye aP 2 rfl)
 have bk:=a5.t.i64
 refine fS aP 2 ?_
 refine ij aP (fun o aq ar au U=>?_)
 refine gJ U 10 fun V I=>?_
 refine cl IA (Ll c.fO c.fM s.ub s.u V (ye I 3 rfl) x) ?_
 rintro _ J ⟨rfl,ht⟩
 have n:=ym 3 I ht
 refine fK n 7 ?_
 by_cases K:(fW.gK s.u c.fO c.fM x.u x.v:Int)=(0:Int)
 . have aO:=K
   refine fQ n 11 ?_
   refine gq (v:=Zc) GB rfl ?_
   have W:=yg [1,2,3,4,5,0] n
   exact⟨0,rfl,⟨(fun _=>Room.of aU aY aO fun y hy=>hy.1),fun _=>rfl⟩,yo (yr (p:=s.ok c) (yc [_,_,_,_,_] _ W) F) za⟩
 . have aO:=K
   obtain⟨X,av⟩:∃ q,yY s.q.fP.length=q:=⟨_,rfl⟩
   refine fK n 13 ?_
   rcases X with h0|h0
   . skip
     refine cl Oj (aee s.sb s.hb c.fM s.q J (ye n 4 rfl) h0) ?_
     rintro _ aw ⟨rfl,ht⟩
     have L:=ym 4 n ht
     refine fK L 3 ?_
     refine iH L (fun ax ay az aA Y=>?_)
     refine jZ Y 26 fun aB Z=>?_
     refine gq (v:=(Za (fW.gK s.u c.fO c.fM x.u x.v))) GB rfl ?_
     have aa:=yg [2,3,4,5,6,0,1] Z
     exact⟨fW.gK s.u c.fO c.fM x.u x.v,rfl,⟨(fun h7=>absurd h7 aO),fun h7=>absurd h7 aO⟩,yo (yr (p:=s.ok c) (yc [_,_,_,_,_] _ aa) F) za⟩
   . skip
     refine cl Oj (aef s.sb s.hb c.fM s.q J (ye n 4 rfl) h0) ?_
     rintro _ aC ⟨rfl,ht⟩
     have M:=ym 4 n ht
     refine fK M 3 ?_
     refine iH M (fun D aD aE aF ab=>?_)
     refine gJ ab 13 fun ac B=>?_
     by_cases aG:((fJ s.q.fP 0).key:Int)>(x.t:Int)
     . refine fQ B 13 ?_
       refine gq (v:=(Za (fW.gK s.u c.fO c.fM x.u x.v))) GB rfl ?_
       have ad:=yg [2,3,4,5,6,0,1] B
       exact⟨fW.gK s.u c.fO c.fM x.u x.v,rfl,⟨(fun h7=>absurd h7 aO),fun h7=>absurd h7 aO⟩,yo (yr (p:=s.ok c) (yc [_,_,_,_,_] _ ad) F) za⟩
     . refine fK B 13 ?_
       refine cl Wy (agT c.fO c.fM s.ub s.u ac (ye B 4 rfl)) ?_
       rintro _ aH ⟨z,A,rfl,E,ht⟩
       have ae:=yg [4,0,1,2,3,5,6] B
       have N:=yy (ym 0 ae ht)
       refine gF N 5 ?_
       refine Sa (Γ:=Nat×Nat×QS×Option Addr×Nat×List Nat×QS) mixed [[],[0],[0,1],[0,1,2],[0,1,2,3],[],[5],[0,1,2,3,4,5,6],[0,1,2,3,4,5,6,7],[]] [4,7] d_ [fun _=>(Zb T),fun _=>(Zb T),fun _=>(.pointer (some ⟨T,6,none⟩)),fun _=>(Zb s.sb),fun(g,h,j,d,f,b,l)=>(Zb g),fun _=>(Ee o),fun _=>(Za x.t),fun(g,h,j,d,f,b,l)=>(.slice d b.length f),fun(g,h,j,d,f,b,l)=>(Za b.length),fun _=>Zc] [(fun(g,h,j,d,f,b,l)=>[(fW.R c.fO c.fM s.ub s.u),(fW.R c.fO c.fM z A),blk D 224 (Zo ((fJ s.q.fP 0).ix:Int) ((fJ s.q.fP 0).key)),blk o 57 (Zz x),blk T 113 (tq c.win c.fM c.fO c.ki s),(uh s c.win),(vw s c.fM),(vu c.fO c.fM s)],fun _ _=>True),(fun(g,h,j,d,f,b,l)=>[(fW.R c.fO c.fM s.ub s.u),(fW.R c.fO c.fM z A),blk D 224 (Zo ((fJ s.q.fP 0).ix:Int) ((fJ s.q.fP 0).key)),blk o 57 (Zz x),blk T 113 (tq c.win c.fM c.fO c.ki s),(uh s c.win),j7 (QS.fP j=QS.fP s.q) (gj [(vw s c.fM),(QS.SR g h c.fM j)]),(vu c.fO c.fM s)],fun _ _=>True),(fun(g,h,j,d,f,b,l)=>[(fW.R c.fO c.fM s.ub s.u),(fW.R c.fO c.fM z A),blk D 224 (Zo ((fJ s.q.fP 0).ix:Int) ((fJ s.q.fP 0).key)),blk o 57 (Zz x),blk T 113 (tq c.win c.fM c.fO c.ki s),(uh s c.win),j7 (qE c.fM s.q l b x.t) (gj [(vw s c.fM),(QS.SR g h c.fM l),fL fR (.slice d b.length f) 3 1 b]),(vu c.fO c.fM s)],fun _ _=>True)] (0,0,s.q,none,0,[],s.q) (fun(g,h,j,d,f,b,l)=>(51,Zc) :: (50,(Za b.length)) :: (49,(.slice d b.length f)) :: (48,(Za x.t)) :: (47,(Ee o)) :: (46,(Zb g)) :: (45,(Zb s.sb)) :: (44,(.pointer (some ⟨T,6,none⟩))) :: (43,(Zb T)) :: (42,(Zb T)) :: _) rfl N (fun _ _=>trivial) ?_ (fun(g,h,j,d,f,b,l)=>rfl) rfl ?_
       . skip
         refine pP (fun(g,h,j,d,f,b,l) _=>kI (v:=(Zb T)) rfl) ?_
         refine pP (fun(g,h,j,d,f,b,l) _=>wv rfl) ?_
         refine pP (fun(g,h,j,d,f,b,l) _=>sM (o' := 6) rfl Gu rfl KZ rfl) ?_
         refine uL rfl rfl rfl rfl (fun(g,h,j,d,f,b,l) wq hM hF=>qv rfl rfl (kW rfl Tryz.underlying110 rfl (kQ hM 4 rfl rfl))) (CN rfl rfl rfl rfl (fun(g,h,j,d,f,b,l) wq hM hF=>AE rfl rfl (oN rfl Wz) (adV s.sb s.hb c.fM s.q wq (ye hM 6 rfl)) (fun _ _ hz=>by obtain⟨af,ag,ah,rfl,aQ,aR⟩:=hz;exact⟨(af,ag,ah,d,f,b,l),⟨(ym 6 hM (aR.Be aQ)),trivial⟩,rfl,kC rfl sT⟩)) (pP (fun(g,h,j,d,f,b,l) _=>sM (o' := 3) rfl Bo rfl ti2 rfl) ?_))
         refine Fx rfl rfl rfl rfl rfl (fun(g,h,j,d,f,b,l) wq hM hF=>qv rfl rfl (kW rfl sX rfl (kQ hM 3 rfl rfl))) (fun(g,h,j,d,f,b,l) wq hM hF=>qv rfl rfl (kW rfl sX rfl (kQ hM 3 rfl rfl))) (CN rfl rfl rfl rfl (fun(g,h,j,d,f,b,l) wq hM hF=>AE rfl rfl (oN rfl O6) (adX s.sb s.hb c.fM s.q g h j wq (ye hM 6 rfl) x.t o_) (fun _ _ hz=>by obtain⟨ai,aj,ak,al,rfl,aQ,aR⟩:=hz;exact⟨(g,h,j,ai,aj,ak,al),⟨(ym 6 hM (aR.Be aQ)),trivial⟩,rfl,kC rfl sT⟩)) (pP (fun(g,h,j,d,f,b,l) _=>Jz (a:=d) (m:=b.length) (c:=f) rfl yd) ?_))
         refine pP (fun(g,h,j,d,f,b,l) _=>kI (v:=Zc) rfl) ?_
         exact J5
       rintro⟨g,h,j,d,f,b,l⟩ aI am -
       have O:=yg [6,0,1,2,3,4,5,7] am
       have G:=qw O
       have an:=jP O
       have H:=yy an
       have a6:b.length<=c.fM:=G.len
       have aT:DS A s.q:=fun e=>(F.AZ e).trans ⟨fun⟨y,h1,h2⟩=>⟨y,(E.1 y).2 h1,h2⟩,fun⟨y,h1,h2⟩=>⟨y,(E.1 y).1 h1,h2⟩⟩
       have a3:=(y0 H (i:=4) rfl:fW.ok c.fO c.fM A)
       have ao:=yg [7,8,3,0,9,4,2,6] H
       refine FA tt none H 2 ?_
       refine lp (α:=Nat×fW) (fun(k,u2)=>[(3,(Zb o)),(8,(Zb z)),(49,(.slice d b.length f)),(50,(Za b.length)),(51,(Za k))]) (fun(k,u2) w1=>St [(w,(WW.R c T s).gG)] [blk T 113 (tq c.win c.fM c.fO c.ki s),(uh s c.win),(fW.R c.fO c.fM s.ub s.u),(vw s c.fM),(vu c.fO c.fM s),(fW.R c.fO c.fM z u2),fL fR (.slice d b.length f) 3 1 b,blk o 57 (Zz x)] w1/\o8 A u2 (b.take k)/\k<=b.length) (fun(k,u2)=>b.length-k) (0,A) ⟨rfl,rfl,rfl,rfl,gm rO,trivial⟩ (⟨ao,o8.start _,o_⟩) ?_
       rintro⟨k,u2⟩ aJ P ⟨aN,hR,a7⟩
       refine fS aN 2 ?_
       by_cases aK:((k:Int):Int)<((b.length:Int):Int)
       . have aS:k<b.length:=by omega
         have a2:=(y0 aN (i:=5) rfl:fW.ok c.fO c.fM u2)
         have aV:=o8.can hR aT a2 G (gy aS)
         refine fK aN 19 ?_
         refine cl O7 (TF c.fO c.fM z u2 P (ye aN 5 rfl) (fJ b k) aV) ?_
         rintro _ aL ⟨ap,rfl,Q,ht⟩
         have S:=ym 5 aN ht
         refine fQ S 7 ?_
         refine tN (?_)
         exact again ((k+1),ap) ⟨rfl,rfl,rfl,rfl,gm rO,trivial⟩ (⟨S,by rw[nY,gy aS];exact hR.next Q.1 Q.2,o_⟩) (by show (b.length-(k+1):Nat)<b.length-k;omega)
       . refine fK aN 14 ?_
         refine cl IA (Ll c.fO c.fM z u2 P (ye aN 5 rfl) x) ?_
         rintro _ aM ⟨rfl,ht⟩
         have C:=ym 5 aN ht
         refine fQ C 4 ?_
         refine gq (v:=(Za (fW.gK u2 c.fO c.fM x.u x.v))) GB rfl ?_
         have a4:=(y0 C (i:=5) rfl:fW.ok c.fO c.fM u2)
         have aZ:=J8 (ye C 5 rfl)
         have aX:k=b.length:=by omega
         rw[aX,qz]at hR
         have aW:=hR.fin aT a3 G
         exact⟨fW.gK u2 c.fO c.fM x.u x.v,rfl,⟨(fun h7=>Room.of a4 aZ h7 fun y hy=>(aW y).2 ⟨(E.1 y).2 hy.1,hy.2⟩),fun h7=>absurd h7 aO⟩,yo (yr (p:=s.ok c) (yc [_,_,_,_,_] _ C) F) za⟩
end
section
open Go Go.Sx
theorem sR{c:WC}{a:Nat}{s:WW}{w:World}(h:Own (WW.R c a s) w):s.ok c/\s.u.ok c.fO c.fM/\s.u.t.A.ok :=
 ⟨h.fact,(y0 (Own.of h.un) (i:=2) rfl:fW.ok c.fO c.fM s.u),J8 (kP (Own.of h.un) (i:=2) rfl)⟩
theorem U7(cb:Nat)(win now:Int)(w:World)(c:Own (Zv cb win now) w)(h1:1<=win)(e:gX .i64 win)(t:Int)(d:gX .i64 t)(a:now<=t)(b : -9223372036854775808<=t+win/\t+win<=9223372036854775807) :
 CR ya 66 (Zm cb t) w (fun r w' => r = .int .i64 0/\fZ (Zv cb win now) w w' (Zv cb win now)):=by
 have h:=Nw cb win now w c h1 e t d
 rw[NB a b]at h
 exact h
theorem TL(c:WC)(T:Nat)(s:WW)(w:World)(Y:Own (WW.R c T s) w)(x:Lv)(W:x.ok)(ab:s.now<=x.t)(ai:x.t<=1000000)(ha:s.added<1000000) :
 CR ya 29 (xo T x) w (fun r w' => ∃ (e:Int) (s2:WW),r = .int .i64 e/\WW.Uj c s s2 x e/\fZ (WW.R c T s) w w' (WW.R c T s2)):=by
 refine en Tryz.func29 Tryz.ntmps29 ?_
 have V:=Own.of Y.un
 have F:s.ok c:=Y.fact
 have ag:=F.w1
 have ak:=F.wi
 have al:=F.n0
 have am:=F.n1
 have af:fW.ok c.fO c.fM s.u:=(y0 V (i:=2) rfl)
 have aq:=F.en
 have ap:=F.e1
 have av:=F.v2
 have aw:=F.vn
 have an:=F.a0
 have ao:=F.a1
 have au:=F.la
 have ar:=af.sN
 refine fS V 2 ?_
 refine ij V (fun L A M N l=>?_)
 have B:=yg [1,2,3,4,5,0] l
 have m:=yr (p:=s.ok c) (yc [_,_,_,_,_] _ B) F
 refine fK l 7 ?_
 refine cl vV (wQ c T s A (ye m 0 rfl)) ?_
 rintro _ O ⟨rfl,S⟩
 have C:=ym 0 m S
 have f:=(jP C).unpack
 refine fK f 13 ?_
 by_cases P:(x.u:Int)=(x.v:Int)
 . refine fQ f 11 ?_
   refine gq (v:=xx) Tryz.results29 rfl ?_
   have D:=yr (p:=s.ok c) (yc [_,_,_,_,_] _ f) F
   exact⟨9,s,rfl,⟨WW.Step.same s x,fun U=>absurd U o_,fun U=>absurd o_ (fW.HY U).1⟩,yj D⟩
 . refine gJ f 15 fun E n=>?_
   refine cl O8 (U7 s.cb c.win s.now E (ye n 1 rfl) ag (kA o_) x.t W.t ab o_) ?_
   rintro _ G ⟨rfl,S⟩
   have k:=ym 1 n S
   refine fK k 19 ?_
   refine cmp rfl rfl rfl (oh o_) ?_
   have o:=yr (p:=s.ok c) (yc [_,_,_,_,_] _ k) F
   refine fK k 10 ?_
   refine cl X4 (ahN c T s G (ye o 0 rfl) x W) ?_
   rintro _ H ⟨g,rfl,q,S⟩
   have b:=ym 0 o S
   refine fK b 6 ?_
   by_cases I:(g:Int)=(0:Int)
   . have ae:g=0:=by have X:=@I;omega
     refine fK b 11 ?_
     refine cl OV (T4 c T s H (ye b 0 rfl) x.t ab ai) ?_
     rintro _ J ⟨h,rfl,a,S⟩
     have j:=ym 0 b S
     have aa:=sR (ye j 0 rfl)
     have ad:=q.1 ae h.u aa.2.1 aa.2.2 a.2.2.1
     have ah:x.t=h.now:=a.1.symm
     have ac:h.added<1000000:=by rw[a.2.1];exact ha
     refine fK j 6 ?_
     refine cl X5 (aht c T h J (ye j 0 rfl) x W ah ad ac) ?_
     rintro _ Q ⟨K,rfl,d,S⟩
     have z:=ym 0 j S
     refine fQ z 8 ?_
     refine gq (v:=Zc) Tryz.results29 rfl ?_
     obtain⟨aj,Z⟩:=d.2.2.1
     exact⟨0,K,rfl,⟨⟨.inr (d.1.trans a.1),by rw[d.2.1,a.2.1];exact Int.le_refl _,fun y hy=>((Z y).1 hy).elim (fun X=>.inl ((a.2.2.1 y).1 X).1) (fun e9=>.inr (by rw[e9];exact⟨rfl,rfl⟩))⟩,fun _=>⟨⟨aj,fun y=>by rw[<-a.2.2.2];exact(Z y).trans (or_congr_left (a.2.2.1 y))⟩,d.2.2.2.trans (by rw[a.2.2.2]),d.1.trans a.1,d.2.1.trans (by rw[a.2.1])⟩,fun _=>rfl⟩,yj z⟩
   . refine fQ b 12 ?_
     refine gq (v:=(Za g)) Tryz.results29 rfl ?_
     exact⟨g,s,rfl,⟨WW.Step.same s x,fun U=>absurd U o_,fun U=>q.2 U⟩,yj b⟩
theorem ahk(c:WC)(a:Nat)(s:WW)(w:World)(g:Own (WW.R c a s) w)(x:Lv)(i:x.ok)(j:s.now<=x.t)(k:x.t<=1000000)(h:s.added<1000000) :
 CR ya 29 (xo a x) w (fun r w' => ∃ (e:Int) (s2:WW),r = .int .i64 e/\WW.Step s s2 x/\fZ (WW.R c a s) w w' (WW.R c a s2)) :=
 CR.mono (TL c a s w g x i j k h) fun r w' ⟨e,s2,b,d,f⟩=>⟨e,s2,b,d.step,f⟩
theorem agY(fO fM ub:Nat)(s:fW)(w:World)(c:Own (fW.R fO fM ub s) w) :
 CR ya 53 (Zi ub) w (fun r w' => ∃ (v:Value) (ys:List Lv),v=r/\s.mo ys/\fZ (fW.R fO fM ub s) w w' (G1 fO fM ub s v ys)) :=
 CR.mono (agZ fO fM ub s w c) fun r w' ⟨v,ys,a,b,d⟩=>⟨v,ys,a.symm,b,d⟩
theorem ahy(c:WC)(q:Nat)(s:WW)(w:World)(y:Own (WW.R c q s) w) :
 CR ya 17 (Zi q) w (fun r w' => ∃ (v:Value) (ys:List Lv),v=r/\s.u.mo ys/\fZ (WW.R c q s) w w' (gj [(WW.R c q s),fL Lv.cells v 59 7 ys])):=by
 refine en Tryz.func17 Tryz.ntmps17 ?_
 have t:=Own.of y.un
 have o:s.ok c:=y.fact
 have A:=o.w1
 have B:=o.wi
 have C:=o.n0
 have D:=o.n1
 have z:fW.ok c.fO c.fM s.u:=(y0 t (i:=2) rfl)
 have H:=o.en
 have G:=o.e1
 have K:=o.v2
 have L:=o.vn
 have E:=o.a0
 have F:=o.a1
 have J:=o.la
 have I:=z.sN
 have b:=yr (p:=s.ok c) (yc [_,_,_,_,_] _ t) o
 refine fS t 9 ?_
 refine cl vV (wQ c q s w (ye b 0 rfl)) ?_
 rintro _ f ⟨rfl,x⟩
 have g:=ym 0 b x
 have a:=(jP g).unpack
 refine fK a 12 ?_
 refine cl XU (agY c.fO c.fM s.ub s.u f (ye a 2 rfl)) ?_
 rintro _ n ⟨d,h,rfl,j,x⟩
 have k:=yg [2,0,1,3,4] a
 have e:=yy (ym 0 k x)
 refine fQ e 4 ?_
 refine gq (v:=d) Tryz.results17 rfl ?_
 have l:=yg [2,3,0,4,5,1] e
 have m:=yr (p:=s.ok c) (yc [_,_,_,_,_] _ l) o
 exact⟨d,h,rfl,j,yj (yc [_,_] _ m)⟩
end
section
open Go Go.Sx
theorem ahx(ab:Nat)(v:AW)(w:World)(a:Own (AW.R ab v) w) :
 CR ya 92 (Zi ab) w (fun r w' => ∃ lv,lv=r/\fZ (AW.R ab v) w w' (gj [AW.R ab v,fL fR lv 3 1 (v.A.list v.A.begun)])) :=
 CR.mono (TX ab v w a) fun r w' ⟨lv,h,b⟩=>⟨lv,h.symm,b⟩
theorem agF(tb ab:Nat)(t:TW)(w:World)(hO:Own (TW.R tb ab t) w)(ak:t.A.used<=12) :
 CR ya 83 (Zi tb) w (fun r w' => ∃ (v:Value) (K:List Int),v=r/\((K.Pairwise fun a b=>a<b)/\∀ x,x∈K↔t.mem x)/\fZ (TW.R tb ab t) w w' (gj [(TW.R tb ab t),fL gW v 40 1 K])):=by
 refine enter (vs:=(Zh tb)) Tryz.func83 rfl Tryz.ntmps83 rfl ?_
 have ad:St _ (Hj tb ab t) w:=Own.of hO.un
 have hT:t.ok:=hO.fact
 have aa:t.A.ok:=(y0 ad (i:=3) rfl:t.w.A.ok)
 have ah:(t.A.list t.A.begun).length=t.A.used:=aa.AD
 have s:=yc [_,_,_] _ ad
 refine fS ad 9 ?_
 refine jI (vl:=(Zh tb)) rfl rfl vS (wP tb ab t w (kP s (i:=0) rfl) hT) ?_
 rintro _ u ⟨rfl,T⟩
 have h:St _ (Hj tb ab t) u:=(lP (R' := (Z0 tb ab t)) 0 s rfl T rfl).unpack
 refine fK h 12 ?_
 refine jI (vl:=(Zh ab)) rfl rfl IC (Lq ab t.w u (kP h (i:=3) rfl)) ?_
 rintro _ D ⟨rfl,T⟩
 have E:St _ (Hj tb ab t) D:=lP (R' := (AW.R ab t.w)) 3 h rfl T rfl
 refine qU (cf:=gW) (z0:=0) (m:=0) (c:=t.A.used) rfl rfl rfl yz jD rfl f_ d_ (mZ _) o_ o_ E ?_
 intro j y Q S G
 have l:St _ [fL gW (zM j t.A.used) 40 1 (((t.A.list t.A.begun).take 0).map (fJ t.ids)),blk tb 261 (oL tb ab t),fL gW t.iv 40 1 t.ids,fL fR t.cv 3 1 t.cs,(AW.R ab t.w)] y:=lU (cf:=gW) G (i:=0) rfl f_ (mZ _) (by simp only[maxLen];omega)
 refine fK l 10 ?_
 refine jI (vl:=(Zh ab)) rfl rfl Pd (ahx ab t.w y (kP l (i:=4) rfl)) ?_
 rintro _ H ⟨d,rfl,T⟩
 have I:=yg [4,0,1,2,3] l
 have n:St _ [(AW.R ab t.w),fL fR d 3 1 (t.A.list t.A.begun),fL gW (zM j t.A.used) 40 1 (((t.A.list t.A.begun).take 0).map (fJ t.ids)),blk tb 261 (oL tb ab t),fL gW t.iv 40 1 t.ids,fL fR t.cv 3 1 t.cs] H:=yy (lP (R' := (gj [(AW.R ab t.w),fL fR d 3 1 (t.A.list t.A.begun)])) 0 I rfl T rfl)
 refine iL (m:=(t.A.list t.A.begun).length) 1 rfl rfl yd n rfl ?_
 have J:=yg [3,4,5,0,1,2] n
 refine gF n 4 ?_
 refine lp (α:=Nat×Value) (fun(k,F)=>[(0,(Zb tb)),(3,F),(19,d),(20,(Za ((t.A.list t.A.begun).length:Int))),(21,(Za k))]) (fun(k,F) w1=>St [(w,(TW.R tb ab t).gG)] (L7 tb ab t d (t.A.list t.A.begun) F (((t.A.list t.A.begun).take k).map (fJ t.ids))) w1/\k<=(t.A.list t.A.begun).length) (fun(k,F)=>(t.A.list t.A.begun).length-k) (0,(zM j t.A.used)) ⟨rfl,rfl,rfl,rfl,gm (by first|rfl|omega),trivial⟩ (⟨J,o_⟩) ?_
 rintro⟨k,F⟩ U L ⟨Z,aj⟩
 refine fS Z 2 ?_
 by_cases V:((k:Int):Int)<(((t.A.list t.A.begun).length:Int):Int)
 . have ae:k<(t.A.list t.A.begun).length:=by omega
   have ai:fJ (t.A.list t.A.begun) k<t.ids.length:=by rw[hT.vY];exact((aa.oQ _).1 (qS.2 ⟨k,ae,rfl⟩)).1
   refine fK Z 25 ?_
   refine jL (vs:=(Zq (fJ t.ids (fJ (t.A.list t.A.begun) k)))) (cs:=(Zq (fJ t.ids (fJ (t.A.list t.A.begun) k)))) rfl rfl yz jD rfl (by simp[Value.cells]) rfl rfl rfl Z ?_
   intro o M W X e
   have e:St _ (Hq o ([(fJ t.ids (fJ (t.A.list t.A.begun) k))]) tb ab t d (t.A.list t.A.begun) F (((t.A.list t.A.begun).take k).map (fJ t.ids))) M:=e
   refine lF (cf:=gW) (ys:=(((t.A.list t.A.begun).take k).map (fJ t.ids))) (zs:=[(fJ t.ids (fJ (t.A.list t.A.begun) k))]) (LL:=fun f=>(Hq o ([(fJ t.ids (fJ (t.A.list t.A.begun) k))]) tb ab t d (t.A.list t.A.begun) f ((((t.A.list t.A.begun).take k).map (fJ t.ids))++[(fJ t.ids (fJ (t.A.list t.A.begun) k))]))) 6 rfl rfl rfl yz jD rfl d_ e rfl (kO e (i:=0) rfl) (fun x hx=>zn.1 (show List.all _ _=true from rfl) x hx) (by simp only[zq,ze,zh,zo,zx,maxLen];omega) (by simp only[zq,ze,zh,zo,zx,maxLen];omega) f_ ?_
   intro f N q Y
   have q:St _ (Hq o ([(fJ t.ids (fJ (t.A.list t.A.begun) k))]) tb ab t d (t.A.list t.A.begun) f ((((t.A.list t.A.begun).take k).map (fJ t.ids))++[(fJ t.ids (fJ (t.A.list t.A.begun) k))])) N:=q
   have z:=yg [1,2,3,4,5,6] q
   refine fQ z 8 ?_
   refine tN (?_)
   exact again ((k+1),f) ⟨rfl,rfl,rfl,rfl,gm (by first|rfl|omega),trivial⟩ (⟨by rw[C5 _ ae];exact z,o_⟩) (by show ((t.A.list t.A.begun).length-(k+1):Nat)<(t.A.list t.A.begun).length-k;omega)
 . refine fK Z 13 ?_
   refine jI (vl:=[F]) rfl rfl WR (aep F (((t.A.list t.A.begun).take k).map (fJ t.ids)) L (kP Z (i:=5) rfl) (by rw[zo,zx];omega)) ?_
   rintro _ O ⟨g,rfl,B,T⟩
   have C:St _ (L7 tb ab t d (t.A.list t.A.begun) F g) O:=lP (R' := fL gW F 40 1 g) 5 Z rfl T rfl
   refine fQ C 9 ?_
   refine gq (v:=F) Tryz.results83 rfl ?_
   have P:=yg [0,1,2,3,5,4] C
   have af:k=(t.A.list t.A.begun).length:=by omega
   subst af
   have ac:=B.1
   rw[qz]at ac
   have ag:=(ac.nodup_iff).2 (TW.PU hT aa)
   exact⟨F,g,rfl,⟨B.2.k7 ag,fun x=>ac.mem_iff.trans (TW.Jb aa x)⟩,yo (R' := (gj [(TW.R tb ab t),fL gW F 40 1 g])) (yc [_,_] _ (yr (p:=t.ok) (yc [_,_,_,_] _ P) hT)) za⟩
theorem agX(fO fM ub:Nat)(s:fW)(w:World)(n:Own (fW.R fO fM ub s) w)(y:fO<=12) :
 CR ya 46 (Zi ub) w (fun r w' => ∃ (v:Value) (K:List Int),v=r/\s.oI K/\fZ (fW.R fO fM ub s) w w' (gj [(fW.R fO fM ub s),fL gW v 40 1 K])):=by
 refine en Tryz.func46 Tryz.ntmps46 ?_
 have o:=Own.of n.un
 have l:s.ok fO fM:=n.fact
 have q:s.t.A.used<=12:=by have u:=l.tok.ul;have x:=l.tn;omega
 have b:=yr (p:=s.ok fO fM) (yc [_,_,_,_,_,_] _ o) l
 refine fS o 9 ?_
 refine cl Ak (Bd fO fM ub s w (ye b 0 rfl)) ?_
 rintro _ f ⟨rfl,m⟩
 have g:=ym 0 b m
 have a:=(jP g).unpack
 refine fK a 12 ?_
 refine cl Ye (agF s.tb s.ab s.t f (ye a 5 rfl) q) ?_
 rintro _ k ⟨c,h,rfl,d,m⟩
 have i:=yg [5,0,1,2,3,4] a
 have e:=yy (ym 0 i m)
 refine fQ e 4 ?_
 refine gq (v:=c) Tryz.results46 rfl ?_
 have j:=yg [2,3,4,5,6,0,1] e
 exact⟨c,h,rfl,⟨d.1,d.2⟩,yo (yc [_,_] _ (yr (p:=fW.ok fO fM s) (yc [_,_,_,_,_,_] _ j) l)) za⟩
theorem TQ(c:WC)(q:Nat)(s:WW)(w:World)(y:Own (WW.R c q s) w)(A:c.fO<=12) :
 CR ya 13 (Zi q) w (fun r w' => ∃ (v:Value) (K:List Int),v=r/\s.u.oI K/\fZ (WW.R c q s) w w' (gj [(WW.R c q s),fL gW v 40 1 K])):=by
 refine en Tryz.func13 Tryz.ntmps13 ?_
 have t:=Own.of y.un
 have o:s.ok c:=y.fact
 have B:=o.w1
 have C:=o.wi
 have D:=o.n0
 have E:=o.n1
 have z:fW.ok c.fO c.fM s.u:=(y0 t (i:=2) rfl)
 have I:=o.en
 have H:=o.e1
 have M:=o.v2
 have N:=o.vn
 have F:=o.a0
 have G:=o.a1
 have L:=o.la
 have J:=z.sN
 have b:=yr (p:=s.ok c) (yc [_,_,_,_,_] _ t) o
 refine fS t 9 ?_
 refine cl vV (wQ c q s w (ye b 0 rfl)) ?_
 rintro _ f ⟨rfl,x⟩
 have g:=ym 0 b x
 have a:=(jP g).unpack
 refine fK a 12 ?_
 refine cl XR (agX c.fO c.fM s.ub s.u f (ye a 2 rfl) A) ?_
 rintro _ n ⟨d,h,rfl,j,x⟩
 have k:=yg [2,0,1,3,4] a
 have e:=yy (ym 0 k x)
 refine fQ e 4 ?_
 refine gq (v:=d) Tryz.results13 rfl ?_
 have l:=yg [2,3,0,4,5,1] e
 have m:=yr (p:=s.ok c) (yc [_,_,_,_,_] _ l) o
 exact⟨d,h,rfl,j,yj (yc [_,_] _ m)⟩
theorem ahq(c:WC)(t:Nat)(s:WW)(w:World)(u:Own (WW.R c t s) w) :
 CR ya 60 (Zi t) w (fun r w' => r=(Eb c.win c.fM c.fO c.ki)/\fZ (WW.R c t s) w w' (WW.R c t s)):=by
 refine en Tryz.func60 Tryz.ntmps60 ?_
 have x:=Own.of u.un
 have q:s.ok c:=u.fact
 have z:=q.w1
 have A:=q.wi
 have B:=q.n0
 have C:=q.n1
 refine fS x 2 ?_
 refine iH x (fun j e k l a=>?_)
 have f:=yg [1,2,3,4,5,0] a
 have b:=yr (p:=s.ok c) (yc [_,_,_,_,_] _ f) q
 refine fK a 6 ?_
 refine cl vV (wQ c t s e (ye b 0 rfl)) ?_
 rintro _ m ⟨rfl,y⟩
 have g:=ym 0 b y
 have h:=(jP g).unpack
 refine jZ h 16 fun n d=>?_
 refine R6 (v:=(Eb c.win c.fM c.fO c.ki)) Tryz.results60 (nE (cs:=(Hr c.win c.fM c.fO c.ki)) rfl Gz rfl Db rfl (lM d (i:=5) (o:=0) (vs:=(Hr c.win c.fM c.fO c.ki)) rfl rfl)) ?_
 exact⟨rfl,yo (yr (p:=s.ok c) (yc [_,_,_,_,_] _ d) q) za⟩
end
section
open Go Go.Sx
theorem AO(v:Value)(xs:List Int)(x:Int)(w:World)(hv:iw 1 gW (fun _=>True) w v xs)(hs:xs.Pairwise fun a b=>a<b)(h:xs.length<=1000000) :
 CR ya 44 #[v,(Zn x)] w (fun r w' => r = .int .i64 (gN xs x:Int)/\gx [] w w'):=by
 refine en Tryz.func44 Tryz.ntmps44 ?_
 have g:=yt w
 refine fS g 9 ?_
 refine cl Yd (U1 v xs x w hv hs h) ?_
 rintro _ e ⟨f,rfl,d⟩
 have c:=yq g d
 refine fQ c 14 ?_
 refine gq (v:=(Za (gN xs x:Int))) Tryz.results44 rfl ?_
 exact⟨rfl,c.gz s_⟩
theorem Rz(c:WC)(F:Nat)(s:WW)(w:World)(hO:Own (WW.R c F s) w)(am:c.fO<=12) :
 CR ya 31 (Zi F) w (fun r w' => ∃ (iv ev lv:Value) (K:List Int) (L:List Lv) (es:List Ge),r = .tuple #[iv,ev,lv]/\(s.u.oI K/\s.u.mo L/\mO K L es L.length)/\fZ (WW.R c F s) w w' (gj (D5 c F s iv K ev es lv L))):=by
 refine enter (vs:=(Zh F)) Tryz.func31 rfl Tryz.ntmps31 rfl ?_
 have aj:=yp hO
 have T:=sR hO
 have au:=T.1.en
 have ar:=T.1.w1
 refine fS aj 10 ?_
 refine jI (vl:=(Zh F)) rfl rfl Om (TQ c F s w (kP aj (i:=0) rfl) am) ?_
 rintro _ A ⟨d,b,rfl,g,ht⟩
 have p:St _ [(WW.R c F s),fL gW d 40 1 b] A:=yy (lP (R' := (gj [(WW.R c F s),fL gW d 40 1 b])) 0 aj rfl ht rfl)
 have an:=g.len T.2.1 T.2.2
 refine fK p 1 ?_
 refine jI (vl:=(Zh F)) rfl rfl W0 (ahy c F s A (kP p (i:=0) rfl)) ?_
 rintro _ D ⟨e,a,rfl,q,ht⟩
 have t:St _ [(WW.R c F s),fL Lv.cells e 59 7 a,fL gW d 40 1 b] D:=yy (lP (R' := (gj [(WW.R c F s),fL Lv.cells e 59 7 a])) 0 p rfl ht rfl)
 have ao:=q.len T.2.1
 refine fK t 7 ?_
 refine iL (m:=a.length) 1 rfl rfl r7 t rfl (qU (cf:=Ge.cells) (z0:=⟨0,0,0⟩) (m:=a.length) (c:=a.length) rfl rfl rfl nG uS rfl f_ d_ (zk _) o_ o_ t ?_)
 intro j l Y Z E
 have n:St _ [fL Ge.cells (Zd j a.length) 91 3 (List.replicate a.length ⟨0,0,0⟩),(WW.R c F s),fL Lv.cells e 59 7 a,fL gW d 40 1 b] l:=lU (cf:=Ge.cells) E (i:=0) rfl f_ (zk _) (by simp only[maxLen];omega)
 refine fK n 7 ?_
 refine iL (m:=a.length) 2 rfl rfl r7 n rfl ?_
 have G:St _ [(WW.R c F s),fL Ge.cells (Zd j a.length) 91 3 (List.replicate a.length ⟨0,0,0⟩),fL Lv.cells e 59 7 a,fL gW d 40 1 b] l:=lN n (List.Perm.swap _ _ _)
 have H:St _ [(WW.R c F s),fL Ge.cells (Zd j a.length) 91 3 (List.replicate a.length ⟨0,0,0⟩),fL gW d 40 1 b,fL Lv.cells e 59 7 a] l:=lN G (List.Perm.cons _ (List.Perm.cons _ (List.Perm.swap _ _ _)))
 have I:St _ [(WW.R c F s),fL gW d 40 1 b,fL Ge.cells (Zd j a.length) 91 3 (List.replicate a.length ⟨0,0,0⟩),fL Lv.cells e 59 7 a] l:=lN H (List.Perm.cons _ (List.Perm.swap _ _ _))
 refine gF n 4 ?_
 refine lp (α:=Nat×List Ge×Value) (fun(k,es,ev)=>[(5,d),(6,e),(7,ev),(17,e),(18,(Za a.length)),(19,(Za k))]) (fun(k,es,ev) w1=>St [(w,(WW.R c F s).gG)] (D5 c F s d b ev es e a) w1/\mO b a es k/\k<=a.length) (fun(k,es,ev)=>a.length-k) (0,(List.replicate a.length ⟨0,0,0⟩),(Zd j a.length)) ⟨rfl,rfl,rfl,rfl,rfl,gm (by first|rfl|omega),trivial⟩ (⟨I,mO.start,o_⟩) ?_
 rintro⟨k,es,ev⟩ aa ab ⟨ah,ai,aq⟩
 have ap:=ai.len
 refine fS ah 2 ?_
 by_cases ac:((k:Int):Int)<((a.length:Int):Int)
 . have ak:k<a.length:=by omega
   have hE:=g.ends T.2.1 q ak
   refine fK ah 14 ?_
   refine iH ah (fun h ad ae af J=>?_)
   refine tL J 4 fun ag M=>?_
   refine kY mixed [([0,1,2,3,4,5,7,8,9,10,12,13,14,6],[10,14]),([11],[14])] [15,16,17] M (fun N x=>jO ?_)
   refine fK x 13 ?_
   refine jI (vl:=[d,(Zn ((fJ a k).u))]) rfl rfl Aj (AO d b ((fJ a k).u) N (Sl.any (uZ x (i:=2) rfl f_)) g.k7 o_) ?_
   rintro _ B ⟨rfl,O⟩
   have y:St _ (ME h (fJ a k) c F s d b ev es e a) B:=yq x O
   refine fQ y 1 ?_
   refine kJ (jO ?_)
   refine jI (vl:=[d,(Zn ((fJ a k).v))]) rfl rfl Aj (AO d b ((fJ a k).v) B (Sl.any (uZ y (i:=2) rfl f_)) g.k7 o_) ?_
   rintro _ P ⟨rfl,Q⟩
   have z:St _ (ME h (fJ a k) c F s d b ev es e a) P:=yq y Q
   refine fQ z 1 ?_
   refine kJ (kZ ?_)
   refine ja (pvs:=[(0,(Za (gN b ((fJ a k).u):Int))),(1,(Za (gN b ((fJ a k).v):Int))),(2,(Za ((fJ a k).wt)))]) (v:=.agg #[(Za (gN b ((fJ a k).u):Int)),(Za (gN b ((fJ a k).v):Int)),(Za ((fJ a k).wt))]) rfl rfl (jq [(0,(Ze (gN b ((fJ a k).u):Int))),(1,(Ze (gN b ((fJ a k).v):Int))),(2,(Ze ((fJ a k).wt)))] uS acE rfl ⟨rfl,rfl,rfl,rfl,rfl,rfl,trivial⟩ rfl) (fK z 1 ?_)
   refine iO (f:=(fun _=>(⟨(gN b ((fJ a k).u)),(gN b ((fJ a k).v)),(fJ a k).wt⟩:Ge))) 3 z (fun o C=>?_)
   refine fQ C 7 ?_
   refine tN (?_)
   have S:St _ [(WW.R c F s),blk h 59 (Z9 (fJ a k)),fL gW d 40 1 b,fL Ge.cells ev 91 3 (fN es k (fun _=>(⟨(gN b ((fJ a k).u)),(gN b ((fJ a k).v)),(fJ a k).wt⟩:Ge))),fL Lv.cells e 59 7 a] o:=lN C (List.Perm.swap _ _ _)
   have U:St _ [(WW.R c F s),fL gW d 40 1 b,blk h 59 (Z9 (fJ a k)),fL Ge.cells ev 91 3 (fN es k (fun _=>(⟨(gN b ((fJ a k).u)),(gN b ((fJ a k).v)),(fJ a k).wt⟩:Ge))),fL Lv.cells e 59 7 a] o:=lN S (List.Perm.cons _ (List.Perm.swap _ _ _))
   have V:St _ [(WW.R c F s),fL gW d 40 1 b,fL Ge.cells ev 91 3 (fN es k (fun _=>(⟨(gN b ((fJ a k).u)),(gN b ((fJ a k).v)),(fJ a k).wt⟩:Ge))),blk h 59 (Z9 (fJ a k)),fL Lv.cells e 59 7 a] o:=lN U (List.Perm.cons _ (List.Perm.cons _ (List.Perm.swap _ _ _)))
   have W:St _ [(WW.R c F s),fL gW d 40 1 b,fL Ge.cells ev 91 3 (fN es k (fun _=>(⟨(gN b ((fJ a k).u)),(gN b ((fJ a k).v)),(fJ a k).wt⟩:Ge))),fL Lv.cells e 59 7 a,blk h 59 (Z9 (fJ a k))] o:=lN V (List.Perm.cons _ (List.Perm.cons _ (List.Perm.cons _ (List.Perm.swap _ _ _))))
   have X:=St.sub (L' := (D5 c F s d b ev (fN es k (fun _=>(⟨(gN b ((fJ a k).u)),(gN b ((fJ a k).v)),(fJ a k).wt⟩:Ge))) e a)) W (List.Sublist.cons_cons _ (List.Sublist.cons_cons _ (List.Sublist.cons_cons _ (List.Sublist.cons_cons _ (List.Sublist.cons _ (List.Sublist.refl _))))))
   exact again ((k+1),fN es k (fun _=>(⟨(gN b ((fJ a k).u)),(gN b ((fJ a k).v)),(fJ a k).wt⟩:Ge)),ev) ⟨rfl,rfl,rfl,rfl,rfl,gm (by first|rfl|omega),trivial⟩ (⟨X,ai.next ak g.k7 hE.1 hE.2,o_⟩) (by show (a.length-(k+1):Nat)<a.length-k;omega)
 . refine fQ ah 21 ?_
   refine tK (v:=d) (v' := ev) (v'' := e) Tryz.results31 rfl rfl rfl ?_
   have al:k=a.length:=by omega
   exact⟨d,ev,e,b,a,es,rfl,⟨g,q,by rw[<-al];exact ai⟩,yo (R' := (gj (D5 c F s d b ev es e a))) (yc [_,_,_,_] _ ah) za⟩
theorem TJ(c:WC)(k:Nat)(s:WW)(w:World)(m:Own (WW.R c k s) w) :
 CR ya 26 (Zi k) w (fun r w' => ∃ (o:Nat),r = .tuple (Zy o)/\fZ (WW.R c k s) w w' (L4 c k s o)):=by
 refine en Tryz.func26 Tryz.ntmps26 ?_
 have l:=yp m
 have n:=sR m
 have t:=n.1.en
 have q:=n.1.w1
 refine fS l 10 ?_
 refine uz (a:=some ⟨k,0,none⟩) (c:=false) rfl rfl rfl Bm rfl (fK l 2 ?_)
 refine cl XY (ahq c k s w (ye l 0 rfl)) ?_
 rintro _ g ⟨rfl,p⟩
 have b:=ym 0 l p
 refine Py (cs:=#[(Za c.win),(Za c.fM),(Za c.fO),(Za c.ki)]) (v:=(Za c.win)) rfl rfl Gz rfl sX rfl rfl (cmp rfl rfl rfl (kV o_) (fK b 9 ?_))
 refine ja (pvs:=[(0,(Zb k))]) (v:=.agg #[(Zb k),Zp,tj,Zg,Zc,Zg,Zg,Zg,Zg,Zg,Zt,Zt,Zc]) rfl rfl (jq [(0,(Zh k))] Tv acD rfl ⟨rfl,rfl,trivial⟩ rfl) (ij b (fun d h i j e=>?_))
 refine fQ e 5 ?_
 refine iC (v:=(Zb d)) (v' := Zc) Tryz.results26 rfl rfl ?_
 have f:=yg [1,0] e
 exact⟨d,rfl,yj (yc [_,_] _ f)⟩
theorem ahj(b e:Nat)(w:World)(f:Own (G0 b e) w) :
 CR ya 30 (Zi b) w (fun r w' => r = .bool true/\fZ (G0 b e) w w' (G0 b e)):=by
 refine en Tryz.func30 Tryz.ntmps30 ?_
 have d:=yp f
 refine fS d 8 ?_
 refine lS (a:=some ⟨b,0,none⟩) (c:=true) rfl rfl rfl Gy rfl (fK d 5 ?_)
 refine lS (a:=some ⟨e,0,none⟩) (c:=true) rfl rfl rfl Bm rfl (fQ d 5 ?_)
 refine gq (v:=Zf) Tryz.results30 rfl ?_
 exact⟨rfl,yj d⟩
theorem ZA(c:WC)(p q:Nat)(s:WW)(w:World)(y:Own (uq p q c s) w)(z:c.fO<=12) :
 CR ya 7 (Zi p) w (fun r w' => ∃ (iv ev lv:Value) (K:List Int) (L:List Lv) (es:List Ge),r = .tuple #[iv,ev]/\(s.u.oI K/\s.u.mo L/\mO K L es L.length)/\fZ (uq p q c s) w w' (gj [(uq p q c s),fL gW iv 40 1 K,fL Ge.cells ev 91 3 es])):=by
 refine en Tryz.func7 Tryz.ntmps7 ?_
 have t:=(yp y).unpack
 refine fS t 10 ?_
 refine cl vU (ahj p q w (ye t 0 rfl)) ?_
 rintro _ f ⟨rfl,x⟩
 have a:=ym 0 t x
 refine fK a 12 ?_
 refine cl O1 (Rz c q s f (ye a 1 rfl) z) ?_
 rintro _ o ⟨b,d,g,h,i,j,rfl,k,x⟩
 have l:=yg [1,0] a
 have e:=yy (ym 0 l x)
 refine fQ e 18 ?_
 refine iC (v:=b) (v' := d) Tryz.results7 rfl rfl ?_
 have m:=yg [4,0,1,2,3] e
 have n:=yc [_,_] _ m
 exact⟨b,d,g,h,i,j,rfl,k,yj (yc [_,_,_] _ n)⟩
end
section
open Go Go.Sx
def Ds.R(a n:Nat)(s:Ds):fU:=j7 (s.ok n) (qa a s)
theorem Iq(b n:Nat)(s:Ds)(w:World)(f:Own (qa b s) w)(d:Nat->Nat)(hd:s.uM d n)(h:n<=1000000) :
 CR ya 72 (Zi b) w (fun r w' => r = .bool true/\fZ (qa b s) w w' (qa b s)):=by
 have j:=hd.ul
 have g:=hd.ll
 have i:=hd.sl
 refine en Tryz.func72 Tryz.ntmps72 ?_
 have e:=Own.of f
 refine fS e 8 ?_
 refine lS (a:=some ⟨b,0,none⟩) (c:=true) rfl rfl rfl Tryz.underlying96 rfl (fK e 6 ?_)
 refine Am (a:=⟨b,0,none⟩) rfl rfl rfl Tryz.underlying96 K0 (fQ e 5 ?_)
 refine gq (v:=Zf) Tryz.results72 rfl ?_
 exact⟨rfl,yj (yc [_,_,_,_] _ e)⟩
theorem N7(e n:Nat)(s:Ds)(w:World)(g:Own (qa e s) w)(d:Nat->Nat)(hd:s.uM d n)(h:n<=1000000)(a0:Nat)(j:a0<n) :
 CR ya 131 (Zm e a0) w (fun r w' => r = .bool true/\fZ (qa e s) w w' (qa e s)):=by
 have o:=hd.ul
 have k:=hd.ll
 have l:=hd.sl
 refine en Tryz.func131 Tryz.ntmps131 ?_
 have f:=Own.of g
 have b:=yc [_,_,_,_] _ f
 refine fS f 8 ?_
 refine cl IT (Iq e n s w (ye b 0 rfl) d hd h) ?_
 rintro _ c ⟨rfl,i⟩
 have a:=(yi b i)
 refine fK a 2 ?_
 refine cmp rfl rfl rfl (nv o_) (fK a 7 ?_)
 refine iL (m:=s.up.length) 1 rfl rfl yd a rfl (cmp rfl rfl rfl (pI o_) (fQ a 5 ?_))
 refine gq (v:=Zf) Tryz.results131 rfl ?_
 exact⟨rfl,yj (yc [_,_,_,_] _ a)⟩
theorem Io(k n:Nat)(s:Ds)(w:World)(p:Own (qa k s) w)(d:Nat->Nat)(hd:s.uM d n)(x:n<=1000000)(a0:Nat)(q:a0<n) :
 CR ya 73 (Zm k a0) w (fun r w' => ∃ (i:Nat) (up:List Nat),r = .int .i64 (i:Int)/\(pZ d n s a0 up i/\fJ up i=i)/\fZ (qa k s) w w' (G5 k s up)):=by
 have A:=hd.ul
 have u:=hd.ll
 have z:=hd.sl
 refine en Tryz.func73 Tryz.ntmps73 ?_
 have o:=Own.of p
 refine qV o 11 ?_
 refine lp (α:=Nat×List Nat) (fun(i,up)=>[(0,(Zb k)),(1,(Za i)),(4,Zc)]) (fun(i,up) w1=>St [(w,(qa k s).gG)] (BU k s up) w1/\pZ d n s a0 up i) (fun(i,up)=>d i) (a0,s.up) ⟨rfl,gm rO,rfl,trivial⟩ (⟨o,pZ.start hd q⟩) ?_
 rintro⟨i,up⟩ c e ⟨m,l⟩
 have B:up.length=n:=l.ok.ul
 have t:=l.an
 have y:fJ up i<n:=l.ok.ub i t
 refine fS m 18 ?_
 by_cases g:((((fJ up i):Nat):Int):Int)=((i:Int):Int)
 . refine fQ m 18 ?_
   refine gq (v:=(Za i)) Tryz.results73 rfl ?_
   exact⟨i,up,rfl,⟨l,o_⟩,yj (yc [_,_,_,_] _ m)⟩
 . refine gJ m 21 fun h b=>?_
   refine iO (f:=(fun _=>(fJ up (fJ up i)))) 1 b (fun j a=>?_)
   refine fQ a 13 ?_
   refine tN (?_)
   exact again ((fJ (fN up i (fun _=>(fJ up (fJ up i)))) i),fN up i (fun _=>(fJ up (fJ up i)))) ⟨rfl,gm rO,rfl,trivial⟩ (⟨a,(l.PK o_).1⟩) (l.PK o_).2
theorem Ob(F n:Nat)(s:Ds)(w:World)(hO:Own (Ds.R F n s) w)(hn:n<=1000000)(a b:Nat)(ha:a<n)(hb:b<n) :
 CR ya 71 (Zu F a b) w (fun r w' => ∃ s2:Ds,(r = .tuple #[.bool (decide (fJ s.lb a≠fJ s.lb b)),.int .i64 0])/\s2.lb=jt s.lb (fJ s.lb a) (fJ s.lb b)/\fZ (Ds.R F n s) w w' (Ds.R F n s2)):=by
 refine enter (vs:=(zQ F a b)) Tryz.func71 rfl Tryz.ntmps71 rfl ?_
 obtain⟨⟨d,hd⟩,aC⟩:=hO.fact
 have aE:=hd.ul
 have aD:=hd.ll
 have ax:=hd.sl
 have ay:St _ (xB F s) w:=Own.of hO.un
 have q:=yc [_,_,_,_] _ ay
 refine fS ay 10 ?_
 refine jI (vl:=(Zh F)) rfl rfl IT (Iq F n s w (kP q (i:=0) rfl) d hd hn) ?_
 rintro _ t ⟨rfl,T⟩
 have u:St _ (xB F s) t:=(lP (R' := (qa F s)) 0 q rfl T rfl).unpack
 have x:=yc [_,_,_,_] _ u
 refine fK u 11 ?_
 refine jI (vl:=(sI F a)) rfl rfl On (N7 F n s t (kP x (i:=0) rfl) d hd hn a o_) ?_
 rintro _ y ⟨rfl,T⟩
 have z:St _ (xB F s) y:=(lP (R' := (qa F s)) 0 x rfl T rfl).unpack
 have A:=yc [_,_,_,_] _ z
 refine fK z 4 ?_
 refine jI (vl:=(sI F b)) rfl rfl On (N7 F n s y (kP A (i:=0) rfl) d hd hn b o_) ?_
 rintro _ B ⟨rfl,T⟩
 have C:St _ (xB F s) B:=(lP (R' := (qa F s)) 0 A rfl T rfl).unpack
 have D:=yc [_,_,_,_] _ C
 refine fK C 11 ?_
 refine jI (vl:=(sI F a)) rfl rfl IU (Io F n s B (kP D (i:=0) rfl) d hd hn a o_) ?_
 rintro _ E ⟨g,o,rfl,k,T⟩
 have G:St _ (BU F s o) E:=(lP (R' := (G5 F s o)) 0 D rfl T rfl).unpack
 have P:=k.1.ok
 have au:=k.1.an
 have H:=yc [_,_,_,_] _ G
 refine fK G 2 ?_
 refine jI (vl:=(sI F b)) rfl rfl IU (Io F n (s.wu o) E (kP H (i:=0) rfl) d P hn b o_) ?_
 rintro _ Q ⟨h,j,rfl,I,T⟩
 have l:St _ (BU F s j) Q:=(lP (R' := (G5 F s j)) 0 H rfl T rfl).unpack
 obtain⟨ap,az,aB,au,aA,av,aw,aq⟩:=k.1.two k.2 I.1 I.2
 have aF:j.length=n:=ap.ul
 refine fK l 9 ?_
 by_cases Z:((g:Int):Int)=((h:Int):Int)
 . refine fQ l 12 ?_
   refine iC (v:=Zp) (v' := Zc) Tryz.results71 rfl rfl ?_
   exact⟨(s.wu j),congrArg (fun b=>Value.tuple #[.bool b,.int .i64 0]) (by rw[eq_comm,decide_eq_false_iff_not,Decidable.not_not];exact aq.1 o_),(by rw[aq.1 o_,QY];rfl),yo (R' := (Ds.R F n (s.wu j))) (yr (p:=Ds.ok n (s.wu j)) (yc [_,_,_,_] _ l) (⟨⟨d,ap⟩,aC⟩)) za⟩
 . refine gJ l 23 fun aa m=>?_
   by_cases ab:((fJ s.sz g):Int)<((fJ s.sz h):Int)
   . refine fK m 20 ?_
     refine iO (f:=(fun _=>h)) 1 m (fun ac S=>?_)
     refine gJ S 18 fun ad J=>?_
     refine ar (a:=(fJ s.sz h)) (b:=(fJ s.sz g)) (c:=(fJ s.sz h)+(fJ s.sz g)) (e:=IntKind.i64.wrap ((fJ s.sz h)+(fJ s.sz g))) rfl rfl rfl rfl rfl (fK J 1 ?_)
     refine iO (f:=(fun _=>IntKind.i64.wrap ((fJ s.sz h)+(fJ s.sz g)))) 3 J (fun ae U=>?_)
     refine gJ U 23 fun af K=>?_
     refine min2 (a:=(((fJ s.le h):Nat):Int)) (b:=(((fJ s.le g):Nat):Int)) (c:=((min (fJ s.le h) (fJ s.le g):Nat):Int)) rfl rfl rfl Fp (fK K 1 ?_)
     refine iO (f:=(fun _=>(min (fJ s.le h) (fJ s.le g)))) 2 K (fun ag L=>?_)
     refine fK L 8 ?_
     refine ar (a:=s.cnt) (b:=1) (c:=s.cnt-1) (e:=IntKind.i64.wrap (s.cnt-1)) rfl rfl rfl rfl rfl (jZ L 12 fun ah V=>?_)
     refine iC (v:=Zf) (v' := Zc) Tryz.results71 rfl rfl ?_
     exact⟨(⟨s.uv,s.lv,s.sv,fN j g (fun _=>h),fN s.le h (fun _=>(min (fJ s.le h) (fJ s.le g))),fN s.sz h (fun _=>IntKind.i64.wrap ((fJ s.sz h)+(fJ s.sz g))),IntKind.i64.wrap (s.cnt-1),jt s.lb (fJ s.lb h) (fJ s.lb g)⟩:Ds),congrArg (fun b=>Value.tuple #[.bool b,.int .i64 0]) (by rw[eq_comm,decide_eq_true_iff];exact fun e=>absurd (aq.2 e) o_),QW.trans (QX av aw),yo (R' := (Ds.R F n (⟨s.uv,s.lv,s.sv,fN j g (fun _=>h),fN s.le h (fun _=>(min (fJ s.le h) (fJ s.le g))),fN s.sz h (fun _=>IntKind.i64.wrap ((fJ s.sz h)+(fJ s.sz g))),IntKind.i64.wrap (s.cnt-1),jt s.lb (fJ s.lb h) (fJ s.lb g)⟩:Ds))) (yr (p:=Ds.ok n (⟨s.uv,s.lv,s.sv,fN j g (fun _=>h),fN s.le h (fun _=>(min (fJ s.le h) (fJ s.le g))),fN s.sz h (fun _=>IntKind.i64.wrap ((fJ s.sz h)+(fJ s.sz g))),IntKind.i64.wrap (s.cnt-1),jt s.lb (fJ s.lb h) (fJ s.lb g)⟩:Ds)) (yc [_,_,_,_] _ V) (Ds.join ap aA au aB az o_ (by rw[gC];exact ax) (TD ap.KT (Gi _)) rfl (Gi _))) za⟩
   . refine fK m 15 ?_
     refine iO (f:=(fun _=>g)) 1 m (fun ai W=>?_)
     refine gJ W 18 fun aj M=>?_
     refine ar (a:=(fJ s.sz g)) (b:=(fJ s.sz h)) (c:=(fJ s.sz g)+(fJ s.sz h)) (e:=IntKind.i64.wrap ((fJ s.sz g)+(fJ s.sz h))) rfl rfl rfl rfl rfl (fK M 1 ?_)
     refine iO (f:=(fun _=>IntKind.i64.wrap ((fJ s.sz g)+(fJ s.sz h)))) 3 M (fun ak X=>?_)
     refine gJ X 23 fun al N=>?_
     refine min2 (a:=(((fJ s.le g):Nat):Int)) (b:=(((fJ s.le h):Nat):Int)) (c:=((min (fJ s.le g) (fJ s.le h):Nat):Int)) rfl rfl rfl Fp (fK N 1 ?_)
     refine iO (f:=(fun _=>(min (fJ s.le g) (fJ s.le h)))) 2 N (fun am O=>?_)
     refine fK O 8 ?_
     refine ar (a:=s.cnt) (b:=1) (c:=s.cnt-1) (e:=IntKind.i64.wrap (s.cnt-1)) rfl rfl rfl rfl rfl (jZ O 12 fun ao Y=>?_)
     refine iC (v:=Zf) (v' := Zc) Tryz.results71 rfl rfl ?_
     exact⟨(⟨s.uv,s.lv,s.sv,fN j h (fun _=>g),fN s.le g (fun _=>(min (fJ s.le g) (fJ s.le h))),fN s.sz g (fun _=>IntKind.i64.wrap ((fJ s.sz g)+(fJ s.sz h))),IntKind.i64.wrap (s.cnt-1),jt s.lb (fJ s.lb g) (fJ s.lb h)⟩:Ds),congrArg (fun b=>Value.tuple #[.bool b,.int .i64 0]) (by rw[eq_comm,decide_eq_true_iff];exact fun e=>absurd (aq.2 e) o_),QX av aw,yo (R' := (Ds.R F n (⟨s.uv,s.lv,s.sv,fN j h (fun _=>g),fN s.le g (fun _=>(min (fJ s.le g) (fJ s.le h))),fN s.sz g (fun _=>IntKind.i64.wrap ((fJ s.sz g)+(fJ s.sz h))),IntKind.i64.wrap (s.cnt-1),jt s.lb (fJ s.lb g) (fJ s.lb h)⟩:Ds))) (yr (p:=Ds.ok n (⟨s.uv,s.lv,s.sv,fN j h (fun _=>g),fN s.le g (fun _=>(min (fJ s.le g) (fJ s.le h))),fN s.sz g (fun _=>IntKind.i64.wrap ((fJ s.sz g)+(fJ s.sz h))),IntKind.i64.wrap (s.cnt-1),jt s.lb (fJ s.lb g) (fJ s.lb h)⟩:Ds)) (yc [_,_,_,_] _ Y) (Ds.join ap au aA az aB o_ (by rw[gC];exact ax) (TD ap.KT (Gi _)) rfl (Gi _))) za⟩
abbrev RQ:List (List Nat):=[[],[0],[],[2],[],[4],[],[0,1,2,3,4,5,6],[0,1,2,3,4,5,6,7],[0,1,2,3,4,5,6,7,8]]
abbrev D4 a b c d e f g:=([Ds.R a b c,fL fR d 3 1 e,ig .i64 f 3 g]:List fU)
abbrev Ho(a:Nat) b c d e f g h i:=([ig .i64 (Z3 a) 3 b,Ds.R c d e,fL fR f 3 1 g,ig .i64 h 3 i]:List fU)
theorem N8(n:Nat)(w:World)(hn:n<=65536) :
 CR ya 70 (Z8 n) w (fun r w' => ∃ (Z:Nat) (s:Ds),r = .tuple (Zy Z)/\s.lb=List.range n/\fZ (gj []) w w' (Ds.R Z n s)):=by
 refine en Tryz.func70 Tryz.ntmps70 ?_
 have V:=yt w
 refine fS V 10 ?_
 refine cmp rfl rfl rfl (kV o_) (fK V 2 ?_)
 refine cmp rfl rfl rfl (pJ o_) (gF V 7 ?_)
 have t:AF RQ [1,3,5,8] [(5,fun a=>blk a 3 ((List.replicate n 0).flatMap fR)),(3,fun b=>blk b 3 ((List.replicate n 0).flatMap fR)),(1,fun e=>blk e 3 ((List.replicate n 0).flatMap fR))] 8:=JP (is:=[5,3,1]) rfl d_
 refine Kr mixed RQ [1,3,5,8] [(5,fun a=>blk a 3 ((List.replicate n 0).flatMap fR)),(3,fun b=>blk b 3 ((List.replicate n 0).flatMap fR)),(1,fun e=>blk e 3 ((List.replicate n 0).flatMap fR))] 8 k_ rfl [fun g=>(Za n),fun g=>(Zd (g 1) n),fun g=>(Za n),fun g=>(Zd (g 3) n),fun g=>(Za n),fun g=>(Zd (g 5) n),fun g=>(Za n),fun g=>(HD (g 1) n (g 3) (g 5)),fun g=>(Zb (g 8)),fun g=>(Zb (g 8))] (fun g=>[blk (g 8) 149 (LX (g 1) n (g 3) (g 5)),blk (g 5) 3 ((List.replicate n 0).flatMap fR),blk (g 3) 3 ((List.replicate n 0).flatMap fR),blk (g 1) 3 ((List.replicate n 0).flatMap fR)]) (fun g=>(4,(Zb (g 8))) :: (20,(Zb (g 8))) :: (19,(HD (g 1) n (g 3) (g 5))) :: (18,(Za n)) :: (17,(Zd (g 5) n)) :: (16,(Za n)) :: (15,(Zd (g 3) n)) :: (14,(Za n)) :: (13,(Zd (g 1) n)) :: (12,(Za n)) :: _) V ?_ f_ ?_
 . skip
   refine mF rfl (fun g _ _=>qv rfl rfl (kI (v:=(Za n)) rfl)) (sQ t (R:=fun e=>blk e 3 ((List.replicate n 0).flatMap fR)) (val:=fun e=>(Zd e n)) s_ (fun _ _=>rfl) (fun g Y L F N T=>rN (cf:=fR) (z0:=0) (m:=n) (c:=n) rfl rfl rfl yd gr rfl f_ d_ (zk _) o_ o_ F (fun aa _ h=>T aa _ h)) (fun _ _=>kC rfl sT) (mF rfl (fun g _ _=>qv rfl rfl (kI (v:=(Za n)) rfl)) (sQ t (R:=fun b=>blk b 3 ((List.replicate n 0).flatMap fR)) (val:=fun b=>(Zd b n)) s_ (fun _ _=>rfl) (fun g Y L F N T=>rN (cf:=fR) (z0:=0) (m:=n) (c:=n) rfl rfl rfl yd gr rfl f_ d_ (zk _) o_ o_ F (fun ab _ h=>T ab _ h)) (fun _ _=>kC rfl sT) (mF rfl (fun g _ _=>qv rfl rfl (kI (v:=(Za n)) rfl)) (sQ t (R:=fun a=>blk a 3 ((List.replicate n 0).flatMap fR)) (val:=fun a=>(Zd a n)) s_ (fun _ _=>rfl) (fun g Y L F N T=>rN (cf:=fR) (z0:=0) (m:=n) (c:=n) rfl rfl rfl yd gr rfl f_ d_ (zk _) o_ o_ F (fun ac _ h=>T ac _ h)) (fun _ _=>kC rfl sT) (mF rfl (fun g _ _=>qv rfl rfl (kI (v:=(Za n)) rfl)) (mF rfl (fun g _ _=>qv rfl rfl (BZ (pvs:=[(1,(Zd (g 1) n)),(2,(Zd (g 3) n)),(3,(Zd (g 5) n)),(4,(Za n))]) (v:=.agg #[Zt,(Zd (g 1) n),(Zd (g 3) n),(Zd (g 5) n),(Za n)]) rfl (jq [(1,(p7 (g 1) n)),(2,(p7 (g 3) n)),(3,(p7 (g 5) n)),(4,(Ze n))] K0 ack rfl ⟨rfl,rfl,rfl,rfl,rfl,rfl,rfl,rfl,trivial⟩ rfl))) ?_)))))))
   refine J3 t (val:=fun d=>(Zb d)) (fun _ _=>rfl) (fun g Y F N T=>JE (v:=(HD (g 1) n (g 3) (g 5))) (cs:=(LX (g 1) n (g 3) (g 5))) rfl rfl rfl F (fun ad _ h=>T ad _ h)) (fun _ _=>kC rfl sT) (mF rfl (fun g _ _=>qv rfl rfl (vL (v:=(Zb (g 8))) rfl)) ?_)
   exact J4
 intro u x q
 generalize u 1=e at q ⊢
 generalize u 3=b at q ⊢
 generalize u 5=a at q ⊢
 generalize u 8=d at q ⊢
 have y:St _ [blk d 149 [(.pointer none),(.slice (some ⟨e,0,none⟩) n n),(.slice (some ⟨b,0,none⟩) n n),(.slice (some ⟨a,0,none⟩) n n),(.int .i64 n)],blk a 3 ((List.replicate n 0).flatMap fR),blk b 3 ((List.replicate n 0).flatMap fR),fL fR (.slice (some ⟨e,0,none⟩) n n) 3 1 (List.replicate n 0)] x:=lU (cf:=fR) q (i:=3) rfl f_ (zk _) (by simp only[maxLen];omega)
 generalize (Value.slice (some ⟨e,0,none⟩) n n)=j at y ⊢
 have z:St _ [blk d 149 [(.pointer none),j,(.slice (some ⟨b,0,none⟩) n n),(.slice (some ⟨a,0,none⟩) n n),(.int .i64 n)],blk a 3 ((List.replicate n 0).flatMap fR),fL fR (.slice (some ⟨b,0,none⟩) n n) 3 1 (List.replicate n 0),fL fR j 3 1 (List.replicate n 0)] x:=lU (cf:=fR) y (i:=2) rfl f_ (zk _) (by simp only[maxLen];omega)
 generalize (Value.slice (some ⟨b,0,none⟩) n n)=l at z ⊢
 have A:St _ [blk d 149 [(.pointer none),j,l,(.slice (some ⟨a,0,none⟩) n n),(.int .i64 n)],fL fR (.slice (some ⟨a,0,none⟩) n n) 3 1 (List.replicate n 0),fL fR l 3 1 (List.replicate n 0),fL fR j 3 1 (List.replicate n 0)] x:=lU (cf:=fR) z (i:=1) rfl f_ (zk _) (by simp only[maxLen];omega)
 generalize (Value.slice (some ⟨a,0,none⟩) n n)=o at A ⊢
 refine sQP tt none A 18 fun E G=>?_
 have H:=yg [0,3,2,1] G
 have I:St _ [blk d 149 [(Zb d),j,l,o,(Za n)],fL fR j 3 1 (List.replicate n 0),fL fR l 3 1 (List.replicate n 0),fL fV o 3 1 (List.replicate n 0)] E:=adD o▸H
 refine lp (α:=Nat×List Nat×List Nat×List Int) (fun(k,up,le,sz)=>[(0,(Za n)),(2,Zt),(3,Zc),(4,(Zb d)),(25,(Za n)),(26,(Za k))]) (fun(k,up,le,sz) w1=>St [(w,[])] [blk d 149 [(Zb d),j,l,o,(Za n)],fL fR j 3 1 up,fL fR l 3 1 le,fL fV o 3 1 sz] w1/\sG n k up le sz/\k<=n) (fun(k,up,le,sz)=>n-k) (0,List.replicate n 0,List.replicate n 0,List.replicate n 0) ⟨rfl,rfl,rfl,rfl,rfl,gm rO,trivial⟩ (⟨I,sG.start,o_⟩) ?_
 rintro⟨k,up,le,sz⟩ K M ⟨W,X,ae⟩
 obtain⟨ah,af,ag⟩:=X.len ae
 refine fS W 2 ?_
 by_cases O:((k:Int):Int)<((n:Int):Int)
 . refine gJ W 34 fun P J=>?_
   refine iO (f:=(fun _=>k)) 1 J (fun Q B=>?_)
   refine fK B 1 ?_
   refine iO (f:=(fun _=>k)) 2 B (fun S C=>?_)
   refine fK C 1 ?_
   refine iO (f:=(fun _=>1)) (cf:=fV) 3 C (fun U D=>?_)
   refine fQ D 7 ?_
   refine tN (?_)
   exact again ((k+1),fN up k (fun _=>k),fN le k (fun _=>k),fN sz k (fun _=>1)) ⟨rfl,rfl,rfl,rfl,rfl,gm rO,trivial⟩ (⟨D,X.next o_,o_⟩) (by show (n-(k+1):Nat)<n-k;omega)
 . refine fQ W 18 ?_
   refine iC (v:=(Zb d)) (v' := Zc) Tryz.results70 rfl rfl ?_
   obtain rfl:k=n:=by omega
   obtain⟨rfl,rfl,rfl⟩:=X.fin
   exact⟨d,(⟨j,l,o,List.range k,List.range k,List.replicate k 1,(k:Int),List.range k⟩:Ds),rfl,rfl,uY (yr (p:=Ds.ok k (⟨j,l,o,List.range k,List.range k,List.replicate k 1,(k:Int),List.range k⟩:Ds)) (yc [_,_,_,_] _ W) (Ds.tG (kA o_))) s_⟩
end
end Go.Proofs.YtoceanggliccgaaGreatDoor
