/- Walks through code, under what is said of arguments. -/
import Derived.Test.YtedjjkcihkmjgaaGreatDoorProg
import Derived.Test.YtedjjkcihkmjgaaGreatDoorFd
set_option linter.unusedVariables false
set_option linter.unusedSimpArgs false
set_option maxRecDepth 100000
set_option maxHeartbeats 4000000
namespace Go.Proofs.YtedjjkcihkmjgaaGreatDoor
open Go Go.Sx Go.Proofs.Tryz
noncomputable abbrev ya:=@Tryz.prog
abbrev yc:=@underlying37
abbrev yd:=@St.pack
abbrev ye:=@St.re
abbrev yf:=@underlying3
abbrev yg:=@St.oR
abbrev yh:=@St.aeD
abbrev yi:=@underlying389
abbrev yj:=@St.DD
abbrev yk:=@St.eP
abbrev ym:=@underlying39
abbrev yn:=@St.qS
abbrev yo:=@underlying420
abbrev yp:=@St.unpack
abbrev yq:=@underlying169
abbrev yr:=@underlying78
abbrev yt:=@St.tn
abbrev yu:=@St.DX
abbrev yv:=@St.rr
abbrev yw:=@St.tu
abbrev yx:=@underlying27
abbrev yy:=@St.Kx
abbrev yz:=@underlying172
abbrev y0:=@St.xR
abbrev y8:=@underlying128
abbrev y9:=@St.made
abbrev nG:=@underlying410
abbrev j6:=@St.YL
abbrev iM:=@St.eT
abbrev nH:=@underlying4
abbrev kG:=@St.aeL
abbrev qp:=@underlying323
abbrev qq:=@underlying382
abbrev k8:=@St.LU
abbrev qt:=@underlying28
abbrev qu:=@underlying35
abbrev mL:=@St.Jq
abbrev si:=@underlying374
abbrev k9:=@St.init
abbrev tC:=@underlying212
abbrev lq:=@St.Lu
abbrev nI:=@St.LJ
abbrev mR:=@St.Jr
abbrev j7:=@St.un
abbrev lI:=@St.grow
abbrev lJ:=@St.perm
abbrev nU:=@St.FC
abbrev ur:=@underlying2
abbrev mB:=@St.MY
abbrev wj:=@underlying183
abbrev qv:=@St.Ae
abbrev wm:=@underlying43
abbrev tB:=@St.VS
abbrev qo:=@St.Jw
abbrev x8:=@underlying188
abbrev x9:=@underlying250
abbrev wh:=@results275
abbrev me:=@St.eM
abbrev AA:=@underlying223
abbrev AB:=@underlying229
abbrev AD:=@underlying267
abbrev AE:=@underlying383
abbrev AG:=@underlying399
abbrev mC:=@St.bc
abbrev tD:=@St.Ju
abbrev AH:=@underlying81
abbrev AI:=@underlying5
abbrev uu:=@St.Qj
abbrev vm:=@St.aaT
abbrev Cu:=@underlying148
abbrev Cw:=@underlying217
abbrev Cy:=@underlying276
abbrev Cz:=@underlying381
abbrev qT:=@St.fact
abbrev AJ:=@results296
abbrev CA:=@underlying23
abbrev nV:=@St.at
abbrev CB:=@results120
abbrev El:=@underlying100
abbrev Em:=@underlying106
abbrev En:=@underlying179
abbrev Eo:=@underlying232
abbrev Ep:=@underlying41
abbrev Er:=@underlying52
abbrev Es:=@underlying94
abbrev vo:=@St.aaI
abbrev yA:=@St.aeF
abbrev Et:=@results343
abbrev Ct:=@St.Yr
abbrev HP:=@underlying152
abbrev HQ:=@underlying190
abbrev HR:=@underlying211
abbrev HS:=@underlying291
abbrev HT:=@underlying371
abbrev HU:=@underlying401
abbrev AF:=@St.YP
abbrev HV:=@underlying54
abbrev HW:=@underlying73
abbrev AK:=@St.YO
abbrev CC:=@St.Xe
abbrev HX:=@results322
abbrev HY:=@results75
theorem k_{p:Prop}(h:p:=by kernel_rfl):p:=h
theorem f_{p:Prop}(h:p:=by exact fun _=>rfl):p:=h
abbrev p_:Value×List Nat->Value:=Prod.fst
abbrev Zi:=(.bool true:Value)
abbrev Zp:=(.bool false:Value)
abbrev Zc:=(.int .i64 0:Value)
abbrev qY:=(.int .i64 1:Value)
abbrev sM:=(.int .i64 4:Value)
abbrev Bp:=(.int .i64 6:Value)
abbrev yR:=(.int .i64 9:Value)
abbrev Z6:=(.int .u64 0:Value)
abbrev wV:=(.int .u64 1:Value)
abbrev Br:=(.int .u64 2:Value)
abbrev wW:=(.int .u64 3:Value)
abbrev yQ:=(.int .i64 10:Value)
abbrev E3:=(.int .i64 13:Value)
abbrev Bt:=([Zc]:List Value)
abbrev yT:=([qY]:List Value)
abbrev Dh:=([Z6]:List Value)
abbrev Za(a:Int):=(.int .i64 a:Value)
abbrev Zo(a:Int):=(.int .u64 a:Value)
abbrev Zq:=(.pointer none:Value)
abbrev Zz:=(.int .i64 (-1):Value)
abbrev Zd(a:Int):=([.int .i64 a]:List Value)
abbrev Zw(a:Int):=([.int .u64 a]:List Value)
abbrev Zh:=(.slice none 0 0:Value)
abbrev Z3(a:Int):=(#[.int .i64 a]:Array Value)
abbrev yN(a:Int):=(#[.int .u64 a]:Array Value)
abbrev Z4:=([Zh]:List Value)
abbrev vD a:=(#[a,Zc]:Array Value)
abbrev sL a b:=(cL fQ a 3 1 b:fJ)
abbrev Z9 a b:=(cL fL a 3 1 b:fJ)
abbrev rL a b:=(cL iB a 39 1 b:fJ)
abbrev E2(a:Nat):=(blk a 3 yT:fJ)
abbrev E9:=(.func (.func 43) #[] #[]:Value)
abbrev Bl(a:Bool):=(#[.bool a,Zc]:Array Value)
abbrev wS:=([Zc,Zc]:List Value)
abbrev C9:=(#[Zc,Zp]:Array Value)
abbrev qG(a:Int)(b:Bool):=(#[.int .i64 a,.bool b]:Array Value)
abbrev IB:=(#[Z6,Zc]:Array Value)
abbrev IC:=(#[.int .u64 1,.int .u64 3]:Array Value)
abbrev Fj(a:Int):=([Zi,.int .u64 a]:List Value)
abbrev Df:=([.func (.func 102) #[] #[]]:List Value)
abbrev yP a b:=(cL Ge.cells a 110 3 b:fJ)
abbrev wQ(a:Int):=(#[Zi,.int .u64 a]:Array Value)
abbrev Bi(a:Int):=(#[.int .i64 a,Zi]:Array Value)
abbrev Dk a b:=(cL jr.cells a 169 2 b:fJ)
abbrev uL(a:Int):=(#[.int .i64 a,Zc]:Array Value)
abbrev EZ a (b:List Nat):=List.range (a+b.length)
abbrev Zm(a b:Int):=([.int .i64 a,.int .i64 b]:List Value)
abbrev Bj(a b:Int):=([.int .u64 a,.int .i64 b]:List Value)
abbrev Zb(a:Nat):=(.pointer (some ⟨a,0,none⟩):Value)
abbrev Zx(a b:Int):=(#[.int .i64 a,.int .i64 b]:Array Value)
abbrev vA(a b:Int):=(#[.int .u64 a,.int .u64 b]:Array Value)
abbrev Ze(a:Nat):=([.pointer (some ⟨a,0,none⟩)]:List Value)
abbrev IN:=(.agg #[Zc,Zc]:Value)
abbrev Zu(a:Nat):=(.slice (some ⟨a,0,none⟩) 1 1:Value)
abbrev yL(a:Nat):=(.slice (some ⟨a,0,none⟩) 2 2:Value)
abbrev Jd(a:Nat):=(.slice (some ⟨a,0,none⟩) 3 3:Value)
abbrev Zg(a:Nat):=(#[.pointer (some ⟨a,0,none⟩)]:Array Value)
abbrev qI(a:fR) b:=fS a.im ((cE a.live b).u)
abbrev vF(a:fR) b:=jo a.im ((cE a.live b).u)
abbrev CZ(a b:Nat):=(.slice (some ⟨a,0,none⟩) 0 b:Value)
abbrev uJ a (b:Nat):=(fN [a,blk b 3 yT]:fJ)
abbrev C4(a b:Int):=(.agg (Zx a b):Value)
abbrev NL(a b:Int):=(.agg #[.int .u64 a,.int .i64 b]:Value)
abbrev I9(a b:Int):=(.agg (vA a b):Value)
abbrev Zf(a b:Nat):=(.slice (some ⟨a,0,none⟩) b b:Value)
abbrev yO(a:Nat) b:=(#[.pointer (some ⟨a,0,none⟩),b]:Array Value)
abbrev Da a (b:Nat):=(#[a,.pointer (some ⟨b,0,none⟩)]:Array Value)
abbrev De(a b:Int):=([.agg (Zx a b)]:List Value)
abbrev p6(a b:Nat):=([.slice (some ⟨a,0,none⟩) b b]:List Value)
abbrev Zs(a:Int) b c d e f:=([.int .i64 a,b,c,d,e,f]:List Value)
abbrev VB:=(#[Zc,Zp,.int .i64 13]:Array Value)
abbrev Z0(a:Nat)(b c:Int):=(blk a 247 (Zm b c):fJ)
abbrev Ot(a:gC):=(.agg #[.int .i64 a.ix,.int .i64 a.key]:Value)
abbrev Bc(a b c:Int):=([.int .i64 a,.int .i64 b,.int .i64 c]:List Value)
abbrev IG(a:Nat) b c:=(fN [blk a 37 [b],cL fQ b 3 1 c]:fJ)
abbrev C5(a b c:Int):=(#[.int .i64 a,.int .i64 b,.int .i64 c]:Array Value)
abbrev Z1(a:Nat):=(#[.pointer (some ⟨a,0,none⟩),Zc]:Array Value)
abbrev Bo(a:Int) b c d e f:=(.agg #[.int .i64 a,b,c,d,e,f]:Value)
abbrev Bu(a:Int)(b:Nat):=([.int .i64 a,.pointer (some ⟨b,0,none⟩)]:List Value)
abbrev uI(a:Nat)(b:Int):=([.pointer (some ⟨a,0,none⟩),.int .i64 b]:List Value)
abbrev IE(a:Nat) b c d:=([.pointer (some ⟨a,0,none⟩),b,c,d]:List Value)
abbrev C6:=(#[.agg #[Zc,Zc],Zp]:Array Value)
abbrev yM(a:Int)(b:Nat):=(#[.int .i64 a,.pointer (some ⟨b,0,none⟩)]:Array Value)
abbrev Zk(a:Nat)(b:Int):=(#[.pointer (some ⟨a,0,none⟩),.int .i64 b]:Array Value)
abbrev pJ(a:Nat)(b:Int):=(#[.pointer (some ⟨a,0,none⟩),.int .u64 b]:Array Value)
abbrev Fi(a:Int) b c d e f:=([.agg #[.int .i64 a,b,c,d,e,f]]:List Value)
abbrev C8(a:Int) b c d e f:=(#[.agg #[.int .i64 a,b,c,d,e,f]]:Array Value)
abbrev N7 a (b c:Int):=(#[a,Zc,.int .i64 b,.int .i64 c]:Array Value)
abbrev C7(a b:Int):=(#[.agg (Zx a b),Zi]:Array Value)
abbrev C3(a b c:Int):=(.agg (C5 a b c):Value)
abbrev VC(a b:Int):=(#[.agg #[.int .u64 a,.int .i64 b],Zc]:Array Value)
abbrev sJ a (b:Nat) (c:Int):=(fN [a,blk b 128 [Z6,.int .u64 c]]:fJ)
abbrev Fw a b (c:List Ge):=(⟨(cE a b),((cE c (cE a b)).u)⟩:j3)
abbrev uK a b (c:List Ge):=(⟨(cE a b),((cE c (cE a b)).v)⟩:j3)
abbrev NH(a:Nat)(b:Int) c:=(#[.pointer (some ⟨a,0,none⟩),.int .i64 b,c]:Array Value)
abbrev Oq a b:=cE (iP a b (jT a b)) (jT a b)
abbrev Fa(a:Nat):=(.func (.func 44) #[] (Zg a):Value)
abbrev Oo a b:=(gP a .u64 p_ b:fJ)
abbrev Jb(a:Nat):=(.func (.func 192) #[] (Zg a):Value)
abbrev OM(a:Nat):=(.func (.func 321) (Zg a) #[]:Value)
abbrev ON(a:Nat):=(.func (.func 322) (Zg a) #[]:Value)
abbrev sI(a:Nat)(b:Int) c d:=([.pointer (some ⟨a,0,none⟩),.int .i64 b,c,d]:List Value)
abbrev N4(a:Nat):=(#[.func (.func 192) #[] (Zg a)]:Array Value)
abbrev tQ(a b c d:Int):=([.int .i64 a,.int .i64 b,.int .i64 c,.int .i64 d]:List Value)
abbrev yS(a b c d:Int):=(#[.int .i64 a,.int .i64 b,.int .i64 c,.int .i64 d]:Array Value)
abbrev ID(a:Nat)(b:Int):=(#[.pointer (some ⟨a,0,none⟩),.int .i64 b,qY]:Array Value)
abbrev Zr(a:Nat) b c:=(fN [blk a 412 [.pointer (some ⟨a,0,none⟩),b],c]:fJ)
abbrev Be(a:Nat)(b c:Int):=([.pointer (some ⟨a,0,none⟩),.int .i64 b,.int .i64 c]:List Value)
abbrev Zv(a:Nat)(b c:Int):=(#[.pointer (some ⟨a,0,none⟩),.int .i64 b,.int .i64 c]:Array Value)
abbrev NI(a:Nat)(b c:Int):=(#[.pointer (some ⟨a,0,none⟩),.int .u64 b,.int .i64 c]:Array Value)
abbrev Iy(a:Nat)(b c:Int):=(#[.pointer (some ⟨a,0,none⟩),.int .u64 b,.int .u64 c]:Array Value)
abbrev E5 a (b:Nat):=(#[a,.func (.func 313) #[] (Zg b)]:Array Value)
abbrev p7(a:fR) b:=fS (vF a b) ((cE a.live b).v)
abbrev Bk(a:Int) b c d e f (g:Int):=(#[.agg #[.int .i64 a,b,c,d,e,f],.int .i64 g]:Array Value)
abbrev Zy(a b:Nat):=([.pointer (some ⟨a,0,none⟩),.pointer (some ⟨b,0,none⟩)]:List Value)
abbrev Bn(a:fR) b:=jo (vF a b) ((cE a.live b).v)
abbrev vE(a b:Nat):=(#[.pointer (some ⟨a,0,none⟩),.pointer (some ⟨b,0,none⟩)]:Array Value)
abbrev Fv(a b:Nat):=(fN [blk a 81 Z4,blk b 78 Z4]:fJ)
abbrev Fy(a b c d:Int):=(.agg (yS a b c d):Value)
abbrev Oz(a b c d:Int):=([.agg (yS a b c d)]:List Value)
abbrev N3(a b c d:Int):=(#[.agg (yS a b c d)]:Array Value)
abbrev rK(a:Lv):=([.int .u64 a.u,.int .u64 a.v,.int .i64 a.wt,.int .i64 a.t]:List Value)
abbrev IQ a (b c:Nat):=(#[a,.pointer (some ⟨b,0,none⟩),.pointer (some ⟨c,0,none⟩)]:Array Value)
abbrev NJ(a:Nat) b:=(fN [blk a 412 [.pointer (some ⟨a,0,none⟩),Zq],b]:fJ)
abbrev Dp(a b c d:Int):=([.int .i64 a,.int .i64 b,.int .i64 c,qY,.int .i64 d]:List Value)
abbrev N5(a b c d:Int):=(#[.int .i64 a,.int .i64 b,.int .i64 c,qY,.int .i64 d]:Array Value)
abbrev Ou(a:Lv):=(.agg #[.int .u64 a.u,.int .u64 a.v,.int .i64 a.wt,.int .i64 a.t]:Value)
abbrev VD(a b:Nat):=(#[.pointer (some ⟨a,0,none⟩),.pointer (some ⟨b,0,none⟩),Zi]:Array Value)
abbrev E6 a (b:Int) (c:Nat):=(#[a,.int .i64 b,.func (.func 297) #[] (Zg c)]:Array Value)
abbrev E7 a (b:Int) (c:Nat):=(#[a,.int .i64 b,.func (.func 310) #[] (Zg c)]:Array Value)
abbrev Db a (b c d:Nat) (e:Int):=([a,blk b 223 (Ze c),blk d 3 (Zd e)]:List fJ)
abbrev N6(a:Int)(b c:Nat):=(#[.int .i64 a,.pointer (some ⟨b,0,none⟩),.pointer (some ⟨c,0,none⟩)]:Array Value)
abbrev IU a (b:Nat) c (d:lQ) (e:Nat):=([a,blk b 37 [c],cL fL c 3 1 d.num,blk e 3 (Zd d.top)]:List fJ)
abbrev rH(a b:Nat)(c:TW):=([.pointer (some ⟨a,0,none⟩),.pointer (some ⟨b,0,none⟩),c.iv,c.cv]:List Value)
abbrev Fu(a:Nat) b c (d e:Int) f g h i j:=(fN [blk a 422 [b,c,.int .i64 d,.int .i64 e,f,g,h],i,j]:fJ)
abbrev yV(a b c:Nat)(d:Int):=([.pointer (some ⟨a,0,none⟩),.slice (some ⟨b,0,none⟩) c c,.int .i64 d]:List Value)
abbrev Fm a (b:Nat) (c:Int) d e f g h i:=(fN [a,blk b 102 (Zs c d e f g h),cL fQ f 3 1 i]:fJ)
abbrev OL(a:Nat) b (c d e:Nat) f:=(fN [blk a 37 [b],blk c 200 (Ze d),blk e 28 [f]]:fJ)
abbrev Ov(a b:Nat):=(.func (.func 194) #[] (vE a b):Value)
abbrev Jg(a:Nat)(b:Int) c (d e:Nat):=([.pointer (some ⟨a,0,none⟩),.int .i64 b,c,.slice (some ⟨d,0,none⟩) e e]:List Value)
abbrev pK:=([Zc,Z6,Z6,Z6,Zc,Zc,Zc]:List Value)
abbrev IA:=(#[Zc,Z6,Z6,Z6,Zc,Zc,Zc]:Array Value)
abbrev vG(a:fR) b c d:=gr a.im ((cE a.live b).u) (c,(qI a b).2.eraseIdx d)
abbrev vC(a b c:Nat):=([.pointer (some ⟨a,0,none⟩),.pointer (some ⟨b,0,none⟩),.pointer (some ⟨c,0,none⟩)]:List Value)
abbrev E4(a b c:Nat):=(#[.pointer (some ⟨a,0,none⟩),.pointer (some ⟨b,0,none⟩),.pointer (some ⟨c,0,none⟩)]:Array Value)
abbrev Bm(a b c:Nat)(d:Int):=(blk a 391 (yV a b c d):fJ)
abbrev NO(a:Nat)(b:Int)(c:Nat)(d:Int)(e:Nat)(f g:Int):=([blk a 39 (Zw b),blk c 2 (Zd d),blk e 73 (Bj f g)]:List fJ)
abbrev Ba:=([Zc,Zh,Zh,Zh,Zh,Zh]:List Value)
abbrev OB(a b:Int):=([Zq,Zq,.int .i64 a,.int .i64 b,Zc,Zc,Zc]:List Value)
abbrev VE(a:Nat)(b:Int)(c:Nat)(d:Int)(e:Nat):=(fN [blk a 39 (Zw b),blk c 2 (Zd d),blk e 73 [Z6,Zc]]:fJ)
abbrev VI(a:Nat)(b:Int)(c d:Nat):=([.pointer (some ⟨a,0,none⟩),.int .i64 b,Zh,.slice (some ⟨c,0,none⟩) d d]:List Value)
abbrev wP(a:Nat) b (c:As) (d:Int):=([.pointer (some ⟨a,0,none⟩),b,.int .i64 c.n,.int .i64 d,.int .i64 c.used,.int .i64 c.last]:List Value)
abbrev Dr a (b:Int) c d e f g (h i:Nat):=([a,.int .i64 b,c,d,e,f,g,.pointer (some ⟨h,0,none⟩),.pointer (some ⟨i,0,none⟩)]:List Value)
abbrev wR(a:Nat)(b:Lv):=(#[.pointer (some ⟨a,0,none⟩),.agg #[.int .u64 b.u,.int .u64 b.v,.int .i64 b.wt,.int .i64 b.t]]:Array Value)
abbrev I4(a:Nat) b (c:As) (d:Int):=([.pointer (some ⟨a,0,none⟩),b,.int .i64 c.n,.int .i64 c.begun,.int .i64 c.used,.int .i64 d]:List Value)
abbrev NQ(a:Nat)(b:Int)(c:Nat)(d:Int)(e:Nat)(f:Int)(g:Nat)(h:Bool) i:=([blk a 39 (Zw b),blk c 39 (Zw d),blk e 2 (Zd f),blk g 4 [.bool h],i]:List fJ)
abbrev IW a b c d e (f:Nat) (g:Int) h i j k l:=([a,cL Mg.cells b 158 5 c,cL fL d 3 1 e,blk f 102 (Zs g h i j k l)]:List fJ)
abbrev nM(a:Nat) b (c:As):=([.pointer (some ⟨a,0,none⟩),b,.int .i64 c.n,.int .i64 c.begun,.int .i64 c.used,.int .i64 c.last]:List Value)
abbrev VF(a:Nat)(b:Int)(c:Nat)(d:Int)(e f:Nat) g:=(fN [blk a 39 (Zw b),blk c 39 (Zw d),blk e 2 Bt,blk f 4 [Zp],g]:fJ)
abbrev rJ(a b:Int)(c:Lv):=([.int .i64 a,.int .u64 b,.int .u64 c.u,.int .u64 c.v,.int .i64 c.wt,.int .i64 c.t,.int .i64 c.exp]:List Value)
abbrev qH(a:fR) b c d:=fS (vG a b c d) ((cE a.live b).v)
abbrev IK(a:fR) b c d:=jo (vG a b c d) ((cE a.live b).v)
abbrev FA(a b c:Int)(d e:Nat) f g:=([.int .i64 a,.int .i64 b,.int .u64 c,.pointer (some ⟨d,0,none⟩),.pointer (some ⟨e,0,none⟩),f,.map g]:List Value)
abbrev IP(a b:Int)(c:Lv):=(.agg #[.int .i64 a,.int .u64 b,.int .u64 c.u,.int .u64 c.v,.int .i64 c.wt,.int .i64 c.t,.int .i64 c.exp]:Value)
abbrev Dj a (b:nJ) c d e f:=(fN [cL fQ a 3 1 b.l,cL fQ c 3 1 b.r,cL fQ d 3 1 b.p,cL fQ e 2 1 b.h,cL fL f 3 1 b.s]:fJ)
abbrev oM(a:Lv):=([.int .i64 a.slot,.int .u64 a.seq,.int .u64 a.u,.int .u64 a.v,.int .i64 a.wt,.int .i64 a.t,.int .i64 a.exp]:List Value)
abbrev VJ(a:Nat)(b:As):=([.pointer (some ⟨a,0,none⟩),Zh,.int .i64 b.n,.int .i64 b.begun,.int .i64 b.used,.int .i64 b.last]:List Value)
abbrev Je(a:Lv):=(#[.int .i64 a.slot,.int .u64 a.seq,.int .u64 a.u,.int .u64 a.v,.int .i64 a.wt,.int .i64 a.t,.int .i64 a.exp]:Array Value)
abbrev N0(a:Nat) b c d e f g h i j:=([iD .i64 (Zu a) 3 b,cL fL c 3 1 d,e,f,cL fL g 3 1 h,cL fL i 3 1 j]:List fJ)
abbrev C0(a b c d:Nat):=([.pointer (some ⟨a,0,none⟩),.pointer (some ⟨b,0,none⟩),.pointer (some ⟨c,0,none⟩),.pointer (some ⟨d,0,none⟩)]:List Value)
abbrev IT a (b:Nat) (c:Int) (d:Nat) (e:Bool) (f g h:Nat) (i:Int):=([a,blk b 3 (Zd c),blk d 4 [.bool e],blk f 171 (Ze g),blk h 39 (Zw i)]:List fJ)
abbrev FB(a b c:Int)(d:fR) e f:=([.int .i64 a,.int .i64 b,.int .u64 c,.pointer (some ⟨d.jx,0,none⟩),.pointer (some ⟨d.tb,0,none⟩),e,.map f]:List Value)
abbrev Bd(a b:Int)(c:GW) d:=([.int .i64 a,.int .i64 b,.pointer (some ⟨c.fb,0,none⟩),.pointer (some ⟨c.hb,0,none⟩),.map d,.int .i64 c.trees]:List Value)
abbrev NT(a b c:Nat)(d:List Nd):=([blk a 391 [.pointer (some ⟨a,0,none⟩),.slice (some ⟨b,0,none⟩) c c,Zc],blk b 388 (d.flatMap Nd.cells)]:List fJ)
abbrev wU(a:Lv):=(.agg (Je a):Value)
abbrev IX(a:Nat) b c d e f g:=([blk a 167 (IE a b c d),cL Ge.cells b 110 3 e,cL fL c 3 1 f,cL fL d 3 1 g]:List fJ)
abbrev VH(a b:Int)(c d:Nat) e:=([.int .i64 a,.int .i64 b,Z6,.pointer (some ⟨c,0,none⟩),.pointer (some ⟨d,0,none⟩),Zh,.map e]:List Value)
abbrev Dq(a b c:Int)(d:fR) e:=([.int .i64 a,.int .i64 b,.int .u64 c,.pointer (some ⟨d.jx,0,none⟩),.pointer (some ⟨d.tb,0,none⟩),d.lv,.map e]:List Value)
abbrev IV a (b:Nat) c d (e f g:Nat):=([a,blk b 54 [c],cL mM.cells c 60 3 d,blk e 207 Df,blk f 200 (Ze g)]:List fJ)
abbrev rI(a b:Int)(c:fR) d:=([.int .i64 a,.int .i64 b,.int .u64 c.last,.pointer (some ⟨c.jx,0,none⟩),.pointer (some ⟨c.tb,0,none⟩),c.lv,.map d]:List Value)
abbrev Zl(a b c:Nat)(d:Int)(e:List Nd):=(fN [blk a 391 (yV a b c d),blk b 388 (e.flatMap Nd.cells)]:fJ)
abbrev IJ(a:Nat) b c (d e f g h:Int) (i:Nat) (j:Int):=(fN [blk a 422 [b,c,.int .i64 d,.int .i64 e,.int .i64 f,.int .i64 g,.int .i64 h],blk i 128 [Z6,.int .u64 j]]:fJ)
abbrev Jc(a b c d:Nat):=(.func (.func 90) #[] #[.pointer (some ⟨a,0,none⟩),.pointer (some ⟨b,0,none⟩),.pointer (some ⟨c,0,none⟩),.pointer (some ⟨d,0,none⟩)]:Value)
abbrev Dl(a b:Nat)(c:TW):=([blk a 302 (rH a b c),cL iB c.iv 39 1 c.ids,cL fL c.cv 3 1 c.cs]:List fJ)
abbrev Fx(a:fR) b c d:=gr (vF a b) ((cE a.live b).v) (c,(p7 a b).2.eraseIdx d)
abbrev Fc a (b:Nat) (c:Int) d e f g h (i:Nat) (j:Int) (k:Nat) l m n:=([a,blk b 102 (Zs c d e f g h),blk i 2 (Zd j),blk k 37 [l],cL fL l 3 1 m,cL fQ g 2 1 n]:List fJ)
abbrev IF(a b:Nat)(c:TW) d:=(fN [blk a 302 (rH a b c),cL iB c.iv 39 1 c.ids,cL fL c.cv 3 1 d]:fJ)
abbrev Zj(a:Nat)(b:Int) c d e f g:=(fN [blk a 385 (sI a b c d),cL gC.cells c 250 2 e,cL iT d 399 1 f,gO fL 401 64 f g]:fJ)
abbrev Z5(a b:Nat)(c:TW):=(fN (Dl a b c):fJ)
abbrev Fz(a:Nat)(b:Ds) c:=([blk a 409 [.pointer (some ⟨a,0,none⟩),b.uv,b.lv,b.sv,.int .i64 b.cnt],cL fL b.uv 3 1 c,cL fL b.lv 3 1 b.le,cL fQ b.sv 3 1 b.sz]:List fJ)
abbrev E0(a:Nat) b (c d e f:Int) g h:=(fN [blk a 278 [.pointer (some ⟨a,0,none⟩),b,.int .i64 c,.int .i64 d,.int .i64 e,.int .i64 f],cL iT b 392 1 g,gO gW.cells 395 64 g h]:fJ)
abbrev Fh(a:Nat)(b:Ds):=([blk a 409 [.pointer (some ⟨a,0,none⟩),b.uv,b.lv,b.sv,.int .i64 b.cnt],cL fL b.uv 3 1 b.up,cL fL b.lv 3 1 b.le,cL fQ b.sv 3 1 b.sz]:List fJ)
abbrev II(a:Nat)(b:Ds) c:=(fN (Fz a b c):fJ)
abbrev Oi(a:Nat) b (c:As) (d:Int) e f:=([blk a 278 (wP a b c d),cL iT b 392 1 e,gO gW.cells 395 64 e f]:List fJ)
abbrev tP(a:Nat)(b:Ds):=(fN (Fh a b):fJ)
abbrev OI(a:Nat) b (c d e:Int) (f:As):=(fN [blk a 278 [.pointer (some ⟨a,0,none⟩),b,.int .i64 c,.int .i64 d,.int .i64 e,.int .i64 f.last],cL iT b 392 1 f.ps,gO gW.cells 395 64 f.ps f.sl]:fJ)
abbrev Bb a (b c d e:Nat) (f:Int) (g:List Nd):=([a,blk b 208 (Ze c),blk c 391 (yV c d e f),blk d 388 (g.flatMap Nd.cells)]:List fJ)
abbrev Oh(a:Nat) b (c:As) (d:Int):=([blk a 278 (wP a b c d),cL iT b 392 1 c.ps,gO gW.cells 395 64 c.ps c.sl]:List fJ)
abbrev NV(a:Nat)(b:Int):=([gO gW.cells 395 64 ([]) ([]),cL iT Zh 392 1 ([]),blk a 278 [.pointer (some ⟨a,0,none⟩),Zh,.int .i64 b,Zc,Zc,.int .i64 (-1)]]:List fJ)
abbrev Dc(a:Nat) b (c:As):=([blk a 278 (nM a b c),cL iT b 392 1 c.ps,gO gW.cells 395 64 c.ps c.sl]:List fJ)
abbrev Ol(a b:Nat) c (d e:Int) f g h i j (k l:Int) m n o p q r:=(fN [blk a 422 [.pointer (some ⟨b,0,none⟩),c,.int .i64 d,.int .i64 e,f,g,h],blk b 422 [i,j,.int .i64 k,.int .i64 l,m,n,o],p,q,r]:fJ)
abbrev Om(a:Nat) b (c:Nat) (d e:Int) f g h i j (k l:Int) m n o p q r:=(fN [blk a 422 [b,.pointer (some ⟨c,0,none⟩),.int .i64 d,.int .i64 e,f,g,h],blk c 422 [i,j,.int .i64 k,.int .i64 l,m,n,o],p,q,r]:fJ)
abbrev Zt(a:Nat) b (c:As):=(fN (Dc a b c):fJ)
abbrev Dg(a b:Nat):=([.func (.func 261) #[] (Zg a),.func (.func 263) #[] (vE a b),.func (.func 265) #[] (Zg a)]:List Value)
abbrev Og(a:Nat) b (c:As) d e:=([blk a 278 (nM a b c),cL iT b 392 1 c.ps,gO gW.cells 395 64 c.ps c.sl,iD .i64 d 3 e]:List fJ)
abbrev yU(a:Nat):=([.pointer (some ⟨a,0,none⟩),Zp,Z6,Zh,Zc,Zh,Zh,Zh,Zh,Zh,Zq,Zq,Zc]:List Value)
abbrev Of(a b c d:Nat)(e:Int)(f:List Nd) g h (i:Nat):=([blk a 208 (Ze b),blk b 391 (yV b c d e),blk c 388 (f.flatMap Nd.cells),iD .i64 g 3 h,blk i 37 [g]]:List fJ)
abbrev Jf(a:Nat)(b:Int)(c d:Nat)(e:Int) f g h i j:=([blk a 3 (Zd b),blk c 211 (Ze d),blk d 385 (sI d e f g),cL gC.cells f 250 2 h,cL iT g 399 1 i,gO fL 401 64 i j]:List fJ)
abbrev wT(a:Nat)(b:Int)(c d:Nat)(e:Int) f g h i j:=(fN (Jf a b c d e f g h i j):fJ)
abbrev E1(a b:Nat):=(blk a 108 (yU b):fJ)
abbrev Fq a (b c:Nat) (d:TW) (e f:Nat) (g:Int):=(fN [a,blk b 302 (rH b c d),cL iB d.iv 39 1 d.ids,cL fL d.cv 3 1 d.cs,blk e 171 (Ze b),blk f 39 (Zw g)]:fJ)
abbrev OA(a b c d:Int)(e:WW):=([.int .i64 a,.int .i64 b,.int .i64 c,.int .i64 d,.pointer (some ⟨e.cb,0,none⟩),.pointer (some ⟨e.ub,0,none⟩),.pointer (some ⟨e.sb,0,none⟩),.pointer (some ⟨e.ob,0,none⟩),.int .u64 e.added,.int .u64 e.oS]:List Value)
abbrev IL(a:fR) b c d e f:=gr (vG a b c d) ((cE a.live b).v) (e,(qH a b c d).2.eraseIdx f)
abbrev NS(a:Nat)(b:Int) c d e f g (h:Nat) i (j k:Nat) l:=([blk a 385 (sI a b c d),cL gC.cells c 250 2 e,cL iT d 399 1 f,gO fL 401 64 f g,blk h 385 (Jg h b i j k),cL gC.cells i 250 2 e,cL iT (Zf j k) 399 1 l,gO fL 401 64 l g]:List fJ)
abbrev OJ(a:Nat) b (c:As) (d:Nat) e f:=(fN [blk a 278 (nM a b c),cL iT b 392 1 c.ps,gO gW.cells 395 64 c.ps c.sl,blk d 278 (nM d e c),cL iT e 392 1 f,gO gW.cells 395 64 f c.sl]:fJ)
abbrev OO:=((List.replicate 64 [Zc,Zc,Z6]).flatten:List Value)
abbrev Oa a (b c:Nat) d (e:As) f g:=([a,blk b 395 OO,blk c 278 (nM c d e),cL iT f 392 1 g,gO gW.cells 395 64 e.ps e.sl]:List fJ)
theorem gH{t:TypeId}{s b:Nat}{z:Value}(h:(ya.info? t).map (fun i=>(i.size,i.bytes,i.zero))=some (s,b,some z)):TI ya t s b z:=h
theorem ti2:TI ya 2 1 8 Zc:=gH k_
theorem fU:TI ya 3 1 8 Zc:=gH k_
theorem xS:TI ya 4 1 1 Zp:=gH k_
theorem ti5:TI ya 5 1 1 (.int .u8 0):=gH k_
theorem Up:TI ya 23 1 8 Zq:=gH k_
theorem MH:TI ya 27 1 24 Zh:=gH k_
theorem Uy:TI ya 28 1 24 Zh:=gH k_
theorem UB:TI ya 31 1 8 Zq:=gH k_
theorem Ao:TI ya 32 1 8 Zc:=gH k_
theorem UD:TI ya 35 1 24 Zh:=gH k_
theorem kF:TI ya 37 1 24 Zh:=gH k_
theorem jm:TI ya 39 1 8 Z6:=gH k_
theorem we:TI ya 41 4 32 (.agg #[Z6,Z6,Zc,Zc]):=gH k_
theorem o7:TI ya 43 7 56 (.agg #[Zc,Z6,Z6,Z6,Zc,Zc,Zc]):=gH k_
theorem ags:TI ya 52 1 24 Zh:=gH k_
theorem agt:TI ya 54 1 24 Zh:=gH k_
theorem Ar:TI ya 60 3 24 (.agg #[Zc,Zc,Zc]):=gH k_
theorem Au:TI ya 62 4 32 (.agg #[Zc,Zc,Zc,Zc]):=gH k_
theorem agu:TI ya 68 1 1 (.int .i8 0):=gH k_
theorem agv:TI ya 70 5 5 (.agg #[Zp,(.int .u8 0),(.int .u8 0),(.int .i8 0),(.int .u8 0)]):=gH k_
theorem Av:TI ya 73 2 16 (.agg #[Z6,Zc]):=gH k_
theorem HD:TI ya 78 1 24 Zh:=gH k_
theorem agw:TI ya 81 1 24 Zh:=gH k_
theorem agx:TI ya 84 1 24 Zh:=gH k_
theorem Ec:TI ya 94 4 32 (.agg #[Zc,Zc,Zc,Zc]):=gH k_
theorem Ak:TI ya 100 2 16 (.agg #[Zp,Z6]):=gH k_
theorem Al:TI ya 102 6 128 (.agg #[Zc,Zh,Zh,Zh,Zh,Zh]):=gH k_
theorem T8:TI ya 103 1 8 Zq:=gH k_
theorem T9:TI ya 104 1 8 Zq:=gH k_
theorem Cn:TI ya 106 9 168 (.agg #[Zh,Zc,Zh,Zh,Zh,Zh,Zh,Zq,Zq]):=gH k_
theorem Ua:TI ya 108 13 200 (.agg #[Zq,Zp,Z6,Zh,Zc,Zh,Zh,Zh,Zh,Zh,Zq,Zq,Zc]):=gH k_
theorem D7:TI ya 110 3 24 (.agg #[Zc,Zc,Zc]):=gH k_
theorem Ub:TI ya 113 1 8 Zq:=gH k_
theorem Uc:TI ya 114 1 8 Zq:=gH k_
theorem Ud:TI ya 115 1 8 Zq:=gH k_
theorem Ue:TI ya 116 1 8 Zq:=gH k_
theorem Uf:TI ya 118 10 80 (.agg #[Zc,Zc,Zc,Zc,Zq,Zq,Zq,Zq,Z6,Z6]):=gH k_
theorem Ug:TI ya 122 5 32 (.agg #[Zc,Zc,Zc,Zp,Zp]):=gH k_
theorem vi:TI ya 128 2 16 (.agg #[Z6,Z6]):=gH k_
theorem xQ:TI ya 138 2 16 (.agg #[Zc,Zc]):=gH k_
theorem agn:TI ya 145 1 8 Zq:=gH k_
theorem MB:TI ya 156 2 16 (.agg #[Zc,Zc]):=gH k_
theorem Hu:TI ya 158 5 40 (.agg #[Zc,Zc,Zc,Zc,Zc]):=gH k_
theorem MC:TI ya 167 4 80 (.agg #[Zq,Zh,Zh,Zh]):=gH k_
theorem Hv:TI ya 169 2 16 (.agg #[Zc,Zc]):=gH k_
theorem Hw:TI ya 170 1 8 Zq:=gH k_
theorem MD:TI ya 171 1 8 Zq:=gH k_
theorem Uh:TI ya 172 1 8 (.map none):=gH k_
theorem Ui:TI ya 174 7 72 (.agg #[Zc,Zc,Z6,Zq,Zq,Zh,(.map none)]):=gH k_
theorem ago:TI ya 179 1 24 Zh:=gH k_
theorem agp:TI ya 183 1 24 Zh:=gH k_
theorem D8:TI ya 185 3 24 (.agg #[Zc,Zc,Zc]):=gH k_
theorem Hx:TI ya 188 1 24 Zh:=gH k_
theorem Am:TI ya 190 2 16 (.agg #[Zc,Zc]):=gH k_
theorem agq:TI ya 195 1 8 Zq:=gH k_
theorem Uj:TI ya 200 1 8 Zq:=gH k_
theorem ME:TI ya 208 1 8 Zq:=gH k_
theorem MF:TI ya 210 1 8 (.agg #[Zq]):=gH k_
theorem Hy:TI ya 211 1 8 Zq:=gH k_
theorem Uk:TI ya 212 1 8 (.map none):=gH k_
theorem Ul:TI ya 214 6 48 (.agg #[Zc,Zc,Zq,Zq,(.map none),Zc]):=gH k_
theorem MG:TI ya 223 1 8 Zq:=gH k_
theorem Um:TI ya 225 8 160 (.agg #[Zq,Zc,Zh,Zh,Zh,Zh,Zh,Zh]):=gH k_
theorem D9:TI ya 227 1 8 .nilFunc:=gH k_
theorem Uo:TI ya 229 1 8 (.map none):=gH k_
theorem Uq:TI ya 231 9 168 (.agg #[Zq,Zc,Zh,Zh,Zh,Zh,Zh,Zh,(.map none)]):=gH k_
theorem Ur:TI ya 232 1 8 Zq:=gH k_
theorem Us:TI ya 234 1 8 (.agg #[Zq]):=gH k_
theorem Ut:TI ya 237 3 56 (.agg #[Zh,Zh,Zc]):=gH k_
theorem Uu:TI ya 245 1 8 Zc:=gH k_
theorem Uv:TI ya 247 2 16 (.agg #[Zc,Zc]):=gH k_
theorem qR:TI ya 250 2 16 (.agg #[Zc,Zc]):=gH k_
theorem An:TI ya 254 4 32 (.agg #[Zc,Zc,Zc,Zp]):=gH k_
theorem Uw:TI ya 267 4 32 (.agg #[Zc,Zc,Zc,Zc]):=gH k_
theorem Ux:TI ya 276 1 24 Zh:=gH k_
theorem Hz:TI ya 278 6 64 (.agg #[Zq,Zh,Zc,Zc,Zc,Zc]):=gH k_
theorem Uz:TI ya 291 1 24 Zh:=gH k_
theorem UA:TI ya 293 3 56 (.agg #[Zh,Zh,Zc]):=gH k_
theorem HA:TI ya 302 4 64 (.agg #[Zq,Zq,Zh,Zh]):=gH k_
theorem MI:TI ya 318 2 16 (.agg #[Zc,Zq]):=gH k_
theorem UC:TI ya 323 3 24 (.agg #[Zc,Zc,Z6]):=gH k_
theorem MJ:TI ya 353 1 8 Zq:=gH k_
theorem MK:TI ya 356 1 8 Zq:=gH k_
theorem ML:TI ya 359 4 48 (.agg #[Zq,Zq,Zh,Zq]):=gH k_
theorem Ea:TI ya 371 1 24 Zh:=gH k_
theorem Aq:TI ya 373 2 16 (.agg #[Zc,Zc]):=gH k_
theorem UE:TI ya 374 13 312 (.agg #[Zh,Zh,Zh,Zh,Zh,Zh,Zh,Zh,Zh,Zh,Zh,Zh,Zh]):=gH k_
theorem UF:TI ya 376 15 344 (.agg #[Zp,Zh,Zh,Zh,Zh,Zh,Zh,Zh,Zh,Zh,Zh,Zh,Zh,Zh,Zh]):=gH k_
theorem agr:TI ya 381 1 24 Zh:=gH k_
theorem UG:TI ya 382 1 24 Zh:=gH k_
theorem UH:TI ya 383 1 24 Zh:=gH k_
theorem HB:TI ya 385 4 64 (.agg #[Zq,Zc,Zh,Zh]):=gH k_
theorem jA:TI ya 388 9 72 (.agg #[Zc,Zc,Zc,Zp,Zc,Zc,Zc,Zc,Zc]):=gH k_
theorem UI:TI ya 389 1 24 Zh:=gH k_
theorem MM:TI ya 391 3 40 (.agg #[Zq,Zh,Zc]):=gH k_
theorem Eb:TI ya 392 1 8 Zq:=gH k_
theorem MN:TI ya 395 192 1536 (.agg (List.replicate 64 [Zc,Zc,Z6]).flatten.toArray):=gH k_
theorem HC:TI ya 399 1 8 Zq:=gH k_
theorem MO:TI ya 401 64 512 (.agg (List.replicate 64 Zc).toArray):=gH k_
theorem MP:TI ya 409 5 88 (.agg #[Zq,Zh,Zh,Zh,Zc]):=gH k_
theorem jW:TI ya 410 1 8 Zq:=gH k_
theorem MQ:TI ya 412 2 16 (.agg #[Zq,Zq]):=gH k_
theorem MR:TI ya 420 2 16 (.agg #[Zq,Zq]):=gH k_
theorem UJ:TI ya 422 7 56 (.agg #[Zq,Zq,Zc,Zc,Zc,Zc,Zc]):=gH k_
theorem DU:jZ ya 41 [(0,1),(1,1),(2,1),(3,1)]:=⟨_,Ep,fun w=>by simp[TI.size ti2,TI.size jm]⟩
theorem LC:jZ ya 43 [(0,1),(1,1),(2,4),(6,1)]:=⟨_,wm,fun w=>by simp[TI.size ti2,TI.size fU,TI.size jm,TI.size we]⟩
theorem adL:jZ ya 60 [(0,1),(1,1),(2,1)]:=⟨_,underlying60,fun w=>by simp[TI.size ti2,TI.size fU]⟩
theorem S1:jZ ya 62 [(0,1),(1,3)]:=⟨_,underlying62,fun w=>by simp[TI.size ti2,TI.size Ar]⟩
theorem S3:jZ ya 73 [(0,1),(1,1)]:=⟨_,HW,fun w=>by simp[TI.size fU,TI.size jm]⟩
theorem S4:jZ ya 94 [(0,1),(1,1),(2,1),(3,1)]:=⟨_,Es,fun w=>by simp[TI.size ti2,TI.size fU]⟩
theorem LB:jZ ya 100 [(0,1),(1,1)]:=⟨_,El,fun w=>by simp[TI.size jm,TI.size xS]⟩
theorem adj:jZ ya 102 [(0,1),(1,1),(2,1),(3,1),(4,1),(5,1)]:=⟨_,underlying102,fun w=>by simp[TI.size fU,TI.size kF,TI.size HD]⟩
theorem adk:jZ ya 106 [(0,1),(1,6),(7,1),(8,1)]:=⟨_,Em,fun w=>by simp[TI.size Al,TI.size T8,TI.size T9,TI.size MH]⟩
theorem adl:jZ ya 108 [(0,1),(1,2),(3,9),(12,1)]:=⟨_,underlying108,fun w=>by simp[TI.size Ak,TI.size Cn,TI.size Up,TI.size fU]⟩
theorem adm:jZ ya 110 [(0,1),(1,1),(2,1)]:=⟨_,underlying110,fun w=>by simp[TI.size ti2,TI.size fU]⟩
theorem adn:jZ ya 118 [(0,4),(4,1),(5,1),(6,1),(7,1),(8,1),(9,1)]:=⟨_,underlying118,fun w=>by simp[TI.size Ub,TI.size Uc,TI.size Ud,TI.size Ue,TI.size jm,TI.size Ec]⟩
theorem ado:jZ ya 122 [(0,1),(1,1),(2,1),(3,1),(4,1)]:=⟨_,underlying122,fun w=>by simp[TI.size fU,TI.size xS]⟩
theorem SS:jZ ya 138 [(0,1),(1,1)]:=⟨_,underlying138,fun w=>by simp[TI.size fU]⟩
theorem adp:jZ ya 156 [(0,1),(1,1)]:=⟨_,underlying156,fun w=>by simp[TI.size ti2]⟩
theorem adq:jZ ya 158 [(0,1),(1,1),(2,2),(4,1)]:=⟨_,underlying158,fun w=>by simp[TI.size MB,TI.size fU]⟩
theorem ads:jZ ya 167 [(0,1),(1,1),(2,1),(3,1)]:=⟨_,underlying167,fun w=>by simp[TI.size Uy,TI.size UB,TI.size kF]⟩
theorem adt:jZ ya 174 [(0,1),(1,1),(2,1),(3,1),(4,1),(5,1),(6,1)]:=⟨_,underlying174,fun w=>by simp[TI.size Hw,TI.size MD,TI.size Uh,TI.size fU,TI.size UD,TI.size jm]⟩
theorem adu:jZ ya 185 [(0,1),(1,1),(2,1)]:=⟨_,underlying185,fun w=>by simp[TI.size fU]⟩
theorem adv:jZ ya 190 [(0,1),(1,1)]:=⟨_,HQ,fun w=>by simp[TI.size fU]⟩
theorem adw:jZ ya 210 [(0,1)]:=⟨_,underlying210,fun w=>by simp[TI.size ME]⟩
theorem adx:jZ ya 214 [(0,1),(1,1),(2,1),(3,1),(4,1),(5,1)]:=⟨_,underlying214,fun w=>by simp[TI.size MF,TI.size Hy,TI.size Uk,TI.size fU]⟩
theorem ady:jZ ya 225 [(0,1),(1,6),(7,1)]:=⟨_,underlying225,fun w=>by simp[TI.size Al,TI.size MG,TI.size kF]⟩
theorem adz:jZ ya 231 [(0,1),(1,6),(7,1),(8,1)]:=⟨_,underlying231,fun w=>by simp[TI.size Al,TI.size MG,TI.size Uo,TI.size kF]⟩
theorem adA:jZ ya 234 [(0,1)]:=⟨_,underlying234,fun w=>by simp[TI.size Ur]⟩
theorem adB:jZ ya 237 [(0,1),(1,1),(2,1)]:=⟨_,underlying237,fun w=>by simp[TI.size ti2,TI.size HD]⟩
theorem adC:jZ ya 247 [(0,1),(1,1)]:=⟨_,underlying247,fun w=>by simp[TI.size ti2,TI.size Uu]⟩
theorem SU:jZ ya 250 [(0,1),(1,1)]:=⟨_,x9,fun w=>by simp[TI.size ti2,TI.size fU]⟩
theorem adD:jZ ya 254 [(0,1),(1,1),(2,1),(3,1)]:=⟨_,underlying254,fun w=>by simp[TI.size ti2,TI.size fU,TI.size xS]⟩
theorem SV:jZ ya 278 [(0,1),(1,1),(2,1),(3,1),(4,1),(5,1)]:=⟨_,underlying278,fun w=>by simp[TI.size Hw,TI.size Ux,TI.size fU]⟩
theorem adE:jZ ya 293 [(0,1),(1,1),(2,1)]:=⟨_,underlying293,fun w=>by simp[TI.size Uz,TI.size fU,TI.size kF]⟩
theorem SX:jZ ya 302 [(0,1),(1,1),(2,1),(3,1)]:=⟨_,underlying302,fun w=>by simp[TI.size Hw,TI.size MD,TI.size MH,TI.size kF]⟩
theorem SY:jZ ya 318 [(0,1),(1,1)]:=⟨_,underlying318,fun w=>by simp[TI.size Hy,TI.size fU]⟩
theorem adF:jZ ya 359 [(0,1),(1,1),(2,1),(3,1)]:=⟨_,underlying359,fun w=>by simp[TI.size Uj,TI.size MJ,TI.size MK,TI.size HD]⟩
theorem SZ:jZ ya 373 [(0,1),(1,1)]:=⟨_,underlying373,fun w=>by simp[TI.size fU]⟩
theorem adG:jZ ya 376 [(0,1),(1,1),(2,13)]:=⟨_,underlying376,fun w=>by simp[TI.size kF,TI.size UE,TI.size xS]⟩
theorem S0:jZ ya 385 [(0,1),(1,1),(2,1),(3,1)]:=⟨_,underlying385,fun w=>by simp[TI.size Hy,TI.size fU,TI.size UG,TI.size UH]⟩
theorem adH:jZ ya 391 [(0,1),(1,1),(2,1)]:=⟨_,underlying391,fun w=>by simp[TI.size ME,TI.size fU,TI.size UI]⟩
theorem adI:jZ ya 409 [(0,1),(1,1),(2,1),(3,1),(4,1)]:=⟨_,underlying409,fun w=>by simp[TI.size fU,TI.size MJ,TI.size kF]⟩
theorem adJ:jZ ya 412 [(0,1),(1,1)]:=⟨_,underlying412,fun w=>by simp[TI.size MK,TI.size jW]⟩
theorem adK:jZ ya 422 [(0,2),(2,1),(3,1),(4,1),(5,1),(6,1)]:=⟨_,underlying422,fun w=>by simp[TI.size ti2,TI.size fU,TI.size MR]⟩
theorem mixed:ya.follows .mixedOrders=true:=by kernel_rfl
instance tt:TT ya:=⟨mixed,[(2,_),(3,_),(4,_),(5,_),(22,_),(23,_),(27,_),(28,_),(31,_),(35,_),(37,_),(39,_),(41,_),(43,_),(52,_),(54,_),(60,_),(68,_),(70,_),(73,_),(78,_),(81,_),(84,_),(94,_),(100,_),(102,_),(103,_),(104,_),(106,_),(108,_),(110,_),(113,_),(114,_),(115,_),(116,_),(118,_),(122,_),(128,_),(138,_),(145,_),(148,_),(152,_),(156,_),(158,_),(167,_),(169,_),(170,_),(171,_),(172,_),(174,_),(179,_),(183,_),(185,_),(188,_),(190,_),(193,_),(195,_),(200,_),(207,_),(208,_),(210,_),(211,_),(212,_),(214,_),(217,_),(223,_),(225,_),(229,_),(231,_),(234,_),(237,_),(245,_),(247,_),(250,_),(254,_),(267,_),(276,_),(278,_),(291,_),(293,_),(302,_),(318,_),(353,_),(356,_),(359,_),(368,_),(376,_),(381,_),(382,_),(383,_),(385,_),(388,_),(389,_),(391,_),(392,_),(399,_),(409,_),(410,_),(412,_),(420,_),(422,_)],[(2,_,_,_),(3,_,_,_),(4,_,_,_),(5,_,_,_),(23,_,_,_),(27,_,_,_),(28,_,_,_),(31,_,_,_),(32,_,_,_),(35,_,_,_),(37,_,_,_),(39,_,_,_),(41,_,_,_),(43,_,_,_),(52,_,_,_),(54,_,_,_),(60,_,_,_),(62,_,_,_),(68,_,_,_),(70,_,_,_),(73,_,_,_),(78,_,_,_),(81,_,_,_),(84,_,_,_),(94,_,_,_),(100,_,_,_),(102,_,_,_),(103,_,_,_),(104,_,_,_),(106,_,_,_),(108,_,_,_),(110,_,_,_),(113,_,_,_),(114,_,_,_),(115,_,_,_),(116,_,_,_),(118,_,_,_),(122,_,_,_),(128,_,_,_),(138,_,_,_),(145,_,_,_),(156,_,_,_),(158,_,_,_),(167,_,_,_),(169,_,_,_),(170,_,_,_),(171,_,_,_),(172,_,_,_),(174,_,_,_),(179,_,_,_),(183,_,_,_),(185,_,_,_),(188,_,_,_),(190,_,_,_),(195,_,_,_),(200,_,_,_),(208,_,_,_),(210,_,_,_),(211,_,_,_),(212,_,_,_),(214,_,_,_),(223,_,_,_),(225,_,_,_),(227,_,_,_),(229,_,_,_),(231,_,_,_),(232,_,_,_),(234,_,_,_),(237,_,_,_),(245,_,_,_),(247,_,_,_),(250,_,_,_),(254,_,_,_),(267,_,_,_),(276,_,_,_),(278,_,_,_),(291,_,_,_),(293,_,_,_),(302,_,_,_),(318,_,_,_),(323,_,_,_),(353,_,_,_),(356,_,_,_),(359,_,_,_),(371,_,_,_),(373,_,_,_),(374,_,_,_),(376,_,_,_),(381,_,_,_),(382,_,_,_),(383,_,_,_),(385,_,_,_),(388,_,_,_),(389,_,_,_),(391,_,_,_),(392,_,_,_),(395,_,_,_),(399,_,_,_),(401,_,_,_),(409,_,_,_),(410,_,_,_),(412,_,_,_),(420,_,_,_),(422,_,_,_)],⟨ur,yf,nH,AI,underlying22,CA,yx,qt,underlying31,qu,yc,ym,Ep,wm,Er,HV,underlying60,underlying68,underlying70,HW,yr,AH,underlying84,Es,El,underlying102,underlying103,underlying104,Em,underlying108,underlying110,underlying113,underlying114,underlying115,underlying116,underlying118,underlying122,y8,underlying138,underlying145,Cu,HP,underlying156,underlying158,underlying167,yq,underlying170,underlying171,yz,underlying174,En,wj,underlying185,x8,HQ,underlying193,underlying195,underlying200,underlying207,underlying208,underlying210,HR,tC,underlying214,Cw,AA,underlying225,AB,underlying231,underlying234,underlying237,underlying245,underlying247,x9,underlying254,AD,Cy,underlying278,HS,underlying293,underlying302,underlying318,underlying353,underlying356,underlying359,underlying368,underlying376,Cz,qq,AE,underlying385,underlying388,yi,underlying391,underlying392,AG,underlying409,nG,underlying412,yo,underlying422,trivial⟩,⟨ti2,fU,xS,ti5,Up,MH,Uy,UB,Ao,UD,kF,jm,we,o7,ags,agt,Ar,Au,agu,agv,Av,HD,agw,agx,Ec,Ak,Al,T8,T9,Cn,Ua,D7,Ub,Uc,Ud,Ue,Uf,Ug,vi,xQ,agn,MB,Hu,MC,Hv,Hw,MD,Uh,Ui,ago,agp,D8,Hx,Am,agq,Uj,ME,MF,Hy,Uk,Ul,MG,Um,D9,Uo,Uq,Ur,Us,Ut,Uu,Uv,qR,An,Uw,Ux,Hz,Uz,UA,HA,MI,UC,MJ,MK,ML,Ea,Aq,UE,UF,agr,UG,UH,HB,jA,UI,MM,Eb,MN,HC,MO,MP,jW,MQ,MR,UJ,trivial⟩⟩
variable(hb n:Nat)(iv bv:Value)(x y:Int)(ps:List (Option Nat))(dQ:List gC)(pl:List Nat)(w:World)
theorem Sh :
 CK ya 243 (Z3 x) w (.bool false):=by
 refine gj func243 ?_
 have a:=k9 w
 refine qP a 14 Zp ?_
 exact⟨rfl,a.gf s_⟩
theorem XD :
 CK ya 172 (Zx x y) w (.int .i64 (kI x y)):=by
 refine iE func172 8 fun d=>?_
 refine ig d (Sh x w) fun c b=>cH b 6 ?_
 refine ig b (Sh y c) fun f a=>cH a 26 ?_
 by_cases g:(x:Int)<(y:Int)
 . refine gm a 11 Zz ?_
   exact⟨js (by simp only[kI];(repeat' split)<;>omega),a.gf s_⟩
 . refine cH a 11 ?_
   by_cases h:(x:Int)>(y:Int)
   . refine gm a 11 qY ?_
     exact⟨js (by simp only[kI];(repeat' split)<;>omega),a.gf s_⟩
   . refine gm a 12 Zc ?_
     exact⟨js (by simp only[kI];(repeat' split)<;>omega),a.gf s_⟩
theorem Lf :
 CK ya 237 (Z3 x) w (.bool false):=by
 refine gj func237 ?_
 have a:=k9 w
 refine qP a 14 Zp ?_
 exact⟨rfl,a.gf s_⟩
theorem XC :
 CK ya 173 (Zx x y) w (.int .i64 (kI x y)):=by
 refine iE func173 8 fun d=>?_
 refine ig d (Lf x w) fun c b=>cH b 6 ?_
 refine ig b (Lf y c) fun f a=>cH a 26 ?_
 by_cases g:(x:Int)<(y:Int)
 . refine gm a 11 Zz ?_
   exact⟨js (by simp only[kI];(repeat' split)<;>omega),a.gf s_⟩
 . refine cH a 11 ?_
   by_cases h:(x:Int)>(y:Int)
   . refine gm a 11 qY ?_
     exact⟨js (by simp only[kI];(repeat' split)<;>omega),a.gf s_⟩
   . refine gm a 12 Zc ?_
     exact⟨js (by simp only[kI];(repeat' split)<;>omega),a.gf s_⟩
theorem acp :
 CK ya 152 (yN x) w (.bool false):=by
 refine gj func152 ?_
 have a:=k9 w
 refine qP a 14 Zp ?_
 exact⟨rfl,a.gf s_⟩
theorem ac1(v:Value)(xs:List Int)(w:World)(hv:Ints .i64 (fun _=>True) w v xs) :
 CK ya 171 #[v] w (.int .i64 (qN xs)):=by
 have t:=hv.len
 refine iE func171 14 fun r=>?_
 refine jO (v:=v) rfl rfl yc hv (fZ r 4 ?_)
 refine lp (α:=Nat) (fun k=>[(3,Zc),(6,v),(7,(Za xs.length)),(8,(Za k))]) (fun k w1=>St [(w,[])] [] w1/\k<=xs.length/\∀ j x,j<k->xs[j]? = some x->x=0) (fun k=>xs.length-k) 0 oh (⟨r,o_,fun j x h=>absurd h o_⟩) ?_
 rintro k c d ⟨o,s,q⟩
 refine fM o 2 ?_
 by_cases e:(k:Int)<(xs.length:Int)
 . obtain⟨x,p⟩:=oT (show k<xs.length by omega)
   refine cH o 11 ?_
   refine DG (i:=(k:Int)) (el:=x) rfl rfl rfl yc fU (St.Gh o s_ hv) o_ (by rw[show ((k:Nat):Int).toNat=k by omega];exact p) ?_
   intro f g a b l
   have m:=b.i64
   refine ld rfl rfl yf rfl a (cH o 7 ?_)
   by_cases n:(x:Int)=0
   . refine fK o 11 ?_
     exact gM (k+1) oh (⟨o,o_,SA q p o_⟩) o1
   . refine gm o 16 (Za x) ?_
     exact⟨js (Sv q p o_).symm,o.gf s_⟩
 . refine gm o 17 Zc ?_
   exact⟨js (Sw q o_).symm,o.gf s_⟩
theorem DS(a b:gC)(w:World) :
 CK ya 340 #[(Ot a),(Ot b)] w (.int .i64 (ry a b)):=by
 refine iE func340 2 fun m=>?_
 refine gN m (fun s t u x h=>?_)
 refine gN h (fun z A B C c=>?_)
 refine fZ c 4 ?_
 refine jS mixed [([0,1,2,3,5,6,7,8,4],[6,8])] [9,10,11,12] c (fun j d=>iY ?_)
 refine cH d 8 ?_
 refine ig d (XD a.key b.key j) fun k e=>fK e 1 ?_
 refine jF (jX ?_)
 refine ig e (XC (a.ix:Int) (b.ix:Int) k) fun D n=>?_
 refine jB (vs:=(Zm (kI a.key b.key) (kI (a.ix:Int) (b.ix:Int)))) (cs:=(Zm (kI a.key b.key) (kI (a.ix:Int) (b.ix:Int)))) rfl rfl yc fU rfl (by simp[Value.cells]) rfl rfl rfl n (fun o p E G f=>cl (ac1 (yL o) [kI a.key b.key,kI (a.ix:Int) (b.ix:Int)] p (yA f (i:=0) rfl (fun y l=>by simp only[ze,pn,or_false]at l;rcases l with rfl|rfl<;>exact PV _ _)).any) ?_)
 rintro _ H ⟨rfl,q⟩
 have g:=lI f q
 refine gm g 4 (Za (qN [kI a.key b.key,kI (a.ix:Int) (b.ix:Int)])) ?_
 exact⟨js (SB a b),g.gf s_⟩
theorem BS(d:Own (Zj hb n iv bv dQ ps pl) w) :
 CQ ya 268 (Zg hb) w (.bool true) (Zj hb n iv bv dQ ps pl):=by
 refine ja func268 d 8 fun b=>?_
 refine lF (a:=some ⟨hb,0,none⟩) (c:=true) rfl rfl rfl HR rfl (cH b 6 ?_)
 refine w6 (a:=⟨hb,0,none⟩) rfl rfl rfl HR HB (fK b 5 ?_)
 refine gT (v:=Zi) results268 rfl ?_
 exact⟨rfl,yk b⟩
theorem Km(b:Own (Zj hb n iv bv dQ ps pl) w)(i:Nat)(hi:i<n) :
 CQ ya 284 (Zk hb i) w (.bool true) (Zj hb n iv bv dQ ps pl):=by
 refine ja func284 b 8 fun a=>?_
 refine gz rfl (ot o_) (cH a 6 ?_)
 refine gz rfl (pL o_) (fK a 5 ?_)
 refine gT (v:=Zi) results284 rfl ?_
 exact⟨rfl,yk a⟩
theorem Kn(l:Own (Zj hb n iv bv dQ ps pl) w)(j:jN n ps pl)(i:Nat)(hi:i<n) :
 CQ ya 285 (Zk hb i) w (.int .i64 (((cE pl i:Nat):Int)-1)) (Zj hb n iv bv dQ ps pl):=by
 have m:=j.at hi
 have s:=j.room
 have r:=j.n
 have t:=j.val i
 refine ja func285 l 12 fun h=>?_
 refine quo (a:=(i:Int)) (b:=64) (e:=((i / 64:Nat):Int)) rfl rfl rfl d_ (xF 64 o_) (iH (cf:=iT) (k:=(i / 64)) (i:=((i / 64:Nat):Int)) rfl rfl rfl AE HC (yv h 2 rfl) o_ rfl (fW om) ?_)
 obtain⟨f,d⟩:∃ q,(cE ps (i / 64))=q:=⟨_,rfl⟩
 refine cH h 8 ?_
 rcases f with _|g
 . skip
   refine mG (a:=(cE ps (i / 64)).map fun b=>⟨b,0,none⟩) (c:=true) rfl rfl rfl AG (by rw[d];rfl) (fK h 10 ?_)
   refine gT (v:=Zz) results285 rfl ?_
   exact⟨js (by rw[j.zero (i / 64) ((fW m).trans (congrArg some d)) i rfl];rfl),yk h⟩
 . skip
   refine mG (a:=(cE ps (i / 64)).map fun b=>⟨b,0,none⟩) (c:=false) rfl rfl rfl AG (by rw[d];rfl) (cH h 9 ?_)
   refine rem (a:=(i:Int)) (b:=64) (e:=((i%64:Nat):Int)) rfl rfl rfl d_ (DY 64) (xB rfl (B9 d) (ia (o:=0) (o' := i%64*1+0) (i:=((i%64:Nat):Int)) rfl rfl rfl HU fU o_ (by simp only[nX];omega) (ld rfl rfl yf rfl (CC h (i:=3) rfl f_ d_ (by have p:=j.room;first|omega|(simp only[jw,gd];omega)) ((fW o_).trans (congrArg some d)) rfl) (fK h 5 ?_))))
   refine gT (v:=(Za ((((cE pl i):Nat):Int)-1))) results285 rfl ?_
   exact⟨js o_,yk h⟩
theorem Gf(N:Own (Zj hb n iv bv dQ ps pl) w)(F:jN n ps pl)(i:Nat)(hi:i<n)(v:Int)(p:Nat)(hv:v+1=(p:Int))(hp:p<=65536) :
 CR ya 270 (Zv hb i v) w (fun r w' => r = .tuple #[]/\∃ K,K.length=ps.length/\jN n K (jw pl i p)/\fP (Zj hb n iv bv dQ ps pl) w w' (Zj hb n iv bv dQ K (jw pl i p))):=by
 have I:=F.at hi
 have Q:=F.room
 have P:=F.n
 have R:=F.val i
 refine ja func270 N 8 fun G=>?_
 refine quo (a:=(i:Int)) (b:=64) (e:=((i / 64:Nat):Int)) rfl rfl rfl d_ (xF 64 o_) ?_
 obtain⟨s,g⟩:∃ q,(cE ps (i / 64))=q:=⟨_,rfl⟩
 refine cH G 2 ?_
 rcases s with _|t
 . skip
   refine mG (a:=(cE ps (i / 64)).map fun b=>⟨b,0,none⟩) (c:=true) rfl rfl rfl AG (by rw[g];rfl) (cH G 9 ?_)
   refine quo (a:=(i:Int)) (b:=64) (e:=((i / 64:Nat):Int)) rfl rfl rfl d_ (xF 64 o_) (ir G (fun d z A B j=>?_))
   refine cH j 1 ?_
   refine iz (f:=(fun _=>(some d))) 3 j (fun C k=>?_)
   have u:=ye [0,4,1,2,3] k
   have L:ps[i / 64]? = some none:=(fW I).trans (congrArg some g)
   have x:=St.PG u L (F.Xg L)
   have h:=x
   have J:jN n (ps.set (i / 64) (some d)) pl:=F.made
   have H:(ps.set (i / 64) (some d))[i / 64]? = some (some d):=by rw[wD,if_pos rfl,if_pos I]
   have O:i / 64<(ps.set (i / 64) (some d)).length:=by rw[List.length_set];exact I
   refine cH k 8 ?_
   refine quo (a:=(i:Int)) (b:=64) (e:=((i / 64:Nat):Int)) rfl rfl rfl d_ (xF 64 o_) (cH h 3 ?_)
   refine rem (a:=(i:Int)) (b:=64) (e:=((i%64:Nat):Int)) rfl rfl rfl d_ (DY 64) (cH h 1 ?_)
   refine gL (e:=(p:Int)) rfl (by rw[kX o_];exact hv) (xB rfl (B9 (iW H)) (ia (o:=0) (o' := i%64*1+0) (i:=((i%64:Nat):Int)) rfl rfl rfl HU fU o_ (by simp only[nX];omega) (r9 (f:=(fun _=>p)) (L' := [gO fL 401 64 (ps.set (i / 64) (some d)) (cO pl i (fun _=>p)),blk hb 385 (sI hb n iv bv),cL gC.cells iv 250 2 dQ,cL iT bv 399 1 (ps.set (i / 64) (some d))]) 0 rfl rfl rfl rfl fU rfl rfl h rfl f_ d_ (by have M:=F.room;first|omega|(simp only[jw,gd];omega)) H rfl rfl rfl (fun D l=>fK l 1 ?_))))
   refine lZ results270 ?_
   have y:=ye [1,2,3,0] l
   exact⟨rfl,ps.set (i / 64) (some d),s_,J.set hi o_ H,yk y⟩
 . skip
   refine mG (a:=(cE ps (i / 64)).map fun b=>⟨b,0,none⟩) (c:=false) rfl rfl rfl AG (by rw[g];rfl) ?_
   have J:=F
   have H:ps[i / 64]? = some (some t):=(fW I).trans (congrArg some g)
   have O:=I
   refine cH G 11 ?_
   refine quo (a:=(i:Int)) (b:=64) (e:=((i / 64:Nat):Int)) rfl rfl rfl d_ (xF 64 o_) (cH G 3 ?_)
   refine rem (a:=(i:Int)) (b:=64) (e:=((i%64:Nat):Int)) rfl rfl rfl d_ (DY 64) (cH G 1 ?_)
   refine gL (e:=(p:Int)) rfl (by rw[kX o_];exact hv) (xB rfl (B9 g) (ia (o:=0) (o' := i%64*1+0) (i:=((i%64:Nat):Int)) rfl rfl rfl HU fU o_ (by simp only[nX];omega) (r9 (f:=(fun _=>p)) (L' := [blk hb 385 (sI hb n iv bv),cL gC.cells iv 250 2 dQ,cL iT bv 399 1 ps,gO fL 401 64 ps (cO pl i (fun _=>p))]) 3 rfl rfl rfl rfl fU rfl rfl G rfl f_ d_ (by have M:=F.room;first|omega|(simp only[jw,gd];omega)) H rfl rfl rfl (fun E m=>fK m 1 ?_))))
   refine lZ results270 ?_
   exact⟨rfl,ps,s_,J.set hi o_ H,yk m⟩
theorem Ko(A:Own (Zj hb n iv bv dQ ps pl) w)(y:Hp n dQ pl)(x:jN n ps pl)(p q:Nat)(hp:p<dQ.length)(E:q<dQ.length) :
 CR ya 269 (Zv hb p q) w (fun r w' => r = .tuple #[]/\∃ v,v.length=ps.length/\jN n v (jw (jw pl (cE (iP dQ p q) p).ix (p+1)) (cE (iP dQ p q) q).ix (q+1))/\fP (Zj hb n iv bv dQ ps pl) w w' (Zj hb n iv bv (iP dQ p q) v (jw (jw pl (cE (iP dQ p q) p).ix (p+1)) (cE (iP dQ p q) q).ix (q+1)))):=by
 have K:=x.n
 have J:=y.len
 have F:=nE dQ p q
 have z:∀ j,j<dQ.length->(cE (iP dQ p q) j).ix<n:=fun j D=>(y.swap hp E).ix j (by rw[F];exact D)
 refine gj func269 ?_
 have G:=(yy A).unpack
 refine ny G 27 fun m h=>?_
 refine iz (f:=(fun _=>(cE dQ q))) 1 h (fun o a=>?_)
 refine cH a 1 ?_
 refine iz (f:=(fun _=>(cE dQ p))) 1 a (fun i b=>?_)
 have k:=b
 have c:=yd [_,_,_,_] _ k
 refine cH b 14 ?_
 refine cl (Gf hb n iv bv ps (iP dQ p q) pl i (yg c 0 rfl) x ((cE (iP dQ p q) p).ix) (z _ (by assumption)) (p:Int) (p+1) o_ o_) ?_
 rintro _ l ⟨rfl,H,s,B,ht⟩
 have d:=(yw c ht)
 have e:=yd [_,_,_,_] _ d
 refine cH d 13 ?_
 refine cl (Gf hb n iv bv H (iP dQ p q) (jw pl ((cE (iP dQ p q) p).ix) (p+1)) l (yg e 0 rfl) B ((cE (iP dQ p q) q).ix) (z _ (by assumption)) (q:Int) (q+1) o_ o_) ?_
 rintro _ t ⟨rfl,I,u,C,ht⟩
 have g:=(yw e ht)
 refine jU g 1 ?_
 exact⟨rfl,I,o_,C,yk g⟩
theorem QL(k:Own (Zj hb n iv bv dQ ps pl) w)(m:Hp n dQ pl)(l:jN n ps pl)(p:Nat)(hp:p<dQ.length) :
 CQ ya 321 (Zk hb p) w (.int .i64 (sN dQ p)) (Zj hb n iv bv dQ ps pl):=by
 have r:=l.n
 have q:=m.len
 have s:pa p<dQ.length:=by simp only[pa];omega
 refine ja func321 k 9 fun o=>?_
 refine quo (a:=(p:Int)-1) (b:=2) (e:=((pa p:Nat):Int)) rfl rfl rfl d_ (paN o_) (gh o 7 fun g c=>?_)
 by_cases h:(p:Int)>0
 . refine cH c 16 ?_
   refine ig c (DS (cE dQ p) (cE dQ (pa p)) g) fun j d=>?_
   by_cases f:(ry (cE dQ p) (cE dQ (pa p)):Int)<0
   . refine gm d 13 (Za ((pa p:Nat):Int)) ?_
     exact⟨js (by unfold sN;rw[if_pos (show 0<p/\iQ (cE dQ p) (cE dQ (pa p)) from⟨o_,oU.1 f⟩)]),yk d⟩
   . refine gm d 13 Zz ?_
     exact⟨js (by unfold sN;rw[if_neg (show ¬ (0<p/\iQ (cE dQ p) (cE dQ (pa p))) from fun i=>f (oU.2 i.2))]),yk d⟩
 . refine gm c 30 Zz ?_
   exact⟨js (by unfold sN;rw[if_neg (show ¬ (0<p/\iQ (cE dQ p) (cE dQ (pa p))) from fun i=>h o_)]),yk c⟩
theorem QO(y:Own (Zj hb n iv bv dQ ps pl) w)(E:Hp n dQ pl)(B:jN n ps pl)(p:Nat)(hp:p<dQ.length) :
 CQ ya 322 (Zk hb p) w (.int .i64 (oQ dQ p)) (Zj hb n iv bv dQ ps pl):=by
 have P:=B.n
 have F:=E.len
 refine gj func322 ?_
 have t:=(yy y).unpack
 refine oW t 18 ?_
 refine qn 3 (iF (fM t 20 ?_))
 refine gL (e:=((2*p:Nat):Int)) rfl iX (gL (e:=((2*p+1:Nat):Int)) rfl iX (cH t 1 ?_))
 refine gL (e:=((2*p+1:Nat):Int)) rfl iX (gh t 10 fun s g=>?_)
 refine iA (m:=dQ.length) 1 rfl rfl qq g rfl ?_
 by_cases k:((2*p+1:Nat):Int)<(dQ.length:Int)
 . refine cH g 16 ?_
   refine ig g (DS (cE dQ (2*p+1)) (cE dQ p) s) fun G b=>?_
   by_cases h:(ry (cE dQ (2*p+1)) (cE dQ p):Int)<0
   . refine fK b 15 ?_
     refine tN (iF (fM b 20 ?_))
     refine gL (e:=((2*p:Nat):Int)) rfl iX (gL (e:=((2*p+1:Nat):Int)) rfl iX (cH b 1 ?_))
     refine gL (e:=((2*p+2:Nat):Int)) rfl iX (gh b 10 fun u c=>?_)
     refine iA (m:=dQ.length) 1 rfl rfl qq c rfl ?_
     by_cases x:((2*p+2:Nat):Int)<(dQ.length:Int)
     . refine cH c 16 ?_
       refine ig c (DS (cE dQ (2*p+2)) (cE dQ (2*p+1)) u) fun H a=>?_
       by_cases l:(ry (cE dQ (2*p+2)) (cE dQ (2*p+1)):Int)<0
       . refine fK a 15 ?_
         refine tN (iF (fM a 17 ?_))
         by_cases I:((2*p+2:Nat):Int)=(p:Int)
         . refine gm a 11 Zz ?_
           exact(show False by omega).elim
         . refine gm a 13 (Za ((2*p+2:Nat):Int)) ?_
           exact⟨js (by unfold oQ jT;simp only;rw[if_pos (show 2*p+1<dQ.length/\iQ (cE dQ (2*p+1)) (cE dQ p) from⟨o_,oU.1 h⟩),if_pos (show 2*p+2<dQ.length/\iQ (cE dQ (2*p+2)) (cE dQ (2*p+1)) from⟨o_,oU.1 l⟩),if_neg o_]),yk a⟩
       . refine fK a 12 ?_
         refine tN (iF (fM a 17 ?_))
         by_cases J:((2*p+1:Nat):Int)=(p:Int)
         . refine gm a 11 Zz ?_
           exact(show False by omega).elim
         . refine gm a 13 (Za ((2*p+1:Nat):Int)) ?_
           exact⟨js (by unfold oQ jT;simp only;rw[if_pos (show 2*p+1<dQ.length/\iQ (cE dQ (2*p+1)) (cE dQ p) from⟨o_,oU.1 h⟩),if_neg (show ¬ (2*p+2<dQ.length/\iQ (cE dQ (2*p+2)) (cE dQ (2*p+1))) from fun r=>l (oU.2 r.2)),if_neg o_]),yk a⟩
     . refine fK c 29 ?_
       refine tN (iF (fM c 17 ?_))
       by_cases K:((2*p+1:Nat):Int)=(p:Int)
       . refine gm c 11 Zz ?_
         exact(show False by omega).elim
       . refine gm c 13 (Za ((2*p+1:Nat):Int)) ?_
         exact⟨js (by unfold oQ jT;simp only;rw[if_pos (show 2*p+1<dQ.length/\iQ (cE dQ (2*p+1)) (cE dQ p) from⟨o_,oU.1 h⟩),if_neg (show ¬ (2*p+2<dQ.length/\iQ (cE dQ (2*p+2)) (cE dQ (2*p+1))) from fun r=>x o_),if_neg o_]),yk c⟩
   . refine fK b 12 ?_
     refine tN (iF (fM b 20 ?_))
     refine gL (e:=((2*p:Nat):Int)) rfl iX (gL (e:=((2*p+1:Nat):Int)) rfl iX (cH b 1 ?_))
     refine gL (e:=((2*p+2:Nat):Int)) rfl iX (gh b 10 fun z i=>?_)
     refine iA (m:=dQ.length) 1 rfl rfl qq i rfl ?_
     by_cases A:((2*p+2:Nat):Int)<(dQ.length:Int)
     . refine cH i 16 ?_
       refine ig i (DS (cE dQ (2*p+2)) (cE dQ p) z) fun L d=>?_
       by_cases o:(ry (cE dQ (2*p+2)) (cE dQ p):Int)<0
       . refine fK d 15 ?_
         refine tN (iF (fM d 17 ?_))
         by_cases M:((2*p+2:Nat):Int)=(p:Int)
         . refine gm d 11 Zz ?_
           exact(show False by omega).elim
         . refine gm d 13 (Za ((2*p+2:Nat):Int)) ?_
           exact⟨js (by unfold oQ jT;simp only;rw[if_neg (show ¬ (2*p+1<dQ.length/\iQ (cE dQ (2*p+1)) (cE dQ p)) from fun r=>h (oU.2 r.2)),if_pos (show 2*p+2<dQ.length/\iQ (cE dQ (2*p+2)) (cE dQ p) from⟨o_,oU.1 o⟩),if_neg o_]),yk d⟩
       . refine fK d 12 ?_
         refine tN (iF (jh d 28 ?_))
         refine gT (v:=Zz) HX rfl ?_
         exact⟨js (by unfold oQ jT;simp only;rw[if_neg (show ¬ (2*p+1<dQ.length/\iQ (cE dQ (2*p+1)) (cE dQ p)) from fun r=>h (oU.2 r.2)),if_neg (show ¬ (2*p+2<dQ.length/\iQ (cE dQ (2*p+2)) (cE dQ p)) from fun r=>o (oU.2 r.2)),if_pos rfl]),yk d⟩
     . refine fK i 29 ?_
       refine tN (iF (jh i 28 ?_))
       refine gT (v:=Zz) HX rfl ?_
       exact⟨js (by unfold oQ jT;simp only;rw[if_neg (show ¬ (2*p+1<dQ.length/\iQ (cE dQ (2*p+1)) (cE dQ p)) from fun r=>h (oU.2 r.2)),if_neg (show ¬ (2*p+2<dQ.length/\iQ (cE dQ (2*p+2)) (cE dQ p)) from fun r=>A o_),if_pos rfl]),yk i⟩
 . refine fK g 29 ?_
   refine tN (iF (fM g 20 ?_))
   refine gL (e:=((2*p:Nat):Int)) rfl iX (gL (e:=((2*p+1:Nat):Int)) rfl iX (cH g 1 ?_))
   refine gL (e:=((2*p+2:Nat):Int)) rfl iX (gh g 10 fun C j=>?_)
   refine iA (m:=dQ.length) 1 rfl rfl qq j rfl ?_
   by_cases D:((2*p+2:Nat):Int)<(dQ.length:Int)
   . refine cH j 16 ?_
     refine ig j (DS (cE dQ (2*p+2)) (cE dQ p) C) fun N f=>?_
     by_cases q:(ry (cE dQ (2*p+2)) (cE dQ p):Int)<0
     . refine fK f 15 ?_
       refine tN (iF (fM f 17 ?_))
       by_cases O:((2*p+2:Nat):Int)=(p:Int)
       . refine gm f 11 Zz ?_
         exact(show False by omega).elim
       . refine gm f 13 (Za ((2*p+2:Nat):Int)) ?_
         exact⟨js (by unfold oQ jT;simp only;rw[if_neg (show ¬ (2*p+1<dQ.length/\iQ (cE dQ (2*p+1)) (cE dQ p)) from fun r=>k o_),if_pos (show 2*p+2<dQ.length/\iQ (cE dQ (2*p+2)) (cE dQ p) from⟨o_,oU.1 q⟩),if_neg o_]),yk f⟩
     . refine fK f 12 ?_
       refine tN (iF (jh f 28 ?_))
       refine gT (v:=Zz) HX rfl ?_
       exact⟨js (by unfold oQ jT;simp only;rw[if_neg (show ¬ (2*p+1<dQ.length/\iQ (cE dQ (2*p+1)) (cE dQ p)) from fun r=>k o_),if_neg (show ¬ (2*p+2<dQ.length/\iQ (cE dQ (2*p+2)) (cE dQ p)) from fun r=>q (oU.2 r.2)),if_pos rfl]),yk f⟩
   . refine fK j 29 ?_
     refine tN (iF (jh j 28 ?_))
     refine gT (v:=Zz) HX rfl ?_
     exact⟨js (by unfold oQ jT;simp only;rw[if_neg (show ¬ (2*p+1<dQ.length/\iQ (cE dQ (2*p+1)) (cE dQ p)) from fun r=>k o_),if_neg (show ¬ (2*p+2<dQ.length/\iQ (cE dQ (2*p+2)) (cE dQ p)) from fun r=>D o_),if_pos rfl]),yk j⟩
theorem afn(D E hb n:Nat)(iv bv:Value)(ps:List (Option Nat))(dQ:List gC)(pl:List Nat)(p:Nat)(w:World)(Q:Own (wT D p E hb n iv bv dQ ps pl) w)(S:Hp n dQ pl)(R:jN n ps pl)(hp:p<dQ.length)(P:uB dQ p) :
 CR ya 320 #[(OM hb),(Zb D),(Zb E)] w (fun r w' => r = .tuple #[]/\∃ (p2:Nat),∃ C ys B,pI n dQ ys ps C B/\p2<ys.length/\vr ys p2/\fP (wT D p E hb n iv bv dQ ps pl) w w' (wT D p2 E hb n iv bv ys C B)):=by
 refine gj func320 ?_
 have M:=(yy Q).unpack
 have J:=pI.refl S R
 have i:=ye [2,3,4,5,0,1] M
 have b:=yd [_,_,_,_] _ i
 refine fM M 4 ?_
 refine lR (fi:=(Ze hb)) (ca:=[]) rfl rfl rfl eN (QL hb n iv bv ps dQ pl w (yg b 0 rfl) J.hp J.gX p (by first|omega|(rw[nE];omega))) ?_
 rintro _ x ⟨rfl,ht⟩
 have c:=(yw b ht)
 have j:=ye [4,5,0,1,2,3] c
 refine fZ c 4 ?_
 refine lp (α:=List gC×List (Option Nat)×List Nat×Nat×Int) (fun(ys,C,B,p2,q)=>[(0,(OM hb)),(1,(Zb D)),(2,(Zb E)),(4,(Za q))]) (fun(ys,C,B,p2,q) w1=>St [(w,(wT D p E hb n iv bv dQ ps pl).gq)] (Jf D p2 E hb n iv bv ys C B) w1/\pI n dQ ys ps C B/\p2<ys.length/\uB ys p2/\q=sN ys p2) (fun(ys,C,B,p2,q)=>p2) (dQ,ps,pl,p,(sN dQ p)) oh (⟨j,J,hp,P,rfl⟩) ?_
 rintro⟨ys,C,B,p2,q⟩ y k ⟨F,G,L,K,I⟩
 refine fM F 4 ?_
 by_cases d:(q:Int)=-1
 . have T:=K.stop (VP (I.symm.trans d))
   refine jU F 8 ?_
   exact⟨rfl,p2,C,ys,B,G,L,T,yk F⟩
 . have H:=VO (fun O=>@d (I.trans O))
   refine cH F 1 ?_
   obtain rfl:q=((pa p2:Nat):Int):=I.trans H.1
   have N:=H.2.1
   have U:pa p2<ys.length:=by simp only[pa];omega
   have l:=ye [2,3,4,5,0,1] F
   have e:=yd [_,_,_,_] _ l
   refine cH F 12 ?_
   refine cl (Ko hb n iv bv C ys B k (yg e 0 rfl) G.hp G.gX p2 (pa p2) o_ o_) ?_
   rintro _ z ⟨rfl,f,m,o,ht⟩
   have s:=(yw e ht)
   have a:=G.swap (p:=p2) (q:=(pa p2)) o_ o_ m o
   refine gh s 11 fun t u=>?_
   have g:=yd [_,_,_,_] _ u
   refine lR (fi:=(Ze hb)) (ca:=[]) rfl rfl rfl eN (QL hb n iv bv f (iP ys p2 (pa p2)) (jw (jw B (cE (iP ys p2 (pa p2)) p2).ix (p2+1)) (cE (iP ys p2 (pa p2)) (pa p2)).ix ((pa p2)+1)) t (yg g 0 rfl) a.hp a.gX (pa p2) (by first|omega|(rw[nE];omega))) ?_
   rintro _ A ⟨rfl,ht⟩
   have h:=(yw g ht)
   refine fK h 2 ?_
   have v:=ye [4,5,0,1,2,3] h
   exact gM (iP ys p2 (pa p2),f,jw (jw B (cE (iP ys p2 (pa p2)) p2).ix (p2+1)) (cE (iP ys p2 (pa p2)) (pa p2)).ix ((pa p2)+1),(pa p2),sN (iP ys p2 (pa p2)) (pa p2)) oh (⟨v,a,by rw[nE];omega,K.up N L H.2.2,rfl⟩) (by show pa p2<p2;simp only[pa];omega)
theorem afm(D E hb n:Nat)(iv bv:Value)(ps:List (Option Nat))(dQ:List gC)(pl:List Nat)(p:Nat)(w:World)(O:Own (wT D p E hb n iv bv dQ ps pl) w)(Q:Hp n dQ pl)(P:jN n ps pl)(hp:p<dQ.length)(N:vr dQ p) :
 CR ya 320 #[(ON hb),(Zb D),(Zb E)] w (fun r w' => r = .tuple #[]/\∃ (p2:Nat),∃ C ys B,pI n dQ ys ps C B/\p2<ys.length/\Ord ys/\fP (wT D p E hb n iv bv dQ ps pl) w w' (wT D p2 E hb n iv bv ys C B)):=by
 refine gj func320 ?_
 have L:=(yy O).unpack
 have J:=pI.refl Q P
 have i:=ye [2,3,4,5,0,1] L
 have b:=yd [_,_,_,_] _ i
 refine fM L 4 ?_
 refine lR (fi:=(Ze hb)) (ca:=[]) rfl rfl rfl eN (QO hb n iv bv ps dQ pl w (yg b 0 rfl) J.hp J.gX p (by first|omega|(rw[nE];omega))) ?_
 rintro _ x ⟨rfl,ht⟩
 have c:=(yw b ht)
 have j:=ye [4,5,0,1,2,3] c
 refine fZ c 4 ?_
 refine lp (α:=List gC×List (Option Nat)×List Nat×Nat×Int) (fun(ys,C,B,p2,q)=>[(0,(ON hb)),(1,(Zb D)),(2,(Zb E)),(4,(Za q))]) (fun(ys,C,B,p2,q) w1=>St [(w,(wT D p E hb n iv bv dQ ps pl).gq)] (Jf D p2 E hb n iv bv ys C B) w1/\pI n dQ ys ps C B/\p2<ys.length/\vr ys p2/\q=oQ ys p2) (fun(ys,C,B,p2,q)=>ys.length-p2) (dQ,ps,pl,p,(oQ dQ p)) oh (⟨j,J,hp,N,rfl⟩) ?_
 rintro⟨ys,C,B,p2,q⟩ y k ⟨F,G,S,K,I⟩
 refine fM F 4 ?_
 by_cases d:(q:Int)=-1
 . have T:=K.stop (Wk (I.symm.trans d))
   refine jU F 8 ?_
   exact⟨rfl,p2,C,ys,B,G,S,T,yk F⟩
 . have H:=Wj (fun M=>@d (I.trans M))
   refine cH F 1 ?_
   obtain rfl:q=((jT ys p2:Nat):Int):=I.trans H.1
   have R:=Pb H.2
   have U:=R.1
   have l:=ye [2,3,4,5,0,1] F
   have e:=yd [_,_,_,_] _ l
   refine cH F 12 ?_
   refine cl (Ko hb n iv bv C ys B k (yg e 0 rfl) G.hp G.gX p2 (jT ys p2) o_ o_) ?_
   rintro _ z ⟨rfl,f,m,o,ht⟩
   have s:=(yw e ht)
   have a:=G.swap (p:=p2) (q:=(jT ys p2)) o_ o_ m o
   refine gh s 11 fun t u=>?_
   have g:=yd [_,_,_,_] _ u
   refine lR (fi:=(Ze hb)) (ca:=[]) rfl rfl rfl eN (QO hb n iv bv f (iP ys p2 (jT ys p2)) (jw (jw B (cE (iP ys p2 (jT ys p2)) p2).ix (p2+1)) (Oq ys p2).ix ((jT ys p2)+1)) t (yg g 0 rfl) a.hp a.gX (jT ys p2) (by first|omega|(rw[nE];omega))) ?_
   rintro _ A ⟨rfl,ht⟩
   have h:=(yw g ht)
   refine fK h 2 ?_
   have v:=ye [4,5,0,1,2,3] h
   exact gM (iP ys p2 (jT ys p2),f,jw (jw B (cE (iP ys p2 (jT ys p2)) p2).ix (p2+1)) (Oq ys p2).ix ((jT ys p2)+1),(jT ys p2),oQ (iP ys p2 (jT ys p2)) (jT ys p2)) oh (⟨v,a,by rw[nE];omega,K.down rfl H.2,rfl⟩) (by show (iP ys p2 (jT ys p2)).length-jT ys p2<ys.length-p2;rw[nE];omega)
theorem TK(Q:Own (Zj hb n iv bv dQ ps pl) w)(S:Hp n dQ pl)(R:jN n ps pl)(p:Nat)(hp:p<dQ.length)(P:uB dQ p) :
 CR ya 271 (Zk hb p) w (fun r w' => r = .tuple #[]/\∃ N ys O,pI n dQ ys ps N O/\Ord ys/\fP (Zj hb n iv bv dQ ps pl) w w' (Zj hb n iv bv ys N O)):=by
 refine gj func271 ?_
 have M:=(yy Q).unpack
 have F:=pI.refl S R
 refine fM M 2 ?_
 refine gN M (fun a C D E i=>?_)
 refine gN i (fun b j G H c=>?_)
 refine cH c 4 ?_
 refine kW (vf:=[]) (vc:=(Zy b a)) rfl rfl rfl (cH c 7 ?_)
 refine kW (vf:=(Ze hb)) (vc:=[]) rfl rfl rfl ?_
 have e:=yd [_,_,_,_,_,_] _ c
 refine lR (fi:=[]) (ca:=(Zy b a)) rfl rfl rfl eN (afn b a hb n iv bv ps dQ pl p j (yg e 0 rfl) F.hp F.gX (by first|assumption|omega) P) ?_
 rintro _ k ⟨rfl,l,m,o,q,s,I,t,ht⟩
 have f:=(yw e ht)
 have d:=F.trans s
 refine cH f 5 ?_
 refine kW (vf:=(Ze hb)) (vc:=[]) rfl rfl rfl ?_
 have g:=yd [_,_,_,_,_,_] _ f
 refine lR (fi:=[]) (ca:=(Zy b a)) rfl rfl rfl eN (afm b a hb n iv bv m o q l k (yg g 0 rfl) d.hp d.gX (by first|assumption|omega) t) ?_
 rintro _ J ⟨rfl,K,u,v,x,y,L,z,ht⟩
 have h:=(yw g ht)
 have A:=d.trans y
 refine jU h 1 ?_
 have B:=ye [2,3,4,5,0,1] h
 exact⟨rfl,u,v,x,A,z,yk B⟩
theorem ZS(e:Own (Zj hb n iv bv dQ ps pl) w)(k:Hp n dQ pl)(a:jN n ps pl)(i:Nat)(hi:i<n)(l:cE pl i=0) :
 CQ ya 283 (Zk hb i) w (.tuple #[.int .i64 0,.int .i64 5]) (Zj hb n iv bv dQ ps pl):=by
 have o:=a.n
 have m:=k.len
 have p:=a.val i
 refine gj func283 ?_
 have c:=(yy e).unpack
 refine fM c 11 ?_
 refine gy (BS hb n iv bv ps dQ pl w ·) c fun g b=>cH b 9 ?_
 refine gy (Km hb n iv bv ps dQ pl g · i o_) b fun h d=>cH d 9 ?_
 refine gy (Kn hb n iv bv ps dQ pl h · a i o_) d fun j f=>?_
 refine gz rfl (sW o_) (fK f 13 ?_)
 refine kC (v:=Zc) (v' := (.int .i64 5)) results283 rfl rfl ?_
 exact⟨rfl,yk f⟩
theorem Z8(g:Own (Zj hb n iv bv dQ ps pl) w)(d:Hp n dQ pl)(a:jN n ps pl)(i:Nat)(hi:i<n)(f:cE pl i=0) :
 CQ ya 282 (Zk hb i) w (.tuple C9) (Zj hb n iv bv dQ ps pl):=by
 have j:=a.n
 have h:=d.len
 have k:=a.val i
 refine gj func282 ?_
 have e:=(yy g).unpack
 refine fM e 10 ?_
 refine gy (ZS hb n iv bv ps dQ pl w · d a i hi f) e fun c b=>?_
 refine jk b 23 Zc Zp ?_
 exact⟨rfl,yk b⟩
theorem QV(U:Own (Zj hb n iv bv dQ ps pl) w)(F:Hp n dQ pl)(f:jN n ps pl)(V:Ord dQ)(i:Nat)(hi:i<n)(S:cE pl i=0)(key:Int)(hk:ij .i64 key) :
 CR ya 214 (Zv hb i key) w (fun r w' => r = .int .i64 0/\∃ Z h ys k,Hp n ys k/\jN n h k/\Ord ys/\(∀ e,e∈ys↔e∈dQ\/e=⟨i,key⟩)/\h.length=ps.length/\ys.length=dQ.length+1/\fP (Zj hb n iv bv dQ ps pl) w w' (Zj hb n Z bv ys h k)):=by
 have ad:=f.n
 have ac:=F.len
 have ae:=f.val i
 have Q:=F.push hi S hk
 have ab:dQ.length+1<=n:=by have T:=Q.len;simpa using T
 refine gj func214 ?_
 have R:=(yy U).unpack
 refine fM R 10 ?_
 refine gy (BS hb n iv bv ps dQ pl w ·) R fun u g=>cH g 9 ?_
 refine gy (Km hb n iv bv ps dQ pl u · i o_) g fun y j=>cH j 9 ?_
 refine gy (Kn hb n iv bv ps dQ pl y · f i o_) j fun J c=>?_
 refine gz rfl (q7 o_) (cH c 13 ?_)
 refine iA (m:=dQ.length) 1 rfl rfl qq c rfl (cH c 12 ?_)
 refine iL (pvs:=[(0,(Za i)),(1,(Za key))]) (v:=.agg (Zx i key)) rfl rfl (i6 [(0,(Zd i)),(1,(Zd key))] qR SU rfl oh rfl) (jB (vs:=(De i key)) (cs:=(Zm i key)) rfl rfl qq qR rfl (by simp[Value.cells]) rfl rfl rfl c (fun z K L M l=>kR (cf:=gC.cells) (ys:=dQ) (zs:=[(⟨i,key⟩:gC)]) (LL:=fun a=>[row (Zu z) 250 2 1 ((Zm i key)),blk hb 385 (sI hb n iv bv),cL gC.cells a 250 2 (dQ++[(⟨i,key⟩:gC)]),cL iT bv 399 1 ps,gO fL 401 64 ps pl]) 2 rfl rfl rfl qq qR rfl d_ l rfl (kG l (i:=0) rfl) (fun x Y=>zr.1 (show List.all _ _=true from rfl) x Y) (by simp only[zb,zd];omega) (by simp only[zb,zd];omega) f_ ?_))
 intro a N A O
 have d:=ye [1,2,3,4] A
 refine cH d 2 ?_
 refine iS 0 d (fun B o=>?_) (hvs:=(cells_one (yh d (i:=1) rfl))) (h1:=(gD (yh d (i:=1) rfl) je))
 have p:=yd [_,_,_,_] _ o
 refine cH o 7 ?_
 refine cl (Gf hb n a bv ps (dQ++[(⟨i,key⟩:gC)]) pl B (yg p 0 rfl) f i hi (dQ.length:Int) (dQ.length+1) o_ o_) ?_
 rintro _ C ⟨rfl,aa,D,W,ht⟩
 have q:=(yw p ht)
 have X:=W
 have s:=yd [_,_,_,_] _ q
 refine cH q 6 ?_
 refine cl (TK hb n a bv aa (dQ++[(⟨i,key⟩:gC)]) (jw pl i (dQ.length+1)) C (yg s 0 rfl) Q X dQ.length (by first|omega|(simp only[gd,zk,zb,zd];omega)) (adO V _)) ?_
 rintro _ P ⟨rfl,E,G,H,b,I,ht⟩
 have t:=(yw s ht)
 refine gm t 8 Zc ?_
 exact⟨rfl,a,E,G,H,b.hp,b.gX,I,fun e=>(b.mem e).trans s_,by rw[b.qj,D],by rw[b.len];simp,yk t⟩
theorem aai(e:Own (Zj hb n iv bv dQ ps pl) w)(k:Hp n dQ pl)(a:jN n ps pl)(i:Nat)(hi:i<n)(p:Nat)(hp:cE pl i=p+1)(key:Int) :
 CQ ya 214 (Zv hb i key) w (.int .i64 6) (Zj hb n iv bv dQ ps pl):=by
 have m:=a.n
 have l:=k.len
 have o:=a.val i
 refine gj func214 ?_
 have c:=(yy e).unpack
 refine fM c 10 ?_
 refine gy (BS hb n iv bv ps dQ pl w ·) c fun g b=>cH b 9 ?_
 refine gy (Km hb n iv bv ps dQ pl g · i o_) b fun h d=>cH d 9 ?_
 refine gy (Kn hb n iv bv ps dQ pl h · a i o_) d fun j f=>?_
 refine gz rfl (Jz o_) (fK f 12 ?_)
 refine gT (v:=Bp) results214 rfl ?_
 exact⟨rfl,yk f⟩
theorem ZR(T:Own (Zj hb n iv bv dQ ps pl) w)(H:Hp n dQ pl)(N:jN n ps pl)(M:Ord dQ)(p:Nat)(hp:p<dQ.length) :
 CR ya 198 (Zk hb p) w (fun r w' => r = .tuple #[]/\∃ X K ys L,Hp n ys L/\jN n K L/\Ord ys/\(∀ e,e∈ys↔e∈dQ/\e.ix≠(cE dQ p).ix)/\K.length=ps.length/\ys.length+1=dQ.length/\fP (Zj hb n iv bv dQ ps pl) w w' (Zj hb n X bv ys K L)):=by
 have Z:=N.n
 have Y:=H.len
 obtain⟨k,V⟩:∃ k,dQ.length=k+1:=⟨dQ.length-1,o_⟩
 have J:=H.swap hp (show k<dQ.length by omega)
 have aa:=nE dQ p k
 have P:=J.cut (m:=k) o_
 have Q:=fun e=>(XZ J (m:=k) o_ e)
 have R:cE (iP dQ p k) k=cE dQ p:=by rw[Ch hp o_,if_pos rfl]
 have S:((iP dQ p k).take k).length=k:=by rw[zw];omega
 refine ja func198 T 6 fun I=>?_
 refine iA (m:=dQ.length) 1 rfl rfl qq I rfl (gL (e:=(k:Int)) rfl iX ?_)
 have f:=yd [_,_,_,_] _ I
 refine cH I 8 ?_
 refine cl (Ko hb n iv bv ps dQ pl w (yg f 0 rfl) H N p k hp o_) ?_
 rintro _ u ⟨rfl,v,g,x,ht⟩
 have j:=(yw f ht)
 have o:=yd [_,_,_,_] _ j
 refine cH j 13 ?_
 refine cl (Gf hb n iv bv v (iP dQ p k) (jw (jw pl (cE (iP dQ p k) p).ix (p+1)) (cE (iP dQ p k) k).ix (k+1)) u (yg o 0 rfl) x ((cE (iP dQ p k) k).ix) (J.ix k o_) (-1) 0 o_ o_) ?_
 rintro _ y ⟨rfl,F,q,U,ht⟩
 have d:=(yw o ht)
 have O:=U
 refine cH d 10 ?_
 refine D3 (l:=0) (h:=k) rfl rfl qq qR (yv (cf:=gC.cells) d 1 rfl) rfl ⟨_,js o_⟩ o_ o_ ?_
 have c:St _ [blk hb 385 (sI hb n iv bv),cL gC.cells (jL 2 iv 0 k) 250 2 ((iP dQ p k).take k),cL iT bv 399 1 F,gO fL 401 64 F (jw (jw (jw pl (cE (iP dQ p k) p).ix (p+1)) (cE (iP dQ p k) k).ix (k+1)) ((cE (iP dQ p k) k).ix) 0)] y:=St.G6 d (i:=1) rfl f_ o_
 refine cH c 2 ?_
 refine iS 0 c (fun z a=>?_) (hvs:=(cells_one (yh c (i:=1) rfl))) (h1:=(gD (yh c (i:=1) rfl) je))
 refine cH a 6 ?_
 by_cases E:(p:Int)<(k:Int)
 . have s:=yd [_,_,_,_] _ a
   refine cH a 7 ?_
   refine cl (TK hb n (jL 2 iv 0 k) bv F ((iP dQ p k).take k) (jw (jw (jw pl (cE (iP dQ p k) p).ix (p+1)) (cE (iP dQ p k) k).ix (k+1)) ((cE (iP dQ p k) k).ix) 0) z (yg s 0 rfl) P O p (by first|omega|(simp only[gd,zk,zb,zd];omega)) (M.cut V o_)) ?_
   rintro _ G ⟨rfl,A,B,C,b,D,ht⟩
   have t:=(yw s ht)
   refine jU t 1 ?_
   exact⟨rfl,(jL 2 iv 0 k),A,B,C,b.hp,b.gX,D,fun e=>(b.mem e).trans (by rw[Q e,Mt hp o_,R]),by rw[b.qj,q,g],by rw[b.len,S];omega,yk t⟩
 . refine jU a 5 ?_
   have W:p=k:=by omega
   exact⟨rfl,(jL 2 iv 0 k),F,((iP dQ p k).take k),jw (jw (jw pl (cE (iP dQ p k) p).ix (p+1)) (cE (iP dQ p k) k).ix (k+1)) ((cE (iP dQ p k) k).ix) 0,P,O,by subst W;rw[afV hp];exact M.XX o_,fun e=>by rw[Q e,Mt hp o_,R],by rw[q,g],by rw[S];omega,yk a⟩
theorem QT(c:Own (Zj hb n iv bv dQ ps pl) w)(s:Hp n dQ pl)(r:jN n ps pl)(q:dQ.length=0) :
 CQ ya 197 (Zg hb) w (.tuple C6) (Zj hb n iv bv dQ ps pl):=by
 refine ja func197 c 2 fun p=>?_
 refine ir p (fun g e h j b=>?_)
 have f:=ye [1,2,3,4,0] b
 refine cH b 7 ?_
 refine gy (BS hb n iv bv ps dQ pl e ·) f fun k a=>cH a 6 ?_
 refine iA (m:=dQ.length) 1 rfl rfl qq a rfl (gz rfl (sW o_) (cH a 6 ?_))
 refine iL (pvs:=[]) (v:=.agg #[Zc,Zc]) rfl rfl (i6 [] qR SU rfl trivial rfl) (jI a 6 fun l d=>?_)
 refine o5 (v:=IN) (v' := Zp) results197 (oI (cs:=wS) rfl x9 rfl qR rfl (mL d (i:=4) (o:=0) (vs:=wS) rfl rfl)) (qm rfl) ?_
 exact⟨rfl,yk d⟩
theorem QU(c:Own (Zj hb n iv bv dQ ps pl) w)(t:Hp n dQ pl)(s:jN n ps pl)(r:0<dQ.length) :
 CQ ya 197 (Zg hb) w (.tuple (C7 ((cE dQ 0).ix:Int) ((cE dQ 0).key))) (Zj hb n iv bv dQ ps pl):=by
 refine ja func197 c 2 fun q=>?_
 refine ir q (fun g e h j b=>?_)
 have f:=ye [1,2,3,4,0] b
 refine cH b 7 ?_
 refine gy (BS hb n iv bv ps dQ pl e ·) f fun l a=>cH a 6 ?_
 refine iA (m:=dQ.length) 1 rfl rfl qq a rfl (gz rfl (uO o_) (cH a 12 ?_))
 refine iH (cf:=gC.cells) (k:=0) (i:=0) rfl rfl rfl qq qR (yv a 1 rfl) o_ o_ (fW om) (jI a 6 fun p d=>?_)
 refine o5 (v:=(C4 ((cE dQ 0).ix:Int) ((cE dQ 0).key))) (v' := Zi) results197 (oI (cs:=(Zm ((cE dQ 0).ix:Int) ((cE dQ 0).key))) rfl x9 rfl qR rfl (mL d (i:=4) (o:=0) (vs:=(Zm ((cE dQ 0).ix:Int) ((cE dQ 0).key))) rfl rfl)) (qm rfl) ?_
 exact⟨rfl,yk d⟩
theorem aah(R:Own (Zj hb n iv bv dQ ps pl) w)(K:Hp n dQ pl)(J:jN n ps pl)(S:Ord dQ)(I:0<dQ.length) :
 CR ya 126 (Zg hb) w (fun r w' => r = .tuple (C7 ((cE dQ 0).ix:Int) ((cE dQ 0).key))/\∃ U b ys F,Hp n ys F/\jN n b F/\Ord ys/\(∀ e,e∈ys↔e∈dQ/\e.ix≠(cE dQ 0).ix)/\b.length=ps.length/\ys.length+1=dQ.length/\fP (Zj hb n iv bv dQ ps pl) w w' (Zj hb n U bv ys b F)):=by
 refine ja func126 R 2 fun T=>?_
 refine ir T (fun x g y z a=>?_)
 have h:=ye [1,2,3,4,0] a
 refine cH a 6 ?_
 refine gy (QU hb n iv bv ps dQ pl g · K J I) h fun A c=>cH c 3 ?_
 refine ir c (fun B C D E j=>?_)
 refine gh j 13 fun k l=>?_
 have m:=ye [1,2,3,4,0,5] l
 have d:=yd [_,_,_,_] _ m
 refine cl (ZR hb n iv bv ps dQ pl k (yg d 0 rfl) K J S 0 I) ?_
 rintro _ G ⟨rfl,p,q,s,t,L,M,N,O,P,Q,ht⟩
 have u:=(yw d ht)
 refine jI u 11 fun H f=>?_
 refine o5 (v:=(C4 ((cE dQ 0).ix:Int) ((cE dQ 0).key))) (v' := Zi) results126 (oI (cs:=(Zm ((cE dQ 0).ix:Int) ((cE dQ 0).key))) rfl x9 rfl qR rfl (mL f (i:=5) (o:=0) (vs:=(Zm ((cE dQ 0).ix:Int) ((cE dQ 0).key))) rfl rfl)) (qm rfl) ?_
 exact⟨rfl,p,q,s,t,L,M,N,O,P,Q,yk f⟩
theorem aag(r:Own (Zj hb n iv bv dQ ps pl) w)(y:Hp n dQ pl)(x:jN n ps pl)(b:dQ.length=0) :
 CQ ya 126 (Zg hb) w (.tuple C6) (Zj hb n iv bv dQ ps pl):=by
 refine ja func126 r 2 fun z=>?_
 refine ir z (fun j e k l a=>?_)
 have f:=ye [1,2,3,4,0] a
 refine cH a 6 ?_
 refine gy (QT hb n iv bv ps dQ pl e · y x b) f fun m c=>cH c 3 ?_
 refine ir c (fun p q s t g=>?_)
 refine jI g 22 fun u d=>?_
 refine o5 (v:=IN) (v' := Zp) results126 (oI (cs:=wS) rfl x9 rfl qR rfl (mL d (i:=5) (o:=0) (vs:=wS) rfl rfl)) (qm rfl) ?_
 have h:=ye [1,2,3,4,0,5] d
 exact⟨rfl,yk h⟩
theorem Xo(v:Value)(xs:List gC)(w:World)(hv:gV 2 gC.cells (fun _=>True) w v xs)(m:xs.length<=1000000) :
 CR ya 280 #[v] w (fun r w' => pY 2 gC.cells w w' r 250 xs/\gE [] w w'):=by
 refine iE func280 9 fun l=>?_
 refine BJ (v:=v) rfl rfl rfl qq hv (fZ l 2 ?_)
 cases e:(vT v:Bool)
 . skip
   refine fM l 5 ?_
   refine jB (vs:=[]) (cs:=[]) rfl rfl qq qR rfl (by intro v hv;simp at hv) rfl rfl rfl l ?_
   intro f g h i c
   have d:=c
   refine cH c 1 ?_
   refine kR (cf:=gC.cells) (ys:=[]) (zs:=xs) (LL:=fun a=>[cL gC.cells a 250 2 xs]) 0 rfl rfl rfl qq qR rfl d_ d rfl (gV.src (yu d s_ d_ hv) f_) (xd f_ _) (by simp only[zd];omega) (by simp only[zd];omega) f_ (fun a j b k=>fK b 4 ?_)
   refine gT (v:=a) results280 rfl ?_
   exact⟨Ct b s_,b.gf s_⟩
 . skip
   refine qP l 8 Zh ?_
   obtain rfl:=B4 e hv
   exact⟨pY.B3, l.gf s_⟩
theorem aaa(B:n<=65536) :
 CR ya 220 (Z3 n) w (fun r w' => ∃ hb pv,r = .tuple (Z1 hb)/\fP (fN []) w w' (fN [blk hb 385 [(Zb hb),(Za n),Zh,pv],cL gC.cells Zh 250 2 ([]),cL iT pv 399 1 (List.replicate ((n+63) / 64) none),gO fL 401 64 (List.replicate ((n+63) / 64) none) (List.replicate (64*((n+63) / 64)) 0)])):=by
 refine iE func220 10 fun A=>?_
 refine gz rfl (kT o_) (cH A 2 ?_)
 refine gz rfl (ow o_) (cH A 10 ?_)
 refine gL (e:=((n+64:Nat):Int)) rfl iX (gL (e:=((n+63:Nat):Int)) rfl iX (quo (a:=((n+63:Nat):Int)) (b:=64) (e:=(((n+63) / 64:Nat):Int)) rfl rfl rfl d_ (xF 64 o_) (kA (cf:=iT) (z0:=none) (m:=((n+63) / 64)) (c:=((n+63) / 64)) rfl rfl rfl AE HC rfl f_ d_ (zh _) o_ o_ A (fun d s t u j=>iL (pvs:=[(1,(Za n)),(3,(Zf d ((n+63) / 64)))]) (v:=.agg #[Zq,(Za n),Zh,(Zf d ((n+63) / 64))]) rfl rfl (i6 [(1,(Zd n)),(3,(p6 d ((n+63) / 64)))] HB S0 rfl oh rfl) (gN j (fun f x y z k=>?_))))))
 refine gh k 14 fun g l=>?_
 have o:=mR (cf:=iT) l (i:=1) rfl f_ (zh _) (by simp only[maxLen];omega)
 have p:St _ [gO fL 401 64 (List.replicate ((n+63) / 64) none) (List.replicate (64*((n+63) / 64)) 0),blk f 385 (VI f n d ((n+63) / 64)),cL iT (Zf d ((n+63) / 64)) 399 1 (List.replicate ((n+63) / 64) none)] g:=St.FP o ((n+63) / 64)
 have h:=nU p 250 2
 refine jk h 6 (Zb f) Zc ?_
 have q:=ye [2,0,3,1] h
 exact⟨f,(Zf d ((n+63) / 64)),rfl,me (yd [_,_,_,_] [] q)⟩
theorem ZQ(hO:Own (Zj hb n iv bv dQ ps pl) w)(hS:Hp n dQ pl)(hP:jN n ps pl) :
 CR ya 208 (Zg hb) w (fun r w' => ∃ ag ai aj F,r = .pointer (some ⟨ag,0,none⟩)/\jN n F pl/\F.length=ps.length/\fP (Zj hb n iv bv dQ ps pl) w w' (fN [blk hb 385 (sI hb n iv bv),cL gC.cells iv 250 2 dQ,cL iT bv 399 1 ps,gO fL 401 64 ps pl,blk ag 385 (sI ag n ai aj),cL gC.cells ai 250 2 dQ,cL iT aj 399 1 F,gO fL 401 64 F pl])):=by
 have an:=hP.n
 have am:=hS.len
 have ao:=hP.len
 have ap:=hP.room
 have aq:=hP.top
 refine enter (vs:=(Ze hb)) func208 rfl ntmps208 rfl ?_
 have ah:=(yy hO).unpack
 have t:=yd [_,_,_,_] _ ah
 refine fM ah 9 ?_
 refine jG (vl:=(Ze hb)) rfl rfl eN (BS hb n iv bv ps dQ pl w (yg t 0 rfl)) ?_
 rintro _ O ⟨rfl,ht⟩
 have u:=(mB (R' := (Zj hb n iv bv dQ ps pl)) 0 t rfl ht rfl).unpack
 refine fZ u 7 ?_
 refine xI mixed [0,1,2,3,4,5,6,7,9,10,11,12,13] [8,14] [(8,[3,12,13]),(14,[3,7])] [15,16,17] u (fun P l=>xY ?_)
 refine cH l 12 ?_
 refine iA (m:=ps.length) 2 rfl rfl AE l rfl (fK l 1 ?_)
 refine nF trivial (xW [⟨8,18,[],[],Value,fun e=>e,fun e=>[cL gC.cells e 250 2 dQ]⟩,⟨14,24,[],[],Nat,fun d=>(Zf d ps.length),fun d=>[blk d 399 ((List.replicate ps.length none).flatMap iT)]⟩] l ⟨mT (fun Z wq hM _=>jG (vl:=[iv]) rfl rfl eN (Xo iv dQ wq (yv hM 1 rfl).any (by first|omega|(simp;omega))) (fun B _ hz=>have hK:=(tB hM hz.2 hz.1);nh ⟨B,rfl,hK,trivial⟩ (hc:=ku rfl oF (ku rfl oF (ku rfl (mZ (RA (m:=ps.length) 3 rfl AE hK rfl) rfl rfl) (trivial)))))),mT (fun Z wq hM _=>kA (cf:=iT) (z0:=none) (m:=ps.length) (c:=ps.length) rfl rfl rfl AE HC rfl f_ d_ (zh _) o_ o_ hM (fun C _ _ _ h=>have hK:=h;nh ⟨C,rfl,hK,trivial⟩))⟩ ?_)
 rintro e d Q x
 refine iL (pvs:=[(1,(Za n)),(2,e),(3,(Zf d ps.length))]) (v:=.agg #[Zq,(Za n),e,(Zf d ps.length)]) rfl rfl (i6 [(1,(Zd n)),(2,[e]),(3,(p6 d ps.length))] HB S0 rfl ⟨rfl,rfl,rfl,(cells_one (yh x (i:=1) rfl)),rfl,rfl,trivial⟩ rfl) (gN x (fun g R S U D=>?_))
 refine gh D 15 fun E G=>?_
 have H:=mR (cf:=iT) G (i:=1) rfl f_ (zh _) (by simp only[maxLen];omega)
 have I:St _ [gO fL 401 64 (List.replicate ps.length none) pl,blk g 385 (Jg g n e d ps.length),cL iT (Zf d ps.length) 399 1 (List.replicate ps.length none),cL gC.cells e 250 2 dQ,blk hb 385 (sI hb n iv bv),cL gC.cells iv 250 2 dQ,cL iT bv 399 1 ps,gO fL 401 64 ps pl] E:=St.FP H ps.length
 have p:=ye [4,5,6,7,1,3,2,0] I
 refine cH p 4 ?_
 refine iA (m:=ps.length) 2 rfl rfl AE p rfl (fZ p 4 ?_)
 refine lp (α:=Nat×List (Option Nat)) (fun(k,F)=>[(3,(Zb g)),(34,bv),(35,(Za ps.length)),(36,(Za k))]) (fun(k,F) w1=>St [(w,(Zj hb n iv bv dQ ps pl).gq)] (NS hb n iv bv dQ ps pl g e d ps.length F) w1/\k<=ps.length/\rC ps F k) (fun(k,F)=>ps.length-k) (0,(List.replicate ps.length none)) oh (⟨p,o_,rC.start ps⟩) ?_
 rintro⟨k,F⟩ V W ⟨T,ak,hC⟩
 have al:=hP.len
 have ar:=hC.len
 refine fM T 2 ?_
 by_cases X:(k:Int)<(ps.length:Int)
 . have hk:k<ps.length:=by omega
   obtain⟨J,j⟩:∃ q,(cE ps k)=q:=⟨_,rfl⟩
   refine cH T 21 ?_
   rcases J with _|y
   . skip
     refine lF (a:=(cE ps k).map fun b=>⟨b,0,none⟩) (c:=false) rfl rfl rfl AG (by rw[j];rfl) (fK T 10 ?_)
     exact gM ((k+1),F) oh (⟨T,o_,hC.skip ((fW hk).trans (congrArg some j))⟩) o1
   . skip
     refine lF (a:=(cE ps k).map fun b=>⟨b,0,none⟩) (c:=true) rfl rfl rfl AG (by rw[j];rfl) (cH T 6 ?_)
     refine xB (a:=⟨y,0,none⟩) rfl (B9 j) ?_
     have af:(((pl.drop (64*k)).take 64).flatMap fL).length=64:=PM (cf:=fL) (sz:=1) f_ hP.len hk
     refine uT (b:=y) (o:=0) (cs:=(((pl.drop (64*k)).take 64).flatMap fL)) rfl rfl HU rfl MO af (St.PF T (i:=3) rfl ((fW hk).trans (congrArg some j))) (ir T (fun s Y aa ab K=>?_))
     refine Hr (v:=.agg (((pl.drop (64*k)).take 64).flatMap fL).toArray) (vs:=(((pl.drop (64*k)).take 64).flatMap fL)) (L' := [blk s 401 (((pl.drop (64*k)).take 64).flatMap fL),blk hb 385 (sI hb n iv bv),cL gC.cells iv 250 2 dQ,cL iT bv 399 1 ps,gO fL 401 64 ps pl,blk g 385 (Jg g n e d ps.length),cL gC.cells e 250 2 dQ,cL iT (Zf d ps.length) 399 1 F,gO fL 401 64 F pl]) 0 rfl rfl rfl rfl MO af (zr.2 (xd f_ _)) K rfl (by rw[af];decide) (TH (by rw[af];rfl)) rfl (fun ac z ad=>cH z 9 ?_)
     refine iz (f:=(fun _=>(some s))) 7 z (fun ae A=>?_) (v:=(Zf d ps.length)) (k:=k) (off:=0) (sz:=1)
     refine fK A 7 ?_
     have L:=ye [0,8,1,2,3,4,5,6,7] A
     have M:=St.PG L (hC.next hk) rfl
     have N:=ye [1,2,3,4,5,6,7,0] M
     exact gM ((k+1),cO F k (fun _=>(some s))) oh (⟨N,o_,hC.set hk⟩) o1
 . refine gm T 17 (Zb g) ?_
   exact⟨g,e,(Zf d ps.length),F,rfl,hP.copy hC o_,hC.len,yj (R' := (fN (NS hb n iv bv dQ ps pl g e d ps.length F))) (yd [_,_,_,_,_,_,_,_] _ T) za⟩
theorem wY(d cl:Int)(ps:List (Option Nat))(sl:List gW)(w:World)(e:Own (E0 n iv x y d cl ps sl) w) :
 CQ ya 149 (Zg n) w (.bool true) (E0 n iv x y d cl ps sl):=by
 refine ja func149 e 8 fun b=>?_
 refine lF (a:=some ⟨n,0,none⟩) (c:=true) rfl rfl rfl underlying170 rfl (cH b 6 ?_)
 refine w6 (a:=⟨n,0,none⟩) rfl rfl rfl underlying170 Hz (fK b 5 ?_)
 refine gT (v:=Zi) results149 rfl ?_
 exact⟨rfl,yk b⟩
theorem Bv(d cl:Int)(ps:List (Option Nat))(sl:List gW)(w:World)(f:Own (E0 n iv x y d cl ps sl) w)(i:Nat)(hi:i<=1000000)(b:Nat)(hb:ps[i / 64]? = some (some b)) :
 CQ ya 200 (Zk n i) w (.pointer (some ⟨b,i%64*3+0,none⟩)) (E0 n iv x y d cl ps sl):=by
 have g:i / 64<ps.length:=(zp.1 hb).1
 refine ja func200 f 12 fun c=>?_
 refine quo (a:=(i:Int)) (b:=64) (e:=((i / 64:Nat):Int)) rfl rfl rfl d_ (xF 64 o_) (cH c 3 ?_)
 refine rem (a:=(i:Int)) (b:=64) (e:=((i%64:Nat):Int)) rfl rfl rfl d_ (DY 64) (xB rfl (B9 (iW hb)) (ia (o:=0) (o' := i%64*3+0) (i:=((i%64:Nat):Int)) rfl rfl rfl underlying395 UC o_ (by simp only[nX];omega) (fK c 4 ?_)))
 refine gT (v:=(.pointer (some ⟨b,i%64*3+0,none⟩))) results200 rfl ?_
 exact⟨rfl,yk c⟩
theorem O5(ab:Nat)(iv:Value)(A:As)(w:World)(h:Own (Zt ab iv A) w)(f:A.ok)(i:Nat)(hi:i<=1000000) :
 CQ ya 150 (Zk ab i) w (.int .i64 (if i<A.begun then(cE A.sl i).st else 0)) (Zt ab iv A):=by
 refine ja func150 h 13 fun c=>?_
 by_cases d:(i:Int)≥(A.begun:Int)
 . refine gm c 11 Zc ?_
   exact⟨js (by rw[if_neg o_]),yk c⟩
 . have g:i<A.begun:=by omega
   have j:=(f.room g).1
   obtain⟨b,hb⟩:=f.at g
   refine cH c 10 ?_
   refine gy (Bv ab iv (A.n:Int) (A.begun:Int) (A.used:Int) A.last A.ps A.sl w · i o_ b hb) c fun e a=>cH a 1 ?_
   refine fa (o' := i%64*3+0) rfl rfl qp rfl fU (by simp only[lW];rfl) (ld rfl rfl yf rfl (CC a (i:=2) rfl f_ d_ j hb rfl) (fK a 4 ?_))
   refine gT (v:=(Za ((cE A.sl i).st))) results150 rfl ?_
   exact⟨js (by rw[if_pos o_]),yk a⟩
theorem VZ(ab:Nat)(iv:Value)(A:As)(w:World)(d:Own (Zt ab iv A) w)(e:A.ok) :
 CQ ya 104 (Zg ab) w (.int .i64 (A.used:Int)) (Zt ab iv A):=by
 refine gj func104 ?_
 have a:=(yy d).unpack
 refine fM a 9 ?_
 refine gy (wY ab iv (A.n:Int) (A.begun:Int) (A.used:Int) A.last A.ps A.sl w ·) a fun c b=>?_
 refine gm b 16 (Za A.used) ?_
 exact⟨rfl,yk b⟩
theorem V7(ab:Nat)(iv:Value)(A:As)(w:World)(d:Own (Zt ab iv A) w)(f:A.ok)(i:Nat)(e:A.last=(i:Int)) :
 CQ ya 281 (Zg ab) w (.tuple (Bi i)) (Zt ab iv A):=by
 refine gj func281 ?_
 have b:=(yy d).unpack
 refine fM b 11 ?_
 refine gy (wY ab iv (A.n:Int) (A.begun:Int) (A.used:Int) A.last A.ps A.sl w ·) b fun c a=>cH a 11 ?_
 refine gz rfl (Jz o_) (fK a 17 ?_)
 refine kC (v:=(Za A.last)) (v' := Zi) results281 rfl rfl ?_
 exact⟨by rw[e],yk a⟩
theorem V8(ab:Nat)(iv:Value)(A:As)(w:World)(f:Own (Zt ab iv A) w)(g:A.ok)(h:A.last = -1)(hb:A.begun<A.n) :
 CQ ya 281 (Zg ab) w (.tuple (Bi A.begun)) (Zt ab iv A):=by
 refine gj func281 ?_
 have a:=(yy f).unpack
 refine fM a 11 ?_
 refine gy (wY ab iv (A.n:Int) (A.begun:Int) (A.used:Int) A.last A.ps A.sl w ·) a fun d b=>cH b 11 ?_
 refine gz rfl (q7 o_) (gh b 14 fun e c=>?_)
 refine gz rfl (pL o_) (fK c 17 ?_)
 refine kC (v:=(Za A.begun)) (v' := Zi) results281 rfl rfl ?_
 exact⟨rfl,yk c⟩
end Go.Proofs.YtedjjkcihkmjgaaGreatDoor
