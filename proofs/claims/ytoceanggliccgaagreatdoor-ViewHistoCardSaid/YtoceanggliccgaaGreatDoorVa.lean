/- What the functions that the statements reach do: walks through the code of the program and of the references, one theorem a function; under what is said of its arguments. -/
import Derived.Test.YtoceanggliccgaaGreatDoorFa
import Derived.Test.YtoceanggliccgaaGreatDoorFb
import Derived.Test.YtoceanggliccgaaGreatDoorFc
import Derived.Test.YtoceanggliccgaaGreatDoorFd
import Derived.Test.YtoceanggliccgaaGreatDoorProg
import Derived.KernelRfl
set_option linter.unusedVariables false
set_option linter.unusedSimpArgs false
set_option maxRecDepth 100000
set_option maxHeartbeats 4000000
namespace Go.Proofs.YtoceanggliccgaaGreatDoor
section
open Go Go.Sx
noncomputable abbrev ya:=@Tryz.prog
abbrev yc:=@St.pack
abbrev yd:=@Tryz.underlying35
abbrev ye:=@Tryz.underlying3
abbrev yf:=@St.oR
abbrev yg:=@St.re
abbrev yh:=@Tryz.underlying347
abbrev yi:=@St.tu
abbrev yj:=@St.eT
abbrev yk:=@Tryz.underlying48
abbrev ym:=@Tryz.underlying40
abbrev yn:=@St.tn
abbrev yo:=@St.grow
abbrev yp:=@St.Er
abbrev yq:=@Tryz.underlying143
abbrev yr:=@St.pL
abbrev yt:=@St.I6
abbrev yu:=@St.init
abbrev yv:=@St.reR
abbrev yw:=@St.adq
abbrev yx:=@St.CU
abbrev yy:=@Tryz.underlying167
abbrev yz:=@St.unpack
abbrev y0:=@St.rr
abbrev y8:=@St.Yj
abbrev y9:=@Tryz.underlying119
abbrev nM:=@Tryz.underlying344
abbrev mT:=@Tryz.underlying4
abbrev j9:=@St.Ki
abbrev nN:=@Tryz.underlying27
abbrev ow:=@Tryz.underlying305
abbrev jN:=@St.made
abbrev pM:=@Tryz.underlying28
abbrev lQ:=@St.HD
abbrev qm:=@Tryz.underlying329
abbrev pN:=@Tryz.underlying2
abbrev kX:=@St.adx
abbrev rP:=@Tryz.underlying230
abbrev mF:=@St.J6
abbrev qn:=@Tryz.results276
abbrev lR:=@St.UK
abbrev rQ:=@Tryz.underlying53
abbrev jO:=@St.un
abbrev lq:=@St.Ri
abbrev lu:=@St.perm
abbrev uU:=@Tryz.underlying343
abbrev qV:=@St.Uc
abbrev l9:=@St.Ld
abbrev tK:=@Tryz.results122
abbrev wD:=@Tryz.underlying224
abbrev wF:=@Tryz.underlying59
abbrev pO:=@St.D8
abbrev kP:=@St.bc
abbrev uS:=@Tryz.results226
abbrev uT:=@Tryz.results292
abbrev yI:=@Tryz.underlying161
abbrev yJ:=@Tryz.underlying210
abbrev yK:=@Tryz.underlying264
abbrev yL:=@Tryz.underlying361
abbrev Bo:=@Tryz.underlying116
abbrev Bp:=@Tryz.underlying153
abbrev Bq:=@Tryz.underlying267
abbrev Bt:=@Tryz.underlying273
abbrev Bu:=@Tryz.underlying370
abbrev pP:=@St.fact
abbrev yN:=@Tryz.results130
abbrev Bv:=@Tryz.underlying57
abbrev Bw:=@Tryz.underlying99
abbrev tL:=@St.N7
abbrev nO:=@St.eM
abbrev uV:=@St.xZ
abbrev De:=@Tryz.underlying322
abbrev Df:=@Tryz.underlying346
abbrev Dg:=@Tryz.underlying363
abbrev Dh:=@Tryz.underlying23
abbrev Bx:=@Tryz.results90
abbrev tM:=@St.aac
abbrev wG:=@St.ads
abbrev Di:=@Tryz.results291
abbrev By:=@St.V1
abbrev Gh:=@Tryz.underlying109
abbrev Gi:=@Tryz.underlying113
abbrev Gj:=@Tryz.underlying172
abbrev Gk:=@Tryz.underlying229
abbrev yO:=@St.Yn
abbrev Gl:=@Tryz.underlying38
abbrev Gm:=@Tryz.underlying42
abbrev Gn:=@Tryz.underlying69
abbrev F8:=@Tryz.underlying81
abbrev F9:=@Tryz.underlying87
abbrev Ga:=@Tryz.underlying91
abbrev yM:=@St.Ym
abbrev Br:=@St.UX
abbrev Gb:=@Tryz.results271
abbrev Gc:=@Tryz.results281
abbrev Gd:=@Tryz.results289
abbrev Gf:=@Tryz.results300
abbrev Gg:=@Tryz.results65
abbrev Gq:=@Tryz.results67
theorem k_{p:Prop}(h:p:=by kernel_rfl):p:=h
theorem f_{p:Prop}(h:p:=by exact fun _=>rfl):p:=h
abbrev p_:Value×List Nat->Value:=Prod.fst
end
section
open Go Go.Sx
abbrev Zf:=(.bool true:Value)
abbrev Zp:=(.bool false:Value)
abbrev Zc:=(.int .i64 0:Value)
abbrev pX:=(.int .i64 1:Value)
abbrev rm:=(.int .i64 4:Value)
abbrev zM:=(.int .i64 6:Value)
abbrev xd:=(.int .i64 9:Value)
abbrev sU:=(.int .u64 0:Value)
abbrev vm:=(.int .u64 1:Value)
abbrev zN:=(.int .u64 2:Value)
abbrev vo:=(.int .u64 3:Value)
abbrev w6:=(.int .i64 10:Value)
abbrev BS:=([.int .u64 0]:List Value)
abbrev Za(a:Int):=(.int .i64 a:Value)
abbrev Zn(a:Int):=(.int .u64 a:Value)
abbrev Zt:=(.pointer none:Value)
abbrev Zw:=(.int .i64 (-1):Value)
abbrev Ze(a:Int):=([.int .i64 a]:List Value)
abbrev Zq(a:Int):=([.int .u64 a]:List Value)
abbrev Zg:=(.slice none 0 0:Value)
abbrev Z8(a:Int):=(#[.int .i64 a]:Array Value)
abbrev wW(a:Int):=(#[.int .u64 a]:Array Value)
abbrev ng:=([.slice none 0 0]:List Value)
abbrev ri a b:=(fL fS a 3 1 b:fT)
abbrev o7 a b:=(fL fV a 3 1 b:fT)
abbrev rj a b:=(fL gV a 40 1 b:fT)
abbrev vg:=([.int .i64 0,.int .i64 0]:List Value)
abbrev xe:=([.int .u64 0,.int .i64 0]:List Value)
abbrev BU a b:=(fL Ge.cells a 91 3 b:fT)
abbrev D0 a:=IntKind.i64.wrap (a+1)
abbrev GU:=(#[.int .i64 0,.bool false]:Array Value)
abbrev pY(a:Int)(b:Bool):=(#[.int .i64 a,.bool b]:Array Value)
abbrev GX:=(#[.int .u64 0,.int .i64 0]:Array Value)
abbrev GY:=(#[.int .u64 1,.int .u64 3]:Array Value)
abbrev BN(a:Int):=(#[.bool true,.int .u64 a]:Array Value)
abbrev DS(a:Int):=(#[.int .i64 a,.bool true]:Array Value)
abbrev BV a b:=(fL iU.cells a 143 2 b:fT)
abbrev vk(a:Int):=(#[.int .i64 a,.int .i64 0]:Array Value)
abbrev wV a (b:List Nat):=List.range (a+b.length)
abbrev Zo(a b:Int):=([.int .i64 a,.int .i64 b]:List Value)
abbrev wY(a b:Int):=([.int .u64 a,.int .i64 b]:List Value)
abbrev Zb(a:Nat):=(.pointer (some ⟨a,0,none⟩):Value)
abbrev D4(a:Nat):=(.pointer (some ⟨a,3,none⟩):Value)
abbrev Zx(a b:Int):=(#[.int .i64 a,.int .i64 b]:Array Value)
abbrev ve(a b:Int):=(#[.int .u64 a,.int .u64 b]:Array Value)
abbrev Zh(a:Nat):=([.pointer (some ⟨a,0,none⟩)]:List Value)
abbrev Hf(a:GW):=IntKind.i64.wrap (a.trees+1)
abbrev Hg(a:GW):=IntKind.i64.wrap (a.trees-1)
abbrev Hj:=(.agg #[.int .i64 0,.int .i64 0]:Value)
abbrev Z3(a:Nat):=(.slice (some ⟨a,0,none⟩) 1 1:Value)
abbrev uf(a:Nat):=(.slice (some ⟨a,0,none⟩) 2 2:Value)
abbrev Z1(a:Nat):=(.slice (some ⟨a,0,none⟩) 3 3:Value)
abbrev LW(a:Nat):=(.slice (some ⟨a,0,none⟩) 4 4:Value)
abbrev Zi(a:Nat):=(#[.pointer (some ⟨a,0,none⟩)]:Array Value)
abbrev pe(a:fW) b:=gi a.im ((fJ a.live b).u)
abbrev ug(a:fW) b:=iZ a.im ((fJ a.live b).u)
abbrev zO(a b:Nat):=(.slice (some ⟨a,0,none⟩) 0 b:Value)
abbrev BW(a b:Int):=(.agg (Zx a b):Value)
abbrev Ho(a b:Int):=(.agg (ve a b):Value)
abbrev Zd(a b:Nat):=(.slice (some ⟨a,0,none⟩) b b:Value)
abbrev GZ(a:Nat) b:=(#[.pointer (some ⟨a,0,none⟩),b]:Array Value)
abbrev DT a (b:Nat):=(#[a,.pointer (some ⟨b,0,none⟩)]:Array Value)
abbrev DY(a b:Int):=([.agg (Zx a b)]:List Value)
abbrev o5(a b:Nat):=([.slice (some ⟨a,0,none⟩) b b]:List Value)
abbrev Zr(a:Int) b c d e f:=([.int .i64 a,b,c,d,e,f]:List Value)
abbrev Zv(a:Nat)(b c:Int):=(blk a 221 (Zo b c):fT)
abbrev M4(a:gF):=(.agg #[.int .i64 a.ix,.int .i64 a.key]:Value)
abbrev Zy(a:Nat):=(#[.pointer (some ⟨a,0,none⟩),.int .i64 0]:Array Value)
abbrev zK(a:Int) b c d e f:=(.agg #[.int .i64 a,b,c,d,e,f]:Value)
abbrev xg(a:Int)(b:Nat):=([.int .i64 a,.pointer (some ⟨b,0,none⟩)]:List Value)
abbrev sR(a:Nat)(b:Int):=([.pointer (some ⟨a,0,none⟩),.int .i64 b]:List Value)
abbrev BK:=(#[.agg #[.int .i64 0,.int .i64 0],.bool false]:Array Value)
abbrev BO(a:Int)(b:Nat):=(#[.int .i64 a,.pointer (some ⟨b,0,none⟩)]:Array Value)
abbrev Zm(a:Nat)(b:Int):=(#[.pointer (some ⟨a,0,none⟩),.int .i64 b]:Array Value)
abbrev Z4(a:Nat)(b:Int):=(#[.pointer (some ⟨a,0,none⟩),.int .u64 b]:Array Value)
abbrev DZ(a:Int) b c d e f:=([.agg #[.int .i64 a,b,c,d,e,f]]:List Value)
abbrev BM(a:Int) b c d e f:=(#[.agg #[.int .i64 a,b,c,d,e,f]]:Array Value)
abbrev Ml a (b c:Int):=(#[a,.int .i64 0,.int .i64 b,.int .i64 c]:Array Value)
abbrev uc(a:WW)(b:Int):=(blk a.cb 221 (Zo b a.now):fT)
abbrev BL(a b:Int):=(#[.agg (Zx a b),.bool true]:Array Value)
abbrev MT:=([.int .i64 0,.int .i64 0,.int .i64 0,.int .i64 0]:List Value)
abbrev DR a b (c:List Ge):=(⟨(fJ a b),((fJ c (fJ a b)).u)⟩:jD)
abbrev sS a b (c:List Ge):=(⟨(fJ a b),((fJ c (fJ a b)).v)⟩:jD)
abbrev M0 a b:=fJ (iF a b (jt a b)) (jt a b)
abbrev ME a b:=(gM a .u64 p_ b:fT)
abbrev Hv(a:Nat):=(.func (.func 138) #[] (Zi a):Value)
abbrev M6(a:Nat):=(.func (.func 275) (Zi a) #[]:Value)
abbrev M7(a:Nat):=(.func (.func 276) (Zi a) #[]:Value)
abbrev L4 a (b c:Nat):=([a,.slice (some ⟨b,0,none⟩) c c,.int .i64 0]:List Value)
abbrev pg(a:Nat)(b:Int) c d:=([.pointer (some ⟨a,0,none⟩),.int .i64 b,c,d]:List Value)
abbrev Mh(a:Nat):=(#[.func (.func 138) #[] (Zi a)]:Array Value)
abbrev M8(a b:Int):=(.tuple #[.agg (Zx a b),.int .i64 0]:Value)
abbrev G7(a b c d:Int):=([.int .i64 a,.int .i64 b,.int .i64 c,.int .i64 d]:List Value)
abbrev zS(a:Nat)(b c:Int):=([.pointer (some ⟨a,0,none⟩),.int .i64 b,.int .i64 c]:List Value)
abbrev Ht a (b c:Nat):=(.agg #[a,.slice (some ⟨b,0,none⟩) c c,.int .i64 0]:Value)
abbrev Zu(a:Nat)(b c:Int):=(#[.pointer (some ⟨a,0,none⟩),.int .i64 b,.int .i64 c]:Array Value)
abbrev oD(a:fW) b:=gi (ug a b) ((fJ a.live b).v)
abbrev zP(a:Int) b c d e f (g:Int):=(#[.agg #[.int .i64 a,b,c,d,e,f],.int .i64 g]:Array Value)
abbrev Z5(a b:Nat):=([.pointer (some ⟨a,0,none⟩),.pointer (some ⟨b,0,none⟩)]:List Value)
abbrev zJ(a:fW) b:=iZ (ug a b) ((fJ a.live b).v)
abbrev Ab(a b:Nat):=(#[.pointer (some ⟨a,0,none⟩),.pointer (some ⟨b,0,none⟩)]:Array Value)
abbrev GP(a b:Nat):=(gj [blk a 116 ng,blk b 48 ng]:fT)
abbrev D2(a b c d:Int):=(.agg #[.int .i64 a,.int .i64 b,.int .i64 c,.int .i64 d]:Value)
abbrev Me(a b c d:Int):=(#[.agg #[.int .i64 a,.int .i64 b,.int .i64 c,.int .i64 d]]:Array Value)
abbrev Zz(a:Lv):=([.int .u64 a.u,.int .u64 a.v,.int .i64 a.wt,.int .i64 a.t]:List Value)
abbrev Mm a (b c:Nat):=(#[a,.pointer (some ⟨b,0,none⟩),.pointer (some ⟨c,0,none⟩)]:Array Value)
abbrev B0(a b c d:Int):=([.int .i64 a,.int .i64 b,.int .i64 c,.int .i64 1,.int .i64 d]:List Value)
abbrev MY(a:Int) b (c d:Nat):=([.pointer none,.int .i64 a,b,.slice (some ⟨c,0,none⟩) d d]:List Value)
abbrev Mi(a b c d:Int):=(#[.int .i64 a,.int .i64 b,.int .i64 c,.int .i64 1,.int .i64 d]:Array Value)
abbrev D3(a:Lv):=(.agg #[.int .u64 a.u,.int .u64 a.v,.int .i64 a.wt,.int .i64 a.t]:Value)
abbrev BP a (b c d:Nat) (e:Int):=([a,blk b 161 (Zh c),blk d 3 (Ze e)]:List fT)
abbrev Hq(a:Int) b (c d:Nat):=(.agg #[.pointer none,.int .i64 a,b,.slice (some ⟨c,0,none⟩) d d]:Value)
abbrev Mj(a:Int)(b c:Nat):=(#[.int .i64 a,.pointer (some ⟨b,0,none⟩),.pointer (some ⟨c,0,none⟩)]:Array Value)
abbrev oE(a b:Nat)(c:TW):=([.pointer (some ⟨a,0,none⟩),.pointer (some ⟨b,0,none⟩),c.iv,c.cv]:List Value)
abbrev vq(a b c:Nat)(d:Int):=([.pointer (some ⟨a,0,none⟩),.slice (some ⟨b,0,none⟩) c c,.int .i64 d]:List Value)
abbrev DN a (b:Nat) (c:Int) d e f g h i:=(gj [a,blk b 83 (Zr c d e f g h),fL fS f 3 1 i]:fT)
abbrev M5(a b:Nat):=(.func (.func 152) #[] (Ab a b):Value)
abbrev Hw(a:Nat)(b:Int) c (d e:Nat):=([.pointer (some ⟨a,0,none⟩),.int .i64 b,c,.slice (some ⟨d,0,none⟩) e e]:List Value)
abbrev nh:=([.int .i64 0,.int .u64 0,.int .u64 0,.int .u64 0,.int .i64 0,.int .i64 0,.int .i64 0]:List Value)
abbrev GV:=(#[.int .i64 0,.int .u64 0,.int .u64 0,.int .u64 0,.int .i64 0,.int .i64 0,.int .i64 0]:Array Value)
abbrev uh(a:fW) b c d:=gD a.im ((fJ a.live b).u) (c,(pe a b).2.eraseIdx d)
abbrev zT(a b c:Nat):=([.pointer (some ⟨a,0,none⟩),.pointer (some ⟨b,0,none⟩),.pointer (some ⟨c,0,none⟩)]:List Value)
abbrev LY a (b c d e:Nat):=([.pointer none,a,.slice (some ⟨b,0,none⟩) c c,.slice (some ⟨d,0,none⟩) e e]:List Value)
abbrev Mk(a b c:Nat):=(#[.pointer (some ⟨a,0,none⟩),.pointer (some ⟨b,0,none⟩),.pointer (some ⟨c,0,none⟩)]:Array Value)
abbrev zZ(a b c:Nat)(d:Int):=(blk a 349 (vq a b c d):fT)
abbrev ue:=([.int .i64 0,.slice none 0 0,.slice none 0 0,.slice none 0 0,.slice none 0 0,.slice none 0 0]:List Value)
abbrev DQ(a:GW) b:=(⟨((gi a.m (b:Int)).a),((gi a.m (b:Int)).b),(gi a.m (b:Int)).exp,true⟩:Ed)
abbrev DP(a:GW) b:=(⟨((gi a.m (b:Int)).a),((gi a.m (b:Int)).b),(gi a.m (b:Int)).exp,false⟩:Ed)
abbrev MV(a:Nat)(b:Int)(c d:Nat):=([.pointer (some ⟨a,0,none⟩),.int .i64 b,.slice none 0 0,.slice (some ⟨c,0,none⟩) d d]:List Value)
abbrev Hs a (b c d e:Nat):=(.agg #[.pointer none,a,.slice (some ⟨b,0,none⟩) c c,.slice (some ⟨d,0,none⟩) e e]:Value)
abbrev vp(a:Nat) b (c:As) (d:Int):=([.pointer (some ⟨a,0,none⟩),b,.int .i64 c.n,.int .i64 d,.int .i64 c.used,.int .i64 c.last]:List Value)
abbrev B2 a (b:Int) c d e f g (h i:Nat):=([a,.int .i64 b,c,d,e,f,g,.pointer (some ⟨h,0,none⟩),.pointer (some ⟨i,0,none⟩)]:List Value)
abbrev wX(a:Nat)(b:Lv):=(#[.pointer (some ⟨a,0,none⟩),.agg #[.int .u64 b.u,.int .u64 b.v,.int .i64 b.wt,.int .i64 b.t]]:Array Value)
abbrev G8(a:Nat) b (c:As) (d:Int):=([.pointer (some ⟨a,0,none⟩),b,.int .i64 c.n,.int .i64 c.begun,.int .i64 c.used,.int .i64 d]:List Value)
abbrev G2 a b c d e (f:Nat) (g:Int) h i j k l:=([a,fL Mg.cells b 178 5 c,fL fV d 3 1 e,blk f 83 (Zr g h i j k l)]:List fT)
abbrev Z7(a:Nat) b (c:As):=([.pointer (some ⟨a,0,none⟩),b,.int .i64 c.n,.int .i64 c.begun,.int .i64 c.used,.int .i64 c.last]:List Value)
abbrev qz(a b:Int)(c:Lv):=([.int .i64 a,.int .u64 b,.int .u64 c.u,.int .u64 c.v,.int .i64 c.wt,.int .i64 c.t,.int .i64 c.exp]:List Value)
abbrev M1(a b:Int)(c:Lv)(d:Int):=(.agg #[.int .i64 a,.int .u64 b,.int .u64 c.u,.int .u64 c.v,.int .i64 c.wt,.int .i64 c.t,.int .i64 d]:Value)
abbrev o8(a:fW) b c d:=gi (uh a b c d) ((fJ a.live b).v)
abbrev Hh(a:fW) b c d:=iZ (uh a b c d) ((fJ a.live b).v)
abbrev D6(a b c:Int)(d e:Nat) f g:=([.int .i64 a,.int .i64 b,.int .u64 c,.pointer (some ⟨d,0,none⟩),.pointer (some ⟨e,0,none⟩),f,.map g]:List Value)
abbrev Hl(a b:Int)(c:Lv):=(.agg #[.int .i64 a,.int .u64 b,.int .u64 c.u,.int .u64 c.v,.int .i64 c.wt,.int .i64 c.t,.int .i64 c.exp]:Value)
abbrev BT a (b:mJ) c d e f:=(gj [fL fS a 3 1 b.l,fL fS c 3 1 b.r,fL fS d 3 1 b.p,fL fS e 2 1 b.h,fL fV f 3 1 b.s]:fT)
abbrev Z9(a:Lv):=([.int .i64 a.slot,.int .u64 a.seq,.int .u64 a.u,.int .u64 a.v,.int .i64 a.wt,.int .i64 a.t,.int .i64 a.exp]:List Value)
abbrev MX(a:Nat)(b:As):=([.pointer (some ⟨a,0,none⟩),.slice none 0 0,.int .i64 b.n,.int .i64 b.begun,.int .i64 b.used,.int .i64 b.last]:List Value)
abbrev MN(a:Nat) b c d e f g h i j:=([ic .i64 (Z3 a) 3 b,fL fV c 3 1 d,e,f,fL fV g 3 1 h,fL fV i 3 1 j]:List fT)
abbrev MW(a b c d:Nat):=([.pointer (some ⟨a,0,none⟩),.pointer (some ⟨b,0,none⟩),.pointer (some ⟨c,0,none⟩),.pointer (some ⟨d,0,none⟩)]:List Value)
abbrev G1 a (b:Nat) (c:Int) (d:Nat) (e:Bool) (f g h:Nat) (i:Int):=([a,blk b 3 (Ze c),blk d 4 [.bool e],blk f 166 (Zh g),blk h 40 (Zq i)]:List fT)
abbrev D7(a b c:Int)(d:fW) e f:=([.int .i64 a,.int .i64 b,.int .u64 c,.pointer (some ⟨d.jd,0,none⟩),.pointer (some ⟨d.tb,0,none⟩),e,.map f]:List Value)
abbrev zR(a b:Int)(c:GW) d:=([.int .i64 a,.int .i64 b,.pointer (some ⟨c.fb,0,none⟩),.pointer (some ⟨c.hb,0,none⟩),.map d,.int .i64 c.trees]:List Value)
abbrev G4(a:Nat) b c d e f g:=([blk a 95 [.pointer (some ⟨a,0,none⟩),b,c,d],fL Ge.cells b 91 3 e,fL fV c 3 1 f,fL fV d 3 1 g]:List fT)
abbrev Md(a b c:Nat)(d:List Nd):=([blk a 349 [.pointer (some ⟨a,0,none⟩),.slice (some ⟨b,0,none⟩) c c,.int .i64 0],blk b 352 (d.flatMap Nd.cells)]:List fT)
abbrev zL(a:Lv):=(.agg #[.int .i64 a.slot,.int .u64 a.seq,.int .u64 a.u,.int .u64 a.v,.int .i64 a.wt,.int .i64 a.t,.int .i64 a.exp]:Value)
abbrev MU(a b:Int)(c d:Nat) e:=([.int .i64 a,.int .i64 b,.int .u64 0,.pointer (some ⟨c,0,none⟩),.pointer (some ⟨d,0,none⟩),.slice none 0 0,.map e]:List Value)
abbrev B1(a b c:Int)(d:fW) e:=([.int .i64 a,.int .i64 b,.int .u64 c,.pointer (some ⟨d.jd,0,none⟩),.pointer (some ⟨d.tb,0,none⟩),d.lv,.map e]:List Value)
abbrev o4(a b:Int)(c:fW) d:=([.int .i64 a,.int .i64 b,.int .u64 c.last,.pointer (some ⟨c.jd,0,none⟩),.pointer (some ⟨c.tb,0,none⟩),c.lv,.map d]:List Value)
abbrev Zl(a b c:Nat)(d:Int)(e:List Nd):=(gj [blk a 349 (vq a b c d),blk b 352 (e.flatMap Nd.cells)]:fT)
abbrev BX(a b:Int)(c:Lv)(d:Int):=(.tuple #[.agg #[.int .i64 a,.int .u64 b,.int .u64 c.u,.int .u64 c.v,.int .i64 c.wt,.int .i64 c.t,.int .i64 d],.int .i64 0]:Value)
abbrev LX(a b c d:Nat):=([.pointer none,.slice (some ⟨a,0,none⟩) b b,.slice (some ⟨c,0,none⟩) b b,.slice (some ⟨d,0,none⟩) b b,.int .i64 b]:List Value)
abbrev He(a:Nat)(b:Int) c d e f g:=([blk a 346 (pg a b c d),fL gF.cells c 224 2 e,fL ij d 361 1 f,gJ fV 363 64 f g]:List fT)
abbrev Hr(a b c d:Nat):=(.agg #[.pointer none,.slice (some ⟨a,0,none⟩) b b,.slice (some ⟨c,0,none⟩) b b,.slice (some ⟨d,0,none⟩) b b,.int .i64 b]:Value)
abbrev DX a (b:Nat) (c:Int) d e f g h (i:Nat) (j:Int) (k:Nat) l m n:=([a,blk b 83 (Zr c d e f g h),blk i 2 (Ze j),blk k 35 [l],fL fV l 3 1 m,fL fS g 2 1 n]:List fT)
abbrev BZ(a b:Nat)(c:TW):=([blk a 261 (oE a b c),fL gV c.iv 40 1 c.ids,fL fV c.cv 3 1 c.cs]:List fT)
abbrev D1(a:fW) b c d:=gD (ug a b) ((fJ a.live b).v) (c,(oD a b).2.eraseIdx d)
abbrev DO(a b:Nat)(c:TW) d:=(gj [blk a 261 (oE a b c),fL gV c.iv 40 1 c.ids,fL fV c.cv 3 1 d]:fT)
abbrev Zk(a:Nat)(b:Int) c d e f g:=(gj (He a b c d e f g):fT)
abbrev Z0(a b:Nat)(c:TW):=(gj (BZ a b c):fT)
abbrev D5(a:Nat)(b:Ds) c:=([blk a 149 [.pointer (some ⟨a,0,none⟩),b.uv,b.lv,b.sv,.int .i64 b.cnt],fL fV b.uv 3 1 c,fL fV b.lv 3 1 b.le,fL fS b.sv 3 1 b.sz]:List fT)
abbrev zX(a:Nat) b (c d e f:Int) g h:=(gj [blk a 275 [.pointer (some ⟨a,0,none⟩),b,.int .i64 c,.int .i64 d,.int .i64 e,.int .i64 f],fL ij b 354 1 g,gJ gP.cells 357 64 g h]:fT)
abbrev BY(a:Nat)(b:Ds):=([blk a 149 [.pointer (some ⟨a,0,none⟩),b.uv,b.lv,b.sv,.int .i64 b.cnt],fL fV b.uv 3 1 b.up,fL fV b.lv 3 1 b.le,fL fS b.sv 3 1 b.sz]:List fT)
abbrev GQ(a:Nat)(b:Ds) c:=(gj (D5 a b c):fT)
abbrev Mb(a:Nat) b (c:As) (d:Int) e f:=([blk a 275 (vp a b c d),fL ij b 354 1 e,gJ gP.cells 357 64 e f]:List fT)
abbrev qA(a:Nat)(b:Ds):=(gj (BY a b):fT)
abbrev My(a:Nat) b (c d e:Int) (f:As):=(gj [blk a 275 [.pointer (some ⟨a,0,none⟩),b,.int .i64 c,.int .i64 d,.int .i64 e,.int .i64 f.last],fL ij b 354 1 f.ps,gJ gP.cells 357 64 f.ps f.sl]:fT)
abbrev zQ a (b c d e:Nat) (f:Int) (g:List Nd):=([a,blk b 226 (Zh c),blk c 349 (vq c d e f),blk d 352 (g.flatMap Nd.cells)]:List fT)
abbrev Ma(a:Nat) b (c:As) (d:Int):=([blk a 275 (vp a b c d),fL ij b 354 1 c.ps,gJ gP.cells 357 64 c.ps c.sl]:List fT)
abbrev MI(a:Nat)(b:Int):=([gJ gP.cells 357 64 ([]) ([]),fL ij Zg 354 1 ([]),blk a 275 [.pointer (some ⟨a,0,none⟩),.slice none 0 0,.int .i64 b,.int .i64 0,.int .i64 0,.int .i64 (-1)]]:List fT)
abbrev Aa(a:Nat) b (c:As):=([blk a 275 (Z7 a b c),fL ij b 354 1 c.ps,gJ gP.cells 357 64 c.ps c.sl]:List fT)
abbrev Zs(a:Nat) b (c:As):=(gj (Aa a b c):fT)
abbrev BR(a b:Nat):=([.func (.func 249) #[] (Zi a),.func (.func 251) #[] (Ab a b),.func (.func 253) #[] (Zi a)]:List Value)
abbrev T5(a:Int)(b c d e f g:Nat):=([.int .i64 a,.slice (some ⟨b,0,none⟩) c c,.slice (some ⟨d,0,none⟩) c c,.slice (some ⟨e,0,none⟩) c c,.slice (some ⟨f,0,none⟩) c c,.slice (some ⟨g,0,none⟩) c c]:List Value)
abbrev M9(a:Int)(b c d e f g:Nat):=(#[.int .i64 a,.slice (some ⟨b,0,none⟩) c c,.slice (some ⟨d,0,none⟩) c c,.slice (some ⟨e,0,none⟩) c c,.slice (some ⟨f,0,none⟩) c c,.slice (some ⟨g,0,none⟩) c c]:Array Value)
abbrev M3(a:Int)(b c d e f g:Nat):=(.agg (M9 a b c d e f g):Value)
abbrev L9(a:Nat) b (c:As) d e:=([blk a 275 (Z7 a b c),fL ij b 354 1 c.ps,gJ gP.cells 357 64 c.ps c.sl,ic .i64 d 3 e]:List fT)
abbrev DJ(a:Nat):=([.pointer (some ⟨a,0,none⟩),.bool false,.int .u64 0,.slice none 0 0,.int .i64 0,.slice none 0 0,.slice none 0 0,.slice none 0 0,.slice none 0 0,.slice none 0 0,.pointer none,.pointer none,.int .i64 0]:List Value)
abbrev L7(a b c d:Nat)(e:Int)(f:List Nd) g h (i:Nat):=([blk a 226 (Zh b),blk b 349 (vq b c d e),blk c 352 (f.flatMap Nd.cells),ic .i64 g 3 h,blk i 35 [g]]:List fT)
abbrev G9(a:Nat)(b:Int)(c d:Nat)(e:Int) f g h i j:=([blk a 3 (Ze b),blk c 229 (Zh d),blk d 346 (pg d e f g),fL gF.cells f 224 2 h,fL ij g 361 1 i,gJ fV 363 64 i j]:List fT)
abbrev vj(a:Nat)(b:Int)(c d:Nat)(e:Int) f g h i j:=(gj (G9 a b c d e f g h i j):fT)
abbrev DM a (b c:Nat) (d:TW) (e f:Nat) (g:Int):=(gj [a,blk b 261 (oE b c d),fL gV d.iv 40 1 d.ids,fL fV d.cv 3 1 d.cs,blk e 166 (Zh b),blk f 40 (Zq g)]:fT)
abbrev sV(a b c d:Int)(e:WW):=([.int .i64 a,.int .i64 b,.int .i64 c,.int .i64 d,.pointer (some ⟨e.cb,0,none⟩),.pointer (some ⟨e.ub,0,none⟩),.pointer (some ⟨e.sb,0,none⟩),.pointer (some ⟨e.ob,0,none⟩),.int .u64 e.added,.int .u64 e.jr]:List Value)
abbrev Hi(a:fW) b c d e f:=gD (uh a b c d) ((fJ a.live b).v) (e,(o8 a b c d).2.eraseIdx f)
abbrev Mc(a:Nat)(b:Int) c d e f g (h:Nat) i (j k:Nat) l:=([blk a 346 (pg a b c d),fL gF.cells c 224 2 e,fL ij d 361 1 f,gJ fV 363 64 f g,blk h 346 (Hw h b i j k),fL gF.cells i 224 2 e,fL ij (Zd j k) 361 1 l,gJ fV 363 64 l g]:List fT)
abbrev Mz(a:Nat) b (c:As) (d:Nat) e f:=(gj [blk a 275 (Z7 a b c),fL ij b 354 1 c.ps,gJ gP.cells 357 64 c.ps c.sl,blk d 275 (Z7 d e c),fL ij e 354 1 f,gJ gP.cells 357 64 f c.sl]:fT)
abbrev MH(a:Nat)(b:Int)(c d e f g h:Nat) i j k l (m:Nat):=([blk a 83 (T5 b c d e f g h),blk h 3 i,blk g 2 j,blk f 3 j,blk e 3 j,blk c 3 j,fL fV k 3 1 l,blk m 83 ue]:List fT)
abbrev Na:=([.int .i64 0,.int .i64 0,.int .u64 0,.int .i64 0,.int .i64 0,.int .u64 0,.int .i64 0,.int .i64 0,.int .u64 0,.int .i64 0,.int .i64 0,.int .u64 0,.int .i64 0,.int .i64 0,.int .u64 0,.int .i64 0,.int .i64 0,.int .u64 0,.int .i64 0,.int .i64 0,.int .u64 0,.int .i64 0,.int .i64 0,.int .u64 0,.int .i64 0,.int .i64 0,.int .u64 0,.int .i64 0,.int .i64 0,.int .u64 0,.int .i64 0,.int .i64 0,.int .u64 0,.int .i64 0,.int .i64 0,.int .u64 0,.int .i64 0,.int .i64 0,.int .u64 0,.int .i64 0,.int .i64 0,.int .u64 0,.int .i64 0,.int .i64 0,.int .u64 0,.int .i64 0,.int .i64 0,.int .u64 0,.int .i64 0,.int .i64 0,.int .u64 0,.int .i64 0,.int .i64 0,.int .u64 0,.int .i64 0,.int .i64 0,.int .u64 0,.int .i64 0,.int .i64 0,.int .u64 0,.int .i64 0,.int .i64 0,.int .u64 0,.int .i64 0,.int .i64 0,.int .u64 0,.int .i64 0,.int .i64 0,.int .u64 0,.int .i64 0,.int .i64 0,.int .u64 0,.int .i64 0,.int .i64 0,.int .u64 0,.int .i64 0,.int .i64 0,.int .u64 0,.int .i64 0,.int .i64 0,.int .u64 0,.int .i64 0,.int .i64 0,.int .u64 0,.int .i64 0,.int .i64 0,.int .u64 0,.int .i64 0,.int .i64 0,.int .u64 0,.int .i64 0,.int .i64 0,.int .u64 0,.int .i64 0,.int .i64 0,.int .u64 0,.int .i64 0,.int .i64 0,.int .u64 0,.int .i64 0,.int .i64 0,.int .u64 0,.int .i64 0,.int .i64 0,.int .u64 0,.int .i64 0,.int .i64 0,.int .u64 0,.int .i64 0,.int .i64 0,.int .u64 0,.int .i64 0,.int .i64 0,.int .u64 0,.int .i64 0,.int .i64 0,.int .u64 0,.int .i64 0,.int .i64 0,.int .u64 0,.int .i64 0,.int .i64 0,.int .u64 0,.int .i64 0,.int .i64 0,.int .u64 0,.int .i64 0,.int .i64 0,.int .u64 0,.int .i64 0,.int .i64 0,.int .u64 0,.int .i64 0,.int .i64 0,.int .u64 0,.int .i64 0,.int .i64 0,.int .u64 0,.int .i64 0,.int .i64 0,.int .u64 0,.int .i64 0,.int .i64 0,.int .u64 0,.int .i64 0,.int .i64 0,.int .u64 0,.int .i64 0,.int .i64 0,.int .u64 0,.int .i64 0,.int .i64 0,.int .u64 0,.int .i64 0,.int .i64 0,.int .u64 0,.int .i64 0,.int .i64 0,.int .u64 0,.int .i64 0,.int .i64 0,.int .u64 0,.int .i64 0,.int .i64 0,.int .u64 0,.int .i64 0,.int .i64 0,.int .u64 0,.int .i64 0,.int .i64 0,.int .u64 0,.int .i64 0,.int .i64 0,.int .u64 0,.int .i64 0,.int .i64 0,.int .u64 0,.int .i64 0,.int .i64 0,.int .u64 0,.int .i64 0,.int .i64 0,.int .u64 0,.int .i64 0,.int .i64 0,.int .u64 0,.int .i64 0,.int .i64 0,.int .u64 0,.int .i64 0,.int .i64 0,.int .u64 0]:List Value)
abbrev Mp a (b c:Nat) d (e:As) f g:=([a,blk b 357 Na,blk c 275 (Z7 c d e),fL ij f 354 1 g,gJ gP.cells 357 64 e.ps e.sl]:List fT)
end
section
open Go Go.Sx
theorem ti2:(ya.info? 2).map (fun i=>(i.size,i.bytes,i.zero))=some (1,8,some (.int .i64 0)):=by kernel_rfl
theorem gr:(ya.info? 3).map (fun i=>(i.size,i.bytes,i.zero))=some (1,8,some (.int .i64 0)):=by kernel_rfl
theorem FV:(ya.info? 4).map (fun i=>(i.size,i.bytes,i.zero))=some (1,1,some (.bool false)):=by kernel_rfl
theorem ti5:(ya.info? 5).map (fun i=>(i.size,i.bytes,i.zero))=some (1,1,some (.int .u8 0)):=by kernel_rfl
theorem ti6:(ya.info? 6).map (fun i=>(i.size,i.bytes,i.zero))=some (1,1,some (.int .u8 0)):=by kernel_rfl
theorem ti7:(ya.info? 7).map (fun i=>(i.size,i.bytes,i.zero))=some (4,24,some (.agg #[(.int .i64 0),(.int .i64 0),(.bool false),(.int .u8 0)])):=by kernel_rfl
theorem ti8:(ya.info? 8).map (fun i=>(i.size,i.bytes,i.zero))=some (4,24,some (.agg #[(.int .i64 0),(.int .i64 0),(.bool false),(.int .u8 0)])):=by kernel_rfl
theorem ti9:(ya.info? 9).map (fun i=>(i.size,i.bytes,i.zero))=some (1,16,some (.string ⟨#[]⟩)):=by kernel_rfl
theorem aeO:(ya.info? 10).map (fun i=>(i.size,i.bytes,i.zero))=some (1,16,some (.string ⟨#[]⟩)):=by kernel_rfl
theorem aeQ:(ya.info? 11).map (fun i=>(i.size,i.bytes,i.zero))=some (1,16,some (.string ⟨#[]⟩)):=by kernel_rfl
theorem aeT:(ya.info? 12).map (fun i=>(i.size,i.bytes,i.zero))=some (1,8,some (.int .u64 0)):=by kernel_rfl
theorem aeX:(ya.info? 13).map (fun i=>(i.size,i.bytes,i.zero))=some (2,24,some (.agg #[(.string ⟨#[]⟩),(.int .u64 0)])):=by kernel_rfl
theorem aeZ:(ya.info? 14).map (fun i=>(i.size,i.bytes,i.zero))=some (2,24,some (.agg #[(.string ⟨#[]⟩),(.int .u64 0)])):=by kernel_rfl
theorem ae1:(ya.info? 15).map (fun i=>(i.size,i.bytes,i.zero))=some (1,8,some (.pointer none)):=by kernel_rfl
theorem ae4:(ya.info? 16).map (fun i=>(i.size,i.bytes,i.zero))=some (1,8,some (.pointer none)):=by kernel_rfl
theorem ae7:(ya.info? 17).map (fun i=>(i.size,i.bytes,i.zero))=some (1,8,some (.pointer none)):=by kernel_rfl
theorem afb:(ya.info? 18).map (fun i=>(i.size,i.bytes,i.zero))=some (1,8,some (.agg #[(.pointer none)])):=by kernel_rfl
theorem afe:(ya.info? 19).map (fun i=>(i.size,i.bytes,i.zero))=some (1,8,some (.agg #[(.pointer none)])):=by kernel_rfl
theorem afp:(ya.info? 21).map (fun i=>(i.size,i.bytes,i.zero))=some (1,4,some (.int .i32 0)):=by kernel_rfl
theorem afq:(ya.info? 22).map (fun i=>(i.size,i.bytes,i.zero))=some (1,24,some (.slice none 0 0)):=by kernel_rfl
theorem SZ:(ya.info? 23).map (fun i=>(i.size,i.bytes,i.zero))=some (1,8,some (.pointer none)):=by kernel_rfl
theorem afw:(ya.info? 24).map (fun i=>(i.size,i.bytes,i.zero))=some (1,8,some (.pointer none)):=by kernel_rfl
theorem KX:(ya.info? 27).map (fun i=>(i.size,i.bytes,i.zero))=some (1,24,some (.slice none 0 0)):=by kernel_rfl
theorem S7:(ya.info? 28).map (fun i=>(i.size,i.bytes,i.zero))=some (1,24,some (.slice none 0 0)):=by kernel_rfl
theorem S9:(ya.info? 31).map (fun i=>(i.size,i.bytes,i.zero))=some (1,8,some (.pointer none)):=by kernel_rfl
theorem yE:(ya.info? 32).map (fun i=>(i.size,i.bytes,i.zero))=some (1,8,some (.int .i64 0)):=by kernel_rfl
theorem j8:(ya.info? 35).map (fun i=>(i.size,i.bytes,i.zero))=some (1,24,some (.slice none 0 0)):=by kernel_rfl
theorem afV:(ya.info? 38).map (fun i=>(i.size,i.bytes,i.zero))=some (1,24,some (.slice none 0 0)):=by kernel_rfl
theorem jA:(ya.info? 40).map (fun i=>(i.size,i.bytes,i.zero))=some (1,8,some (.int .u64 0)):=by kernel_rfl
theorem af2:(ya.info? 41).map (fun i=>(i.size,i.bytes,i.zero))=some (2,16,some (.agg #[(.int .u64 0),(.int .i64 0)])):=by kernel_rfl
theorem yG:(ya.info? 42).map (fun i=>(i.size,i.bytes,i.zero))=some (2,16,some (.agg #[(.int .u64 0),(.int .i64 0)])):=by kernel_rfl
theorem K6:(ya.info? 48).map (fun i=>(i.size,i.bytes,i.zero))=some (1,24,some (.slice none 0 0)):=by kernel_rfl
theorem Te:(ya.info? 53).map (fun i=>(i.size,i.bytes,i.zero))=some (1,24,some (.slice none 0 0)):=by kernel_rfl
theorem agd:(ya.info? 56).map (fun i=>(i.size,i.bytes,i.zero))=some (4,32,some (.agg #[(.int .u64 0),(.int .u64 0),(.int .i64 0),(.int .i64 0)])):=by kernel_rfl
theorem uP:(ya.info? 57).map (fun i=>(i.size,i.bytes,i.zero))=some (4,32,some (.agg #[(.int .u64 0),(.int .u64 0),(.int .i64 0),(.int .i64 0)])):=by kernel_rfl
theorem age:(ya.info? 58).map (fun i=>(i.size,i.bytes,i.zero))=some (7,56,some (.agg #[(.int .i64 0),(.int .u64 0),(.int .u64 0),(.int .u64 0),(.int .i64 0),(.int .i64 0),(.int .i64 0)])):=by kernel_rfl
theorem nu:(ya.info? 59).map (fun i=>(i.size,i.bytes,i.zero))=some (7,56,some (.agg #[(.int .i64 0),(.int .u64 0),(.int .u64 0),(.int .u64 0),(.int .i64 0),(.int .i64 0),(.int .i64 0)])):=by kernel_rfl
theorem agf:(ya.info? 68).map (fun i=>(i.size,i.bytes,i.zero))=some (4,32,some (.agg #[(.int .i64 0),(.int .i64 0),(.int .i64 0),(.int .i64 0)])):=by kernel_rfl
theorem C8:(ya.info? 69).map (fun i=>(i.size,i.bytes,i.zero))=some (4,32,some (.agg #[(.int .i64 0),(.int .i64 0),(.int .i64 0),(.int .i64 0)])):=by kernel_rfl
theorem agh:(ya.info? 73).map (fun i=>(i.size,i.bytes,i.zero))=some (1,1,some (.int .i8 0)):=by kernel_rfl
theorem agi:(ya.info? 74).map (fun i=>(i.size,i.bytes,i.zero))=some (5,5,some (.agg #[(.bool false),(.int .u8 0),(.int .u8 0),(.int .i8 0),(.int .u8 0)])):=by kernel_rfl
theorem agj:(ya.info? 75).map (fun i=>(i.size,i.bytes,i.zero))=some (5,5,some (.agg #[(.bool false),(.int .u8 0),(.int .u8 0),(.int .i8 0),(.int .u8 0)])):=by kernel_rfl
theorem agk:(ya.info? 80).map (fun i=>(i.size,i.bytes,i.zero))=some (2,16,some (.agg #[(.bool false),(.int .u64 0)])):=by kernel_rfl
theorem C9:(ya.info? 81).map (fun i=>(i.size,i.bytes,i.zero))=some (2,16,some (.agg #[(.bool false),(.int .u64 0)])):=by kernel_rfl
theorem agl:(ya.info? 82).map (fun i=>(i.size,i.bytes,i.zero))=some (6,128,some (.agg #[(.int .i64 0),(.slice none 0 0),(.slice none 0 0),(.slice none 0 0),(.slice none 0 0),(.slice none 0 0)])):=by kernel_rfl
theorem wz:(ya.info? 83).map (fun i=>(i.size,i.bytes,i.zero))=some (6,128,some (.agg #[(.int .i64 0),(.slice none 0 0),(.slice none 0 0),(.slice none 0 0),(.slice none 0 0),(.slice none 0 0)])):=by kernel_rfl
theorem Tf:(ya.info? 84).map (fun i=>(i.size,i.bytes,i.zero))=some (1,8,some (.pointer none)):=by kernel_rfl
theorem Tg:(ya.info? 85).map (fun i=>(i.size,i.bytes,i.zero))=some (1,8,some (.pointer none)):=by kernel_rfl
theorem agm:(ya.info? 86).map (fun i=>(i.size,i.bytes,i.zero))=some (9,168,some (.agg #[(.slice none 0 0),(.int .i64 0),(.slice none 0 0),(.slice none 0 0),(.slice none 0 0),(.slice none 0 0),(.slice none 0 0),(.pointer none),(.pointer none)])):=by kernel_rfl
theorem Da:(ya.info? 87).map (fun i=>(i.size,i.bytes,i.zero))=some (9,168,some (.agg #[(.slice none 0 0),(.int .i64 0),(.slice none 0 0),(.slice none 0 0),(.slice none 0 0),(.slice none 0 0),(.slice none 0 0),(.pointer none),(.pointer none)])):=by kernel_rfl
theorem agn:(ya.info? 88).map (fun i=>(i.size,i.bytes,i.zero))=some (13,200,some (.agg #[(.pointer none),(.bool false),(.int .u64 0),(.slice none 0 0),(.int .i64 0),(.slice none 0 0),(.slice none 0 0),(.slice none 0 0),(.slice none 0 0),(.slice none 0 0),(.pointer none),(.pointer none),(.int .i64 0)])):=by kernel_rfl
theorem Th:(ya.info? 89).map (fun i=>(i.size,i.bytes,i.zero))=some (13,200,some (.agg #[(.pointer none),(.bool false),(.int .u64 0),(.slice none 0 0),(.int .i64 0),(.slice none 0 0),(.slice none 0 0),(.slice none 0 0),(.slice none 0 0),(.slice none 0 0),(.pointer none),(.pointer none),(.int .i64 0)])):=by kernel_rfl
theorem ago:(ya.info? 90).map (fun i=>(i.size,i.bytes,i.zero))=some (3,24,some (.agg #[(.int .i64 0),(.int .i64 0),(.int .i64 0)])):=by kernel_rfl
theorem yH:(ya.info? 91).map (fun i=>(i.size,i.bytes,i.zero))=some (3,24,some (.agg #[(.int .i64 0),(.int .i64 0),(.int .i64 0)])):=by kernel_rfl
theorem agp:(ya.info? 94).map (fun i=>(i.size,i.bytes,i.zero))=some (4,80,some (.agg #[(.pointer none),(.slice none 0 0),(.slice none 0 0),(.slice none 0 0)])):=by kernel_rfl
theorem Ti:(ya.info? 95).map (fun i=>(i.size,i.bytes,i.zero))=some (4,80,some (.agg #[(.pointer none),(.slice none 0 0),(.slice none 0 0),(.slice none 0 0)])):=by kernel_rfl
theorem Tj:(ya.info? 96).map (fun i=>(i.size,i.bytes,i.zero))=some (1,8,some (.pointer none)):=by kernel_rfl
theorem agq:(ya.info? 99).map (fun i=>(i.size,i.bytes,i.zero))=some (1,24,some (.slice none 0 0)):=by kernel_rfl
theorem aeP:(ya.info? 101).map (fun i=>(i.size,i.bytes,i.zero))=some (2,16,some (.agg #[(.int .i64 0),(.int .i64 0)])):=by kernel_rfl
theorem uO:(ya.info? 102).map (fun i=>(i.size,i.bytes,i.zero))=some (2,16,some (.agg #[(.int .i64 0),(.int .i64 0)])):=by kernel_rfl
theorem SJ:(ya.info? 108).map (fun i=>(i.size,i.bytes,i.zero))=some (1,8,some (.pointer none)):=by kernel_rfl
theorem KP:(ya.info? 109).map (fun i=>(i.size,i.bytes,i.zero))=some (1,8,some (.pointer none)):=by kernel_rfl
theorem KQ:(ya.info? 110).map (fun i=>(i.size,i.bytes,i.zero))=some (1,8,some (.pointer none)):=by kernel_rfl
theorem SK:(ya.info? 111).map (fun i=>(i.size,i.bytes,i.zero))=some (1,8,some (.pointer none)):=by kernel_rfl
theorem aeR:(ya.info? 112).map (fun i=>(i.size,i.bytes,i.zero))=some (10,80,some (.agg #[(.int .i64 0),(.int .i64 0),(.int .i64 0),(.int .i64 0),(.pointer none),(.pointer none),(.pointer none),(.pointer none),(.int .u64 0),(.int .u64 0)])):=by kernel_rfl
theorem SM:(ya.info? 113).map (fun i=>(i.size,i.bytes,i.zero))=some (10,80,some (.agg #[(.int .i64 0),(.int .i64 0),(.int .i64 0),(.int .i64 0),(.pointer none),(.pointer none),(.pointer none),(.pointer none),(.int .u64 0),(.int .u64 0)])):=by kernel_rfl
theorem aeS:(ya.info? 116).map (fun i=>(i.size,i.bytes,i.zero))=some (1,24,some (.slice none 0 0)):=by kernel_rfl
theorem tH:(ya.info? 119).map (fun i=>(i.size,i.bytes,i.zero))=some (2,16,some (.agg #[(.int .u64 0),(.int .u64 0)])):=by kernel_rfl
theorem aeU:(ya.info? 120).map (fun i=>(i.size,i.bytes,i.zero))=some (1,8,some (.pointer none)):=by kernel_rfl
theorem aeV:(ya.info? 127).map (fun i=>(i.size,i.bytes,i.zero))=some (5,32,some (.agg #[(.int .i64 0),(.int .i64 0),(.int .i64 0),(.bool false),(.bool false)])):=by kernel_rfl
theorem aeW:(ya.info? 128).map (fun i=>(i.size,i.bytes,i.zero))=some (5,32,some (.agg #[(.int .i64 0),(.int .i64 0),(.int .i64 0),(.bool false),(.bool false)])):=by kernel_rfl
theorem aeY:(ya.info? 132).map (fun i=>(i.size,i.bytes,i.zero))=some (1,8,some .nilFunc):=by kernel_rfl
theorem FM:(ya.info? 143).map (fun i=>(i.size,i.bytes,i.zero))=some (2,16,some (.agg #[(.int .i64 0),(.int .i64 0)])):=by kernel_rfl
theorem ae0:(ya.info? 148).map (fun i=>(i.size,i.bytes,i.zero))=some (5,88,some (.agg #[(.pointer none),(.slice none 0 0),(.slice none 0 0),(.slice none 0 0),(.int .i64 0)])):=by kernel_rfl
theorem KR:(ya.info? 149).map (fun i=>(i.size,i.bytes,i.zero))=some (5,88,some (.agg #[(.pointer none),(.slice none 0 0),(.slice none 0 0),(.slice none 0 0),(.int .i64 0)])):=by kernel_rfl
theorem ae2:(ya.info? 153).map (fun i=>(i.size,i.bytes,i.zero))=some (1,8,some (.map none)):=by kernel_rfl
theorem ae3:(ya.info? 156).map (fun i=>(i.size,i.bytes,i.zero))=some (1,8,some .nilFunc):=by kernel_rfl
theorem KS:(ya.info? 161).map (fun i=>(i.size,i.bytes,i.zero))=some (1,8,some (.pointer none)):=by kernel_rfl
theorem ae5:(ya.info? 162).map (fun i=>(i.size,i.bytes,i.zero))=some (8,160,some (.agg #[(.pointer none),(.int .i64 0),(.slice none 0 0),(.slice none 0 0),(.slice none 0 0),(.slice none 0 0),(.slice none 0 0),(.slice none 0 0)])):=by kernel_rfl
theorem SN:(ya.info? 163).map (fun i=>(i.size,i.bytes,i.zero))=some (8,160,some (.agg #[(.pointer none),(.int .i64 0),(.slice none 0 0),(.slice none 0 0),(.slice none 0 0),(.slice none 0 0),(.slice none 0 0),(.slice none 0 0)])):=by kernel_rfl
theorem FN:(ya.info? 165).map (fun i=>(i.size,i.bytes,i.zero))=some (1,8,some (.pointer none)):=by kernel_rfl
theorem KT:(ya.info? 166).map (fun i=>(i.size,i.bytes,i.zero))=some (1,8,some (.pointer none)):=by kernel_rfl
theorem SO:(ya.info? 167).map (fun i=>(i.size,i.bytes,i.zero))=some (1,8,some (.map none)):=by kernel_rfl
theorem ae6:(ya.info? 168).map (fun i=>(i.size,i.bytes,i.zero))=some (7,72,some (.agg #[(.int .i64 0),(.int .i64 0),(.int .u64 0),(.pointer none),(.pointer none),(.slice none 0 0),(.map none)])):=by kernel_rfl
theorem SS:(ya.info? 169).map (fun i=>(i.size,i.bytes,i.zero))=some (7,72,some (.agg #[(.int .i64 0),(.int .i64 0),(.int .u64 0),(.pointer none),(.pointer none),(.slice none 0 0),(.map none)])):=by kernel_rfl
theorem ae8:(ya.info? 172).map (fun i=>(i.size,i.bytes,i.zero))=some (1,24,some (.slice none 0 0)):=by kernel_rfl
theorem ae9:(ya.info? 175).map (fun i=>(i.size,i.bytes,i.zero))=some (2,16,some (.agg #[(.int .i64 0),(.int .i64 0)])):=by kernel_rfl
theorem KU:(ya.info? 176).map (fun i=>(i.size,i.bytes,i.zero))=some (2,16,some (.agg #[(.int .i64 0),(.int .i64 0)])):=by kernel_rfl
theorem afa:(ya.info? 177).map (fun i=>(i.size,i.bytes,i.zero))=some (5,40,some (.agg #[(.int .i64 0),(.int .i64 0),(.int .i64 0),(.int .i64 0),(.int .i64 0)])):=by kernel_rfl
theorem FO:(ya.info? 178).map (fun i=>(i.size,i.bytes,i.zero))=some (5,40,some (.agg #[(.int .i64 0),(.int .i64 0),(.int .i64 0),(.int .i64 0),(.int .i64 0)])):=by kernel_rfl
theorem afc:(ya.info? 180).map (fun i=>(i.size,i.bytes,i.zero))=some (3,56,some (.agg #[(.slice none 0 0),(.slice none 0 0),(.int .i64 0)])):=by kernel_rfl
theorem SU:(ya.info? 181).map (fun i=>(i.size,i.bytes,i.zero))=some (3,56,some (.agg #[(.slice none 0 0),(.slice none 0 0),(.int .i64 0)])):=by kernel_rfl
theorem afd:(ya.info? 188).map (fun i=>(i.size,i.bytes,i.zero))=some (1,24,some (.slice none 0 0)):=by kernel_rfl
theorem aff:(ya.info? 190).map (fun i=>(i.size,i.bytes,i.zero))=some (1,24,some (.slice none 0 0)):=by kernel_rfl
theorem afg:(ya.info? 192).map (fun i=>(i.size,i.bytes,i.zero))=some (1,24,some (.slice none 0 0)):=by kernel_rfl
theorem afh:(ya.info? 193).map (fun i=>(i.size,i.bytes,i.zero))=some (3,24,some (.agg #[(.int .i64 0),(.int .i64 0),(.int .i64 0)])):=by kernel_rfl
theorem afi:(ya.info? 194).map (fun i=>(i.size,i.bytes,i.zero))=some (3,24,some (.agg #[(.int .i64 0),(.int .i64 0),(.int .i64 0)])):=by kernel_rfl
theorem afj:(ya.info? 196).map (fun i=>(i.size,i.bytes,i.zero))=some (1,8,some (.pointer none)):=by kernel_rfl
theorem afk:(ya.info? 197).map (fun i=>(i.size,i.bytes,i.zero))=some (1,24,some (.slice none 0 0)):=by kernel_rfl
theorem afl:(ya.info? 198).map (fun i=>(i.size,i.bytes,i.zero))=some (2,16,some (.agg #[(.int .i64 0),(.int .i64 0)])):=by kernel_rfl
theorem afm:(ya.info? 199).map (fun i=>(i.size,i.bytes,i.zero))=some (2,16,some (.agg #[(.int .i64 0),(.int .i64 0)])):=by kernel_rfl
theorem afn:(ya.info? 202).map (fun i=>(i.size,i.bytes,i.zero))=some (1,8,some (.int .u64 0)):=by kernel_rfl
theorem afo:(ya.info? 204).map (fun i=>(i.size,i.bytes,i.zero))=some (1,8,some (.pointer none)):=by kernel_rfl
theorem SV:(ya.info? 210).map (fun i=>(i.size,i.bytes,i.zero))=some (4,32,some (.agg #[(.int .i64 0),(.int .i64 0),(.int .i64 0),(.int .i64 0)])):=by kernel_rfl
theorem SX:(ya.info? 219).map (fun i=>(i.size,i.bytes,i.zero))=some (1,8,some (.int .i64 0)):=by kernel_rfl
theorem afr:(ya.info? 220).map (fun i=>(i.size,i.bytes,i.zero))=some (2,16,some (.agg #[(.int .i64 0),(.int .i64 0)])):=by kernel_rfl
theorem SY:(ya.info? 221).map (fun i=>(i.size,i.bytes,i.zero))=some (2,16,some (.agg #[(.int .i64 0),(.int .i64 0)])):=by kernel_rfl
theorem afs:(ya.info? 223).map (fun i=>(i.size,i.bytes,i.zero))=some (2,16,some (.agg #[(.int .i64 0),(.int .i64 0)])):=by kernel_rfl
theorem pK:(ya.info? 224).map (fun i=>(i.size,i.bytes,i.zero))=some (2,16,some (.agg #[(.int .i64 0),(.int .i64 0)])):=by kernel_rfl
theorem KV:(ya.info? 226).map (fun i=>(i.size,i.bytes,i.zero))=some (1,8,some (.pointer none)):=by kernel_rfl
theorem aft:(ya.info? 227).map (fun i=>(i.size,i.bytes,i.zero))=some (1,8,some (.agg #[(.pointer none)])):=by kernel_rfl
theorem KW:(ya.info? 228).map (fun i=>(i.size,i.bytes,i.zero))=some (1,8,some (.agg #[(.pointer none)])):=by kernel_rfl
theorem FP:(ya.info? 229).map (fun i=>(i.size,i.bytes,i.zero))=some (1,8,some (.pointer none)):=by kernel_rfl
theorem S0:(ya.info? 230).map (fun i=>(i.size,i.bytes,i.zero))=some (1,8,some (.map none)):=by kernel_rfl
theorem afu:(ya.info? 231).map (fun i=>(i.size,i.bytes,i.zero))=some (6,48,some (.agg #[(.int .i64 0),(.int .i64 0),(.pointer none),(.pointer none),(.map none),(.int .i64 0)])):=by kernel_rfl
theorem S1:(ya.info? 232).map (fun i=>(i.size,i.bytes,i.zero))=some (6,48,some (.agg #[(.int .i64 0),(.int .i64 0),(.pointer none),(.pointer none),(.map none),(.int .i64 0)])):=by kernel_rfl
theorem afv:(ya.info? 234).map (fun i=>(i.size,i.bytes,i.zero))=some (4,32,some (.agg #[(.int .i64 0),(.int .i64 0),(.int .i64 0),(.bool false)])):=by kernel_rfl
theorem yD:(ya.info? 235).map (fun i=>(i.size,i.bytes,i.zero))=some (4,32,some (.agg #[(.int .i64 0),(.int .i64 0),(.int .i64 0),(.bool false)])):=by kernel_rfl
theorem C4:(ya.info? 247).map (fun i=>(i.size,i.bytes,i.zero))=some (1,8,some .nilFunc):=by kernel_rfl
theorem afx:(ya.info? 260).map (fun i=>(i.size,i.bytes,i.zero))=some (4,64,some (.agg #[(.pointer none),(.pointer none),(.slice none 0 0),(.slice none 0 0)])):=by kernel_rfl
theorem FQ:(ya.info? 261).map (fun i=>(i.size,i.bytes,i.zero))=some (4,64,some (.agg #[(.pointer none),(.pointer none),(.slice none 0 0),(.slice none 0 0)])):=by kernel_rfl
theorem S2:(ya.info? 264).map (fun i=>(i.size,i.bytes,i.zero))=some (1,8,some (.map none)):=by kernel_rfl
theorem afy:(ya.info? 265).map (fun i=>(i.size,i.bytes,i.zero))=some (9,168,some (.agg #[(.pointer none),(.int .i64 0),(.slice none 0 0),(.slice none 0 0),(.slice none 0 0),(.slice none 0 0),(.slice none 0 0),(.slice none 0 0),(.map none)])):=by kernel_rfl
theorem S3:(ya.info? 266).map (fun i=>(i.size,i.bytes,i.zero))=some (9,168,some (.agg #[(.pointer none),(.int .i64 0),(.slice none 0 0),(.slice none 0 0),(.slice none 0 0),(.slice none 0 0),(.slice none 0 0),(.slice none 0 0),(.map none)])):=by kernel_rfl
theorem S4:(ya.info? 267).map (fun i=>(i.size,i.bytes,i.zero))=some (1,8,some (.pointer none)):=by kernel_rfl
theorem afz:(ya.info? 268).map (fun i=>(i.size,i.bytes,i.zero))=some (1,8,some (.agg #[(.pointer none)])):=by kernel_rfl
theorem S5:(ya.info? 269).map (fun i=>(i.size,i.bytes,i.zero))=some (1,8,some (.agg #[(.pointer none)])):=by kernel_rfl
theorem S6:(ya.info? 273).map (fun i=>(i.size,i.bytes,i.zero))=some (1,24,some (.slice none 0 0)):=by kernel_rfl
theorem afA:(ya.info? 274).map (fun i=>(i.size,i.bytes,i.zero))=some (6,64,some (.agg #[(.pointer none),(.slice none 0 0),(.int .i64 0),(.int .i64 0),(.int .i64 0),(.int .i64 0)])):=by kernel_rfl
theorem FR:(ya.info? 275).map (fun i=>(i.size,i.bytes,i.zero))=some (6,64,some (.agg #[(.pointer none),(.slice none 0 0),(.int .i64 0),(.int .i64 0),(.int .i64 0),(.int .i64 0)])):=by kernel_rfl
theorem afB:(ya.info? 278).map (fun i=>(i.size,i.bytes,i.zero))=some (1,8,some (.int .i64 0)):=by kernel_rfl
theorem afC:(ya.info? 285).map (fun i=>(i.size,i.bytes,i.zero))=some (1,4,some (.int .u32 0)):=by kernel_rfl
theorem afD:(ya.info? 287).map (fun i=>(i.size,i.bytes,i.zero))=some (1,24,some (.slice none 0 0)):=by kernel_rfl
theorem afE:(ya.info? 288).map (fun i=>(i.size,i.bytes,i.zero))=some (3,56,some (.agg #[(.slice none 0 0),(.slice none 0 0),(.int .i64 0)])):=by kernel_rfl
theorem afF:(ya.info? 289).map (fun i=>(i.size,i.bytes,i.zero))=some (3,56,some (.agg #[(.slice none 0 0),(.slice none 0 0),(.int .i64 0)])):=by kernel_rfl
theorem afG:(ya.info? 297).map (fun i=>(i.size,i.bytes,i.zero))=some (2,16,some (.agg #[(.int .i64 0),(.pointer none)])):=by kernel_rfl
theorem KY:(ya.info? 298).map (fun i=>(i.size,i.bytes,i.zero))=some (2,16,some (.agg #[(.int .i64 0),(.pointer none)])):=by kernel_rfl
theorem afH:(ya.info? 302).map (fun i=>(i.size,i.bytes,i.zero))=some (1,8,some (.pointer none)):=by kernel_rfl
theorem afI:(ya.info? 304).map (fun i=>(i.size,i.bytes,i.zero))=some (3,24,some (.agg #[(.int .i64 0),(.int .i64 0),(.int .u64 0)])):=by kernel_rfl
theorem S8:(ya.info? 305).map (fun i=>(i.size,i.bytes,i.zero))=some (3,24,some (.agg #[(.int .i64 0),(.int .i64 0),(.int .u64 0)])):=by kernel_rfl
theorem afJ:(ya.info? 318).map (fun i=>(i.size,i.bytes,i.zero))=some (1,24,some (.slice none 0 0)):=by kernel_rfl
theorem afK:(ya.info? 319).map (fun i=>(i.size,i.bytes,i.zero))=some (1,24,some (.slice none 0 0)):=by kernel_rfl
theorem C5:(ya.info? 322).map (fun i=>(i.size,i.bytes,i.zero))=some (1,24,some (.slice none 0 0)):=by kernel_rfl
theorem afL:(ya.info? 323).map (fun i=>(i.size,i.bytes,i.zero))=some (2,16,some (.agg #[(.int .i64 0),(.int .i64 0)])):=by kernel_rfl
theorem yF:(ya.info? 324).map (fun i=>(i.size,i.bytes,i.zero))=some (2,16,some (.agg #[(.int .i64 0),(.int .i64 0)])):=by kernel_rfl
theorem Ta:(ya.info? 329).map (fun i=>(i.size,i.bytes,i.zero))=some (13,312,some (.agg #[(.slice none 0 0),(.slice none 0 0),(.slice none 0 0),(.slice none 0 0),(.slice none 0 0),(.slice none 0 0),(.slice none 0 0),(.slice none 0 0),(.slice none 0 0),(.slice none 0 0),(.slice none 0 0),(.slice none 0 0),(.slice none 0 0)])):=by kernel_rfl
theorem afM:(ya.info? 330).map (fun i=>(i.size,i.bytes,i.zero))=some (15,344,some (.agg #[(.bool false),(.slice none 0 0),(.slice none 0 0),(.slice none 0 0),(.slice none 0 0),(.slice none 0 0),(.slice none 0 0),(.slice none 0 0),(.slice none 0 0),(.slice none 0 0),(.slice none 0 0),(.slice none 0 0),(.slice none 0 0),(.slice none 0 0),(.slice none 0 0)])):=by kernel_rfl
theorem Tc:(ya.info? 331).map (fun i=>(i.size,i.bytes,i.zero))=some (15,344,some (.agg #[(.bool false),(.slice none 0 0),(.slice none 0 0),(.slice none 0 0),(.slice none 0 0),(.slice none 0 0),(.slice none 0 0),(.slice none 0 0),(.slice none 0 0),(.slice none 0 0),(.slice none 0 0),(.slice none 0 0),(.slice none 0 0),(.slice none 0 0),(.slice none 0 0)])):=by kernel_rfl
theorem afN:(ya.info? 338).map (fun i=>(i.size,i.bytes,i.zero))=some (1,8,some (.int .u64 0)):=by kernel_rfl
theorem afO:(ya.info? 341).map (fun i=>(i.size,i.bytes,i.zero))=some (1,8,some (.pointer none)):=by kernel_rfl
theorem KZ:(ya.info? 343).map (fun i=>(i.size,i.bytes,i.zero))=some (1,24,some (.slice none 0 0)):=by kernel_rfl
theorem K0:(ya.info? 344).map (fun i=>(i.size,i.bytes,i.zero))=some (1,24,some (.slice none 0 0)):=by kernel_rfl
theorem afP:(ya.info? 345).map (fun i=>(i.size,i.bytes,i.zero))=some (4,64,some (.agg #[(.pointer none),(.int .i64 0),(.slice none 0 0),(.slice none 0 0)])):=by kernel_rfl
theorem FU:(ya.info? 346).map (fun i=>(i.size,i.bytes,i.zero))=some (4,64,some (.agg #[(.pointer none),(.int .i64 0),(.slice none 0 0),(.slice none 0 0)])):=by kernel_rfl
theorem Td:(ya.info? 347).map (fun i=>(i.size,i.bytes,i.zero))=some (1,24,some (.slice none 0 0)):=by kernel_rfl
theorem afQ:(ya.info? 348).map (fun i=>(i.size,i.bytes,i.zero))=some (3,40,some (.agg #[(.pointer none),(.slice none 0 0),(.int .i64 0)])):=by kernel_rfl
theorem K3:(ya.info? 349).map (fun i=>(i.size,i.bytes,i.zero))=some (3,40,some (.agg #[(.pointer none),(.slice none 0 0),(.int .i64 0)])):=by kernel_rfl
theorem afR:(ya.info? 351).map (fun i=>(i.size,i.bytes,i.zero))=some (9,72,some (.agg #[(.int .i64 0),(.int .i64 0),(.int .i64 0),(.bool false),(.int .i64 0),(.int .i64 0),(.int .i64 0),(.int .i64 0),(.int .i64 0)])):=by kernel_rfl
theorem jh:(ya.info? 352).map (fun i=>(i.size,i.bytes,i.zero))=some (9,72,some (.agg #[(.int .i64 0),(.int .i64 0),(.int .i64 0),(.bool false),(.int .i64 0),(.int .i64 0),(.int .i64 0),(.int .i64 0),(.int .i64 0)])):=by kernel_rfl
theorem C6:(ya.info? 354).map (fun i=>(i.size,i.bytes,i.zero))=some (1,8,some (.pointer none)):=by kernel_rfl
theorem K4:(ya.info? 357).map (fun i=>(i.size,i.bytes,i.zero))=some (192,1536,some (.agg #[(.int .i64 0),(.int .i64 0),(.int .u64 0),(.int .i64 0),(.int .i64 0),(.int .u64 0),(.int .i64 0),(.int .i64 0),(.int .u64 0),(.int .i64 0),(.int .i64 0),(.int .u64 0),(.int .i64 0),(.int .i64 0),(.int .u64 0),(.int .i64 0),(.int .i64 0),(.int .u64 0),(.int .i64 0),(.int .i64 0),(.int .u64 0),(.int .i64 0),(.int .i64 0),(.int .u64 0),(.int .i64 0),(.int .i64 0),(.int .u64 0),(.int .i64 0),(.int .i64 0),(.int .u64 0),(.int .i64 0),(.int .i64 0),(.int .u64 0),(.int .i64 0),(.int .i64 0),(.int .u64 0),(.int .i64 0),(.int .i64 0),(.int .u64 0),(.int .i64 0),(.int .i64 0),(.int .u64 0),(.int .i64 0),(.int .i64 0),(.int .u64 0),(.int .i64 0),(.int .i64 0),(.int .u64 0),(.int .i64 0),(.int .i64 0),(.int .u64 0),(.int .i64 0),(.int .i64 0),(.int .u64 0),(.int .i64 0),(.int .i64 0),(.int .u64 0),(.int .i64 0),(.int .i64 0),(.int .u64 0),(.int .i64 0),(.int .i64 0),(.int .u64 0),(.int .i64 0),(.int .i64 0),(.int .u64 0),(.int .i64 0),(.int .i64 0),(.int .u64 0),(.int .i64 0),(.int .i64 0),(.int .u64 0),(.int .i64 0),(.int .i64 0),(.int .u64 0),(.int .i64 0),(.int .i64 0),(.int .u64 0),(.int .i64 0),(.int .i64 0),(.int .u64 0),(.int .i64 0),(.int .i64 0),(.int .u64 0),(.int .i64 0),(.int .i64 0),(.int .u64 0),(.int .i64 0),(.int .i64 0),(.int .u64 0),(.int .i64 0),(.int .i64 0),(.int .u64 0),(.int .i64 0),(.int .i64 0),(.int .u64 0),(.int .i64 0),(.int .i64 0),(.int .u64 0),(.int .i64 0),(.int .i64 0),(.int .u64 0),(.int .i64 0),(.int .i64 0),(.int .u64 0),(.int .i64 0),(.int .i64 0),(.int .u64 0),(.int .i64 0),(.int .i64 0),(.int .u64 0),(.int .i64 0),(.int .i64 0),(.int .u64 0),(.int .i64 0),(.int .i64 0),(.int .u64 0),(.int .i64 0),(.int .i64 0),(.int .u64 0),(.int .i64 0),(.int .i64 0),(.int .u64 0),(.int .i64 0),(.int .i64 0),(.int .u64 0),(.int .i64 0),(.int .i64 0),(.int .u64 0),(.int .i64 0),(.int .i64 0),(.int .u64 0),(.int .i64 0),(.int .i64 0),(.int .u64 0),(.int .i64 0),(.int .i64 0),(.int .u64 0),(.int .i64 0),(.int .i64 0),(.int .u64 0),(.int .i64 0),(.int .i64 0),(.int .u64 0),(.int .i64 0),(.int .i64 0),(.int .u64 0),(.int .i64 0),(.int .i64 0),(.int .u64 0),(.int .i64 0),(.int .i64 0),(.int .u64 0),(.int .i64 0),(.int .i64 0),(.int .u64 0),(.int .i64 0),(.int .i64 0),(.int .u64 0),(.int .i64 0),(.int .i64 0),(.int .u64 0),(.int .i64 0),(.int .i64 0),(.int .u64 0),(.int .i64 0),(.int .i64 0),(.int .u64 0),(.int .i64 0),(.int .i64 0),(.int .u64 0),(.int .i64 0),(.int .i64 0),(.int .u64 0),(.int .i64 0),(.int .i64 0),(.int .u64 0),(.int .i64 0),(.int .i64 0),(.int .u64 0),(.int .i64 0),(.int .i64 0),(.int .u64 0),(.int .i64 0),(.int .i64 0),(.int .u64 0),(.int .i64 0),(.int .i64 0),(.int .u64 0),(.int .i64 0),(.int .i64 0),(.int .u64 0)])):=by kernel_rfl
theorem C7:(ya.info? 361).map (fun i=>(i.size,i.bytes,i.zero))=some (1,8,some (.pointer none)):=by kernel_rfl
theorem afS:(ya.info? 362).map (fun i=>(i.size,i.bytes,i.zero))=some (64,512,some (.agg #[(.int .i64 0),(.int .i64 0),(.int .i64 0),(.int .i64 0),(.int .i64 0),(.int .i64 0),(.int .i64 0),(.int .i64 0),(.int .i64 0),(.int .i64 0),(.int .i64 0),(.int .i64 0),(.int .i64 0),(.int .i64 0),(.int .i64 0),(.int .i64 0),(.int .i64 0),(.int .i64 0),(.int .i64 0),(.int .i64 0),(.int .i64 0),(.int .i64 0),(.int .i64 0),(.int .i64 0),(.int .i64 0),(.int .i64 0),(.int .i64 0),(.int .i64 0),(.int .i64 0),(.int .i64 0),(.int .i64 0),(.int .i64 0),(.int .i64 0),(.int .i64 0),(.int .i64 0),(.int .i64 0),(.int .i64 0),(.int .i64 0),(.int .i64 0),(.int .i64 0),(.int .i64 0),(.int .i64 0),(.int .i64 0),(.int .i64 0),(.int .i64 0),(.int .i64 0),(.int .i64 0),(.int .i64 0),(.int .i64 0),(.int .i64 0),(.int .i64 0),(.int .i64 0),(.int .i64 0),(.int .i64 0),(.int .i64 0),(.int .i64 0),(.int .i64 0),(.int .i64 0),(.int .i64 0),(.int .i64 0),(.int .i64 0),(.int .i64 0),(.int .i64 0),(.int .i64 0)])):=by kernel_rfl
theorem K5:(ya.info? 363).map (fun i=>(i.size,i.bytes,i.zero))=some (64,512,some (.agg #[(.int .i64 0),(.int .i64 0),(.int .i64 0),(.int .i64 0),(.int .i64 0),(.int .i64 0),(.int .i64 0),(.int .i64 0),(.int .i64 0),(.int .i64 0),(.int .i64 0),(.int .i64 0),(.int .i64 0),(.int .i64 0),(.int .i64 0),(.int .i64 0),(.int .i64 0),(.int .i64 0),(.int .i64 0),(.int .i64 0),(.int .i64 0),(.int .i64 0),(.int .i64 0),(.int .i64 0),(.int .i64 0),(.int .i64 0),(.int .i64 0),(.int .i64 0),(.int .i64 0),(.int .i64 0),(.int .i64 0),(.int .i64 0),(.int .i64 0),(.int .i64 0),(.int .i64 0),(.int .i64 0),(.int .i64 0),(.int .i64 0),(.int .i64 0),(.int .i64 0),(.int .i64 0),(.int .i64 0),(.int .i64 0),(.int .i64 0),(.int .i64 0),(.int .i64 0),(.int .i64 0),(.int .i64 0),(.int .i64 0),(.int .i64 0),(.int .i64 0),(.int .i64 0),(.int .i64 0),(.int .i64 0),(.int .i64 0),(.int .i64 0),(.int .i64 0),(.int .i64 0),(.int .i64 0),(.int .i64 0),(.int .i64 0),(.int .i64 0),(.int .i64 0),(.int .i64 0)])):=by kernel_rfl
theorem afT:(ya.info? 370).map (fun i=>(i.size,i.bytes,i.zero))=some (1,24,some (.slice none 0 0)):=by kernel_rfl
theorem afU:(ya.info? 378).map (fun i=>(i.size,i.bytes,i.zero))=some (1,8,some (.pointer none)):=by kernel_rfl
theorem afW:(ya.info? 380).map (fun i=>(i.size,i.bytes,i.zero))=some (1,8,some (.pointer none)):=by kernel_rfl
theorem afX:(ya.info? 403).map (fun i=>(i.size,i.bytes,i.zero))=some (32,32,some (.agg #[(.int .u8 0),(.int .u8 0),(.int .u8 0),(.int .u8 0),(.int .u8 0),(.int .u8 0),(.int .u8 0),(.int .u8 0),(.int .u8 0),(.int .u8 0),(.int .u8 0),(.int .u8 0),(.int .u8 0),(.int .u8 0),(.int .u8 0),(.int .u8 0),(.int .u8 0),(.int .u8 0),(.int .u8 0),(.int .u8 0),(.int .u8 0),(.int .u8 0),(.int .u8 0),(.int .u8 0),(.int .u8 0),(.int .u8 0),(.int .u8 0),(.int .u8 0),(.int .u8 0),(.int .u8 0),(.int .u8 0),(.int .u8 0)])):=by kernel_rfl
theorem afY:(ya.info? 404).map (fun i=>(i.size,i.bytes,i.zero))=some (64,64,some (.agg #[(.int .u8 0),(.int .u8 0),(.int .u8 0),(.int .u8 0),(.int .u8 0),(.int .u8 0),(.int .u8 0),(.int .u8 0),(.int .u8 0),(.int .u8 0),(.int .u8 0),(.int .u8 0),(.int .u8 0),(.int .u8 0),(.int .u8 0),(.int .u8 0),(.int .u8 0),(.int .u8 0),(.int .u8 0),(.int .u8 0),(.int .u8 0),(.int .u8 0),(.int .u8 0),(.int .u8 0),(.int .u8 0),(.int .u8 0),(.int .u8 0),(.int .u8 0),(.int .u8 0),(.int .u8 0),(.int .u8 0),(.int .u8 0),(.int .u8 0),(.int .u8 0),(.int .u8 0),(.int .u8 0),(.int .u8 0),(.int .u8 0),(.int .u8 0),(.int .u8 0),(.int .u8 0),(.int .u8 0),(.int .u8 0),(.int .u8 0),(.int .u8 0),(.int .u8 0),(.int .u8 0),(.int .u8 0),(.int .u8 0),(.int .u8 0),(.int .u8 0),(.int .u8 0),(.int .u8 0),(.int .u8 0),(.int .u8 0),(.int .u8 0),(.int .u8 0),(.int .u8 0),(.int .u8 0),(.int .u8 0),(.int .u8 0),(.int .u8 0),(.int .u8 0),(.int .u8 0)])):=by kernel_rfl
theorem afZ:(ya.info? 407).map (fun i=>(i.size,i.bytes,i.zero))=some (4,40,some (.agg #[(.pointer none),(.pointer none),(.pointer none),(.string ⟨#[]⟩)])):=by kernel_rfl
theorem af0:(ya.info? 408).map (fun i=>(i.size,i.bytes,i.zero))=some (4,40,some (.agg #[(.pointer none),(.pointer none),(.pointer none),(.string ⟨#[]⟩)])):=by kernel_rfl
theorem af1:(ya.info? 409).map (fun i=>(i.size,i.bytes,i.zero))=some (0,0,some (.agg #[])):=by kernel_rfl
theorem af3:(ya.info? 410).map (fun i=>(i.size,i.bytes,i.zero))=some (0,0,some (.agg #[])):=by kernel_rfl
theorem af4:(ya.info? 411).map (fun i=>(i.size,i.bytes,i.zero))=some (0,0,some (.agg #[])):=by kernel_rfl
theorem af5:(ya.info? 412).map (fun i=>(i.size,i.bytes,i.zero))=some (1,1,some (.int .u8 0)):=by kernel_rfl
theorem af6:(ya.info? 413).map (fun i=>(i.size,i.bytes,i.zero))=some (1,1,some (.int .u8 0)):=by kernel_rfl
theorem af7:(ya.info? 414).map (fun i=>(i.size,i.bytes,i.zero))=some (1,8,some .nilFunc):=by kernel_rfl
theorem af8:(ya.info? 415).map (fun i=>(i.size,i.bytes,i.zero))=some (1,8,some (.pointer none)):=by kernel_rfl
theorem af9:(ya.info? 416).map (fun i=>(i.size,i.bytes,i.zero))=some (1,4,some (.int .i32 0)):=by kernel_rfl
theorem aga:(ya.info? 417).map (fun i=>(i.size,i.bytes,i.zero))=some (1,4,some (.int .i32 0)):=by kernel_rfl
theorem agb:(ya.info? 418).map (fun i=>(i.size,i.bytes,i.zero))=some (11,48,some (.agg #[(.int .u64 0),(.int .u64 0),(.int .u32 0),(.int .u8 0),(.int .u8 0),(.int .u8 0),(.int .u8 0),.nilFunc,(.pointer none),(.int .i32 0),(.int .i32 0)])):=by kernel_rfl
theorem agc:(ya.info? 419).map (fun i=>(i.size,i.bytes,i.zero))=some (11,48,some (.agg #[(.int .u64 0),(.int .u64 0),(.int .u32 0),(.int .u8 0),(.int .u8 0),(.int .u8 0),(.int .u8 0),.nilFunc,(.pointer none),(.int .i32 0),(.int .i32 0)])):=by kernel_rfl
theorem RE:ki ya 42 [(0,1),(1,1)]:=⟨_,Gm,fun w=>by simp[TI.size gr,TI.size jA]⟩
theorem Ft:ki ya 57 [(0,1),(1,1),(2,1),(3,1)]:=⟨_,Bv,fun w=>by simp[TI.size ti2,TI.size jA]⟩
theorem J1:ki ya 59 [(0,1),(1,1),(2,4),(6,1)]:=⟨_,wF,fun w=>by simp[TI.size ti2,TI.size gr,TI.size jA,TI.size uP]⟩
theorem RF:ki ya 69 [(0,1),(1,1),(2,1),(3,1)]:=⟨_,Gn,fun w=>by simp[TI.size ti2,TI.size gr]⟩
theorem RG:ki ya 81 [(0,1),(1,1)]:=⟨_,F8,fun w=>by simp[TI.size FV,TI.size jA]⟩
theorem acq:ki ya 83 [(0,1),(1,1),(2,1),(3,1),(4,1),(5,1)]:=⟨_,Tryz.underlying83,fun w=>by simp[TI.size gr,TI.size j8,TI.size K6]⟩
theorem acr:ki ya 87 [(0,1),(1,6),(7,1),(8,1)]:=⟨_,F9,fun w=>by simp[TI.size KX,TI.size wz,TI.size Tf,TI.size Tg]⟩
theorem acs:ki ya 89 [(0,1),(1,2),(3,9),(12,1)]:=⟨_,Tryz.underlying89,fun w=>by simp[TI.size SZ,TI.size gr,TI.size C9,TI.size Da]⟩
theorem acu:ki ya 91 [(0,1),(1,1),(2,1)]:=⟨_,Ga,fun w=>by simp[TI.size ti2,TI.size gr]⟩
theorem acv:ki ya 95 [(0,1),(1,1),(2,1),(3,1)]:=⟨_,Tryz.underlying95,fun w=>by simp[TI.size S7,TI.size S9,TI.size j8]⟩
theorem Rv:ki ya 102 [(0,1),(1,1)]:=⟨_,Tryz.underlying102,fun w=>by simp[TI.size gr]⟩
theorem ab7:ki ya 113 [(0,4),(4,1),(5,1),(6,1),(7,1),(8,1),(9,1)]:=⟨_,Gi,fun w=>by simp[TI.size SJ,TI.size KP,TI.size KQ,TI.size SK,TI.size jA,TI.size C8]⟩
theorem ab8:ki ya 149 [(0,1),(1,1),(2,1),(3,1),(4,1)]:=⟨_,Tryz.underlying149,fun w=>by simp[TI.size gr,TI.size j8,TI.size Tj]⟩
theorem ab9:ki ya 163 [(0,1),(1,6),(7,1)]:=⟨_,Tryz.underlying163,fun w=>by simp[TI.size KS,TI.size j8,TI.size wz]⟩
theorem acd:ki ya 169 [(0,1),(1,1),(2,1),(3,1),(4,1),(5,1),(6,1)]:=⟨_,Tryz.underlying169,fun w=>by simp[TI.size FN,TI.size KT,TI.size SO,TI.size gr,TI.size jA,TI.size Te]⟩
theorem ace:ki ya 176 [(0,1),(1,1)]:=⟨_,Tryz.underlying176,fun w=>by simp[TI.size ti2]⟩
theorem acf:ki ya 178 [(0,1),(1,1),(2,2),(4,1)]:=⟨_,Tryz.underlying178,fun w=>by simp[TI.size KU,TI.size gr]⟩
theorem acg:ki ya 181 [(0,1),(1,1),(2,1)]:=⟨_,Tryz.underlying181,fun w=>by simp[TI.size ti2,TI.size K6]⟩
theorem ach:ki ya 221 [(0,1),(1,1)]:=⟨_,Tryz.underlying221,fun w=>by simp[TI.size ti2,TI.size SX]⟩
theorem Rx:ki ya 224 [(0,1),(1,1)]:=⟨_,wD,fun w=>by simp[TI.size ti2,TI.size gr]⟩
theorem aci:ki ya 228 [(0,1)]:=⟨_,Tryz.underlying228,fun w=>by simp[TI.size KV]⟩
theorem acj:ki ya 232 [(0,1),(1,1),(2,1),(3,1),(4,1),(5,1)]:=⟨_,Tryz.underlying232,fun w=>by simp[TI.size KW,TI.size FP,TI.size S0,TI.size gr]⟩
theorem ack:ki ya 235 [(0,1),(1,1),(2,1),(3,1)]:=⟨_,Tryz.underlying235,fun w=>by simp[TI.size ti2,TI.size gr,TI.size FV]⟩
theorem Ry:ki ya 261 [(0,1),(1,1),(2,1),(3,1)]:=⟨_,Tryz.underlying261,fun w=>by simp[TI.size FN,TI.size KT,TI.size KX,TI.size j8]⟩
theorem acm:ki ya 266 [(0,1),(1,6),(7,1),(8,1)]:=⟨_,Tryz.underlying266,fun w=>by simp[TI.size KS,TI.size S2,TI.size j8,TI.size wz]⟩
theorem acn:ki ya 269 [(0,1)]:=⟨_,Tryz.underlying269,fun w=>by simp[TI.size S4]⟩
theorem Rz:ki ya 275 [(0,1),(1,1),(2,1),(3,1),(4,1),(5,1)]:=⟨_,Tryz.underlying275,fun w=>by simp[TI.size FN,TI.size S6,TI.size gr]⟩
theorem RB:ki ya 298 [(0,1),(1,1)]:=⟨_,Tryz.underlying298,fun w=>by simp[TI.size FP,TI.size gr]⟩
theorem RC:ki ya 324 [(0,1),(1,1)]:=⟨_,Tryz.underlying324,fun w=>by simp[TI.size gr]⟩
theorem aco:ki ya 331 [(0,1),(1,1),(2,13)]:=⟨_,Tryz.underlying331,fun w=>by simp[TI.size Ta,TI.size j8,TI.size FV]⟩
theorem RD:ki ya 346 [(0,1),(1,1),(2,1),(3,1)]:=⟨_,Df,fun w=>by simp[TI.size FP,TI.size gr,TI.size KZ,TI.size K0]⟩
theorem acp:ki ya 349 [(0,1),(1,1),(2,1)]:=⟨_,Tryz.underlying349,fun w=>by simp[TI.size KV,TI.size gr,TI.size Td]⟩
theorem XG:gh ya 6:=enters_of Tryz.func6 k_ rfl
theorem XU:gh ya 8:=enters_of Tryz.func8 k_ rfl
theorem V7:gh ya 11:=enters_of Tryz.func11 k_ rfl
theorem Ob:gh ya 12:=enters_of Tryz.func12 k_ rfl
theorem We:gh ya 13:=enters_of Tryz.func13 k_ rfl
theorem Wm:gh ya 14:=enters_of Tryz.func14 k_ rfl
theorem Oi:gh ya 15:=enters_of Tryz.func15 k_ rfl
theorem Wx:gh ya 16:=enters_of Tryz.func16 k_ rfl
theorem WA:gh ya 17:=enters_of Tryz.func17 k_ rfl
theorem W3:gh ya 24:=enters_of Tryz.func24 k_ rfl
theorem OG:gh ya 25:=enters_of Tryz.func25 k_ rfl
theorem OH:gh ya 26:=enters_of Tryz.func26 k_ rfl
theorem Xh:gh ya 27:=enters_of Tryz.func27 k_ rfl
theorem OP:gh ya 28:=enters_of Tryz.func28 k_ rfl
theorem Ez:gh ya 29:=enters_of Tryz.func29 k_ rfl
theorem vG:gh ya 30:=enters_of Tryz.func30 k_ rfl
theorem Xs:gh ya 31:=enters_of Tryz.func31 k_ rfl
theorem Xt:gh ya 32:=enters_of Tryz.func32 k_ rfl
theorem Xu:gh ya 33:=enters_of Tryz.func33 k_ rfl
theorem Ci:gh ya 38:=enters_of Tryz.func38 k_ rfl
theorem Xv:gh ya 39:=enters_of Tryz.func39 k_ rfl
theorem OU:gh ya 40:=enters_of Tryz.func40 k_ rfl
theorem EA:gh ya 41:=enters_of Tryz.func41 k_ rfl
theorem Xw:gh ya 42:=enters_of Tryz.func42 k_ rfl
theorem OV:gh ya 43:=enters_of Tryz.func43 k_ rfl
theorem Ao:gh ya 44:=enters_of Tryz.func44 k_ rfl
theorem vH:gh ya 45:=enters_of Tryz.func45 k_ rfl
theorem Xx:gh ya 46:=enters_of Tryz.func46 k_ rfl
theorem Xy:gh ya 47:=enters_of Tryz.func47 k_ rfl
theorem Xz:gh ya 48:=enters_of Tryz.func48 k_ rfl
theorem OW:gh ya 49:=enters_of Tryz.func49 k_ rfl
theorem XA:gh ya 50:=enters_of Tryz.func50 k_ rfl
theorem XB:gh ya 51:=enters_of Tryz.func51 k_ rfl
theorem XC:gh ya 52:=enters_of Tryz.func52 k_ rfl
theorem XD:gh ya 53:=enters_of Tryz.func53 k_ rfl
theorem XE:gh ya 57:=enters_of Tryz.func57 k_ rfl
theorem XF:gh ya 59:=enters_of Tryz.func59 k_ rfl
theorem XH:gh ya 60:=enters_of Tryz.func60 k_ rfl
theorem XI:gh ya 61:=enters_of Tryz.func61 k_ rfl
theorem XJ:gh ya 62:=enters_of Tryz.func62 k_ rfl
theorem OX:gh ya 63:=enters_of Tryz.func63 k_ rfl
theorem XK:gh ya 64:=enters_of Tryz.func64 k_ rfl
theorem OY:gh ya 65:=enters_of Tryz.func65 k_ rfl
theorem OZ:gh ya 66:=enters_of Tryz.func66 k_ rfl
theorem XL:gh ya 67:=enters_of Tryz.func67 k_ rfl
theorem XM:gh ya 68:=enters_of Tryz.func68 k_ rfl
theorem Cj:gh ya 69:=enters_of Tryz.func69 k_ rfl
theorem XN:gh ya 70:=enters_of Tryz.func70 k_ rfl
theorem XO:gh ya 71:=enters_of Tryz.func71 k_ rfl
theorem O1:gh ya 72:=enters_of Tryz.func72 k_ rfl
theorem O2:gh ya 73:=enters_of Tryz.func73 k_ rfl
theorem O3:gh ya 74:=enters_of Tryz.func74 k_ rfl
theorem XP:gh ya 75:=enters_of Tryz.func75 k_ rfl
theorem XQ:gh ya 76:=enters_of Tryz.func76 k_ rfl
theorem XR:gh ya 77:=enters_of Tryz.func77 k_ rfl
theorem XS:gh ya 78:=enters_of Tryz.func78 k_ rfl
theorem XT:gh ya 79:=enters_of Tryz.func79 k_ rfl
theorem XV:gh ya 80:=enters_of Tryz.func80 k_ rfl
theorem XW:gh ya 81:=enters_of Tryz.func81 k_ rfl
theorem Aq:gh ya 82:=enters_of Tryz.func82 k_ rfl
theorem XX:gh ya 83:=enters_of Tryz.func83 k_ rfl
theorem XY:gh ya 84:=enters_of Tryz.func84 k_ rfl
theorem XZ:gh ya 85:=enters_of Tryz.func85 k_ rfl
theorem X0:gh ya 86:=enters_of Tryz.func86 k_ rfl
theorem X3:gh ya 87:=enters_of Tryz.func87 k_ rfl
theorem Iy:gh ya 88:=enters_of Tryz.func88 k_ rfl
theorem Iz:gh ya 89:=enters_of Tryz.func89 k_ rfl
theorem O4:gh ya 90:=enters_of Tryz.func90 k_ rfl
theorem X4:gh ya 91:=enters_of Tryz.func91 k_ rfl
theorem O5:gh ya 92:=enters_of Tryz.func92 k_ rfl
theorem X5:gh ya 93:=enters_of Tryz.func93 k_ rfl
theorem X6:gh ya 99:=enters_of Tryz.func99 k_ rfl
theorem H9:gh ya 100:=enters_of Tryz.func100 k_ rfl
theorem V3:gh ya 106:=enters_of Tryz.func106 k_ rfl
theorem V4:gh ya 107:=enters_of Tryz.func107 k_ rfl
theorem V5:gh ya 108:=enters_of Tryz.func108 k_ rfl
theorem V6:gh ya 109:=enters_of Tryz.func109 k_ rfl
theorem V8:gh ya 110:=enters_of Tryz.func110 k_ rfl
theorem Ia:gh ya 111:=enters_of Tryz.func111 k_ rfl
theorem Cd:gh ya 112:=enters_of Tryz.func112 k_ rfl
theorem V9:gh ya 113:=enters_of Tryz.func113 k_ rfl
theorem Ib:gh ya 114:=enters_of Tryz.func114 k_ rfl
theorem N9:gh ya 115:=enters_of Tryz.func115 k_ rfl
theorem Ic:gh ya 116:=enters_of Tryz.func116 k_ rfl
theorem Oa:gh ya 117:=enters_of Tryz.func117 k_ rfl
theorem Ie:gh ya 118:=enters_of Tryz.func118 k_ rfl
theorem Ig:gh ya 119:=enters_of Tryz.func119 k_ rfl
theorem Ih:gh ya 120:=enters_of Tryz.func120 k_ rfl
theorem Oc:gh ya 121:=enters_of Tryz.func121 k_ rfl
theorem Ii:gh ya 122:=enters_of Tryz.func122 k_ rfl
theorem Od:gh ya 123:=enters_of Tryz.func123 k_ rfl
theorem Wa:gh ya 124:=enters_of Tryz.func124 k_ rfl
theorem Wb:gh ya 125:=enters_of Tryz.func125 k_ rfl
theorem Wc:gh ya 126:=enters_of Tryz.func126 k_ rfl
theorem Oe:gh ya 127:=enters_of Tryz.func127 k_ rfl
theorem Es:gh ya 128:=enters_of Tryz.func128 k_ rfl
theorem Wd:gh ya 129:=enters_of Tryz.func129 k_ rfl
theorem Wf:gh ya 130:=enters_of Tryz.func130 k_ rfl
theorem Of:gh ya 131:=enters_of Tryz.func131 k_ rfl
theorem Ij:gh ya 132:=enters_of Tryz.func132 k_ rfl
theorem Wg:gh ya 133:=enters_of Tryz.func133 k_ rfl
theorem Wh:gh ya 134:=enters_of Tryz.func134 k_ rfl
theorem Og:gh ya 135:=enters_of Tryz.func135 k_ rfl
theorem Wi:gh ya 136:=enters_of Tryz.func136 k_ rfl
theorem Wj:gh ya 137:=enters_of Tryz.func137 k_ rfl
theorem Wk:gh ya 138:=enters_of Tryz.func138 k_ rfl
theorem Wl:gh ya 139:=enters_of Tryz.func139 k_ rfl
theorem Wn:gh ya 140:=enters_of Tryz.func140 k_ rfl
theorem Wo:gh ya 141:=enters_of Tryz.func141 k_ rfl
theorem Oh:gh ya 142:=enters_of Tryz.func142 k_ rfl
theorem Wp:gh ya 143:=enters_of Tryz.func143 k_ rfl
theorem vE:gh ya 144:=enters_of Tryz.func144 k_ rfl
theorem Ik:gh ya 145:=enters_of Tryz.func145 k_ rfl
theorem Wq:gh ya 146:=enters_of Tryz.func146 k_ rfl
theorem Il:gh ya 147:=enters_of Tryz.func147 k_ rfl
theorem Wr:gh ya 148:=enters_of Tryz.func148 k_ rfl
theorem Ws:gh ya 149:=enters_of Tryz.func149 k_ rfl
theorem Oj:gh ya 150:=enters_of Tryz.func150 k_ rfl
theorem Wt:gh ya 151:=enters_of Tryz.func151 k_ rfl
theorem Wu:gh ya 152:=enters_of Tryz.func152 k_ rfl
theorem vF:gh ya 153:=enters_of Tryz.func153 k_ rfl
theorem Ol:gh ya 154:=enters_of Tryz.func154 k_ rfl
theorem Wv:gh ya 156:=enters_of Tryz.func156 k_ rfl
theorem Ww:gh ya 157:=enters_of Tryz.func157 k_ rfl
theorem Wy:gh ya 163:=enters_of Tryz.func163 k_ rfl
theorem Wz:gh ya 167:=enters_of Tryz.func167 k_ rfl
theorem Om:gh ya 171:=enters_of Tryz.func171 k_ rfl
theorem WB:gh ya 172:=enters_of Tryz.func172 k_ rfl
theorem On:gh ya 173:=enters_of Tryz.func173 k_ rfl
theorem WD:gh ya 174:=enters_of Tryz.func174 k_ rfl
theorem Oo:gh ya 175:=enters_of Tryz.func175 k_ rfl
theorem WE:gh ya 176:=enters_of Tryz.func176 k_ rfl
theorem Ak:gh ya 177:=enters_of Tryz.func177 k_ rfl
theorem WG:gh ya 178:=enters_of Tryz.func178 k_ rfl
theorem Oq:gh ya 179:=enters_of Tryz.func179 k_ rfl
theorem Al:gh ya 180:=enters_of Tryz.func180 k_ rfl
theorem Ce:gh ya 181:=enters_of Tryz.func181 k_ rfl
theorem WH:gh ya 182:=enters_of Tryz.func182 k_ rfl
theorem WI:gh ya 183:=enters_of Tryz.func183 k_ rfl
theorem Et:gh ya 184:=enters_of Tryz.func184 k_ rfl
theorem Ot:gh ya 185:=enters_of Tryz.func185 k_ rfl
theorem WJ:gh ya 186:=enters_of Tryz.func186 k_ rfl
theorem WK:gh ya 187:=enters_of Tryz.func187 k_ rfl
theorem WM:gh ya 188:=enters_of Tryz.func188 k_ rfl
theorem WN:gh ya 189:=enters_of Tryz.func189 k_ rfl
theorem Ou:gh ya 190:=enters_of Tryz.func190 k_ rfl
theorem Eu:gh ya 191:=enters_of Tryz.func191 k_ rfl
theorem WO:gh ya 192:=enters_of Tryz.func192 k_ rfl
theorem WQ:gh ya 193:=enters_of Tryz.func193 k_ rfl
theorem Ov:gh ya 195:=enters_of Tryz.func195 k_ rfl
theorem Im:gh ya 196:=enters_of Tryz.func196 k_ rfl
theorem WR:gh ya 197:=enters_of Tryz.func197 k_ rfl
theorem Io:gh ya 198:=enters_of Tryz.func198 k_ rfl
theorem Ow:gh ya 199:=enters_of Tryz.func199 k_ rfl
theorem Ox:gh ya 200:=enters_of Tryz.func200 k_ rfl
theorem Oy:gh ya 201:=enters_of Tryz.func201 k_ rfl
theorem Ip:gh ya 202:=enters_of Tryz.func202 k_ rfl
theorem WT:gh ya 203:=enters_of Tryz.func203 k_ rfl
theorem WU:gh ya 204:=enters_of Tryz.func204 k_ rfl
theorem WV:gh ya 205:=enters_of Tryz.func205 k_ rfl
theorem Am:gh ya 206:=enters_of Tryz.func206 k_ rfl
theorem Oz:gh ya 207:=enters_of Tryz.func207 k_ rfl
theorem WX:gh ya 208:=enters_of Tryz.func208 k_ rfl
theorem WY:gh ya 209:=enters_of Tryz.func209 k_ rfl
theorem WZ:gh ya 210:=enters_of Tryz.func210 k_ rfl
theorem Iq:gh ya 224:=enters_of Tryz.func224 k_ rfl
theorem lM:gh ya 226:=enters_of Tryz.func226 k_ rfl
theorem Ir:gh ya 227:=enters_of Tryz.func227 k_ rfl
theorem xq:gh ya 228:=enters_of Tryz.func228 k_ rfl
theorem An:gh ya 229:=enters_of Tryz.func229 k_ rfl
theorem Is:gh ya 230:=enters_of Tryz.func230 k_ rfl
theorem Ev:gh ya 231:=enters_of Tryz.func231 k_ rfl
theorem OA:gh ya 232:=enters_of Tryz.func232 k_ rfl
theorem W0:gh ya 233:=enters_of Tryz.func233 k_ rfl
theorem It:gh ya 234:=enters_of Tryz.func234 k_ rfl
theorem W1:gh ya 235:=enters_of Tryz.func235 k_ rfl
theorem OB:gh ya 236:=enters_of Tryz.func236 k_ rfl
theorem W2:gh ya 237:=enters_of Tryz.func237 k_ rfl
theorem OC:gh ya 239:=enters_of Tryz.func239 k_ rfl
theorem OD:gh ya 240:=enters_of Tryz.func240 k_ rfl
theorem W4:gh ya 241:=enters_of Tryz.func241 k_ rfl
theorem W5:gh ya 242:=enters_of Tryz.func242 k_ rfl
theorem Iu:gh ya 243:=enters_of Tryz.func243 k_ rfl
theorem Iw:gh ya 244:=enters_of Tryz.func244 k_ rfl
theorem Ix:gh ya 245:=enters_of Tryz.func245 k_ rfl
theorem OE:gh ya 246:=enters_of Tryz.func246 k_ rfl
theorem W6:gh ya 247:=enters_of Tryz.func247 k_ rfl
theorem W7:gh ya 248:=enters_of Tryz.func248 k_ rfl
theorem W8:gh ya 249:=enters_of Tryz.func249 k_ rfl
theorem W9:gh ya 250:=enters_of Tryz.func250 k_ rfl
theorem Xa:gh ya 251:=enters_of Tryz.func251 k_ rfl
theorem Xb:gh ya 252:=enters_of Tryz.func252 k_ rfl
theorem Xc:gh ya 253:=enters_of Tryz.func253 k_ rfl
theorem Xd:gh ya 254:=enters_of Tryz.func254 k_ rfl
theorem Xe:gh ya 255:=enters_of Tryz.func255 k_ rfl
theorem Xf:gh ya 256:=enters_of Tryz.func256 k_ rfl
theorem Ew:gh ya 257:=enters_of Tryz.func257 k_ rfl
theorem Xg:gh ya 258:=enters_of Tryz.func258 k_ rfl
theorem OI:gh ya 266:=enters_of Tryz.func266 k_ rfl
theorem Ey:gh ya 271:=enters_of Tryz.func271 k_ rfl
theorem OJ:gh ya 272:=enters_of Tryz.func272 k_ rfl
theorem OK:gh ya 273:=enters_of Tryz.func273 k_ rfl
theorem OL:gh ya 274:=enters_of Tryz.func274 k_ rfl
theorem OM:gh ya 275:=enters_of Tryz.func275 k_ rfl
theorem ON:gh ya 276:=enters_of Tryz.func276 k_ rfl
theorem OO:gh ya 277:=enters_of Tryz.func277 k_ rfl
theorem Xi:gh ya 278:=enters_of Tryz.func278 k_ rfl
theorem Xj:gh ya 279:=enters_of Tryz.func279 k_ rfl
theorem OQ:gh ya 281:=enters_of Tryz.func281 k_ rfl
theorem OR:gh ya 282:=enters_of Tryz.func282 k_ rfl
theorem OS:gh ya 283:=enters_of Tryz.func283 k_ rfl
theorem Xk:gh ya 287:=enters_of Tryz.func287 k_ rfl
theorem mN:gh ya 289:=enters_of Tryz.func289 k_ rfl
theorem Xl:gh ya 290:=enters_of Tryz.func290 k_ rfl
theorem Xm:gh ya 291:=enters_of Tryz.func291 k_ rfl
theorem Cg:gh ya 292:=enters_of Tryz.func292 k_ rfl
theorem Ch:gh ya 293:=enters_of Tryz.func293 k_ rfl
theorem Xn:gh ya 294:=enters_of Tryz.func294 k_ rfl
theorem OT:gh ya 295:=enters_of Tryz.func295 k_ rfl
theorem Xo:gh ya 297:=enters_of Tryz.func297 k_ rfl
theorem Xp:gh ya 298:=enters_of Tryz.func298 k_ rfl
theorem Xq:gh ya 299:=enters_of Tryz.func299 k_ rfl
theorem lF:gh ya 300:=enters_of Tryz.func300 k_ rfl
theorem Xr:gh ya 301:=enters_of Tryz.func301 k_ rfl
theorem mixed:ya.follows .mixedOrders=true:=by kernel_rfl
instance tt:TT ya:=⟨mixed,[(2,_),(3,_),(4,_),(5,_),(6,_),(7,_),(8,_),(10,_),(11,_),(12,_),(13,_),(14,_),(15,_),(16,_),(17,_),(18,_),(19,_),(21,_),(22,_),(23,_),(24,_),(27,_),(28,_),(31,_),(32,_),(35,_),(38,_),(40,_),(41,_),(42,_),(48,_),(53,_),(56,_),(57,_),(58,_),(59,_),(68,_),(69,_),(73,_),(74,_),(75,_),(80,_),(81,_),(82,_),(83,_),(84,_),(85,_),(86,_),(87,_),(88,_),(89,_),(90,_),(91,_),(94,_),(95,_),(96,_),(99,_),(101,_),(102,_),(108,_),(109,_),(110,_),(111,_),(112,_),(113,_),(116,_),(119,_),(120,_),(127,_),(128,_),(132,_),(143,_),(148,_),(149,_),(153,_),(156,_),(161,_),(162,_),(163,_),(165,_),(166,_),(167,_),(168,_),(169,_),(172,_),(175,_),(176,_),(177,_),(178,_),(180,_),(181,_),(188,_),(190,_),(192,_),(193,_),(194,_),(196,_),(197,_),(198,_),(199,_),(202,_),(204,_),(210,_),(219,_),(220,_),(221,_),(223,_),(224,_),(226,_),(227,_),(228,_),(229,_),(230,_),(231,_),(232,_),(234,_),(235,_),(260,_),(261,_),(264,_),(265,_),(266,_),(267,_),(268,_),(269,_),(273,_),(274,_),(275,_),(278,_),(285,_),(287,_),(288,_),(289,_),(297,_),(298,_),(302,_),(304,_),(305,_),(318,_),(319,_),(322,_),(323,_),(324,_),(329,_),(330,_),(331,_),(338,_),(341,_),(343,_),(344,_),(345,_),(346,_),(347,_),(348,_),(349,_),(351,_),(352,_),(354,_),(361,_),(362,_),(363,_),(370,_),(378,_),(380,_),(403,_),(404,_),(407,_),(408,_),(409,_),(410,_),(411,_),(412,_),(413,_),(415,_),(416,_),(417,_),(418,_),(419,_)],[(2,_,_,_),(3,_,_,_),(4,_,_,_),(5,_,_,_),(6,_,_,_),(7,_,_,_),(8,_,_,_),(9,_,_,_),(10,_,_,_),(11,_,_,_),(12,_,_,_),(13,_,_,_),(14,_,_,_),(15,_,_,_),(16,_,_,_),(17,_,_,_),(18,_,_,_),(19,_,_,_),(21,_,_,_),(22,_,_,_),(23,_,_,_),(24,_,_,_),(27,_,_,_),(28,_,_,_),(31,_,_,_),(32,_,_,_),(35,_,_,_),(38,_,_,_),(40,_,_,_),(41,_,_,_),(42,_,_,_),(48,_,_,_),(53,_,_,_),(56,_,_,_),(57,_,_,_),(58,_,_,_),(59,_,_,_),(68,_,_,_),(69,_,_,_),(73,_,_,_),(74,_,_,_),(75,_,_,_),(80,_,_,_),(81,_,_,_),(82,_,_,_),(83,_,_,_),(84,_,_,_),(85,_,_,_),(86,_,_,_),(87,_,_,_),(88,_,_,_),(89,_,_,_),(90,_,_,_),(91,_,_,_),(94,_,_,_),(95,_,_,_),(96,_,_,_),(99,_,_,_),(101,_,_,_),(102,_,_,_),(108,_,_,_),(109,_,_,_),(110,_,_,_),(111,_,_,_),(112,_,_,_),(113,_,_,_),(116,_,_,_),(119,_,_,_),(120,_,_,_),(127,_,_,_),(128,_,_,_),(132,_,_,_),(143,_,_,_),(148,_,_,_),(149,_,_,_),(153,_,_,_),(156,_,_,_),(161,_,_,_),(162,_,_,_),(163,_,_,_),(165,_,_,_),(166,_,_,_),(167,_,_,_),(168,_,_,_),(169,_,_,_),(172,_,_,_),(175,_,_,_),(176,_,_,_),(177,_,_,_),(178,_,_,_),(180,_,_,_),(181,_,_,_),(188,_,_,_),(190,_,_,_),(192,_,_,_),(193,_,_,_),(194,_,_,_),(196,_,_,_),(197,_,_,_),(198,_,_,_),(199,_,_,_),(202,_,_,_),(204,_,_,_),(210,_,_,_),(219,_,_,_),(220,_,_,_),(221,_,_,_),(223,_,_,_),(224,_,_,_),(226,_,_,_),(227,_,_,_),(228,_,_,_),(229,_,_,_),(230,_,_,_),(231,_,_,_),(232,_,_,_),(234,_,_,_),(235,_,_,_),(247,_,_,_),(260,_,_,_),(261,_,_,_),(264,_,_,_),(265,_,_,_),(266,_,_,_),(267,_,_,_),(268,_,_,_),(269,_,_,_),(273,_,_,_),(274,_,_,_),(275,_,_,_),(278,_,_,_),(285,_,_,_),(287,_,_,_),(288,_,_,_),(289,_,_,_),(297,_,_,_),(298,_,_,_),(302,_,_,_),(304,_,_,_),(305,_,_,_),(318,_,_,_),(319,_,_,_),(322,_,_,_),(323,_,_,_),(324,_,_,_),(329,_,_,_),(330,_,_,_),(331,_,_,_),(338,_,_,_),(341,_,_,_),(343,_,_,_),(344,_,_,_),(345,_,_,_),(346,_,_,_),(347,_,_,_),(348,_,_,_),(349,_,_,_),(351,_,_,_),(352,_,_,_),(354,_,_,_),(357,_,_,_),(361,_,_,_),(362,_,_,_),(363,_,_,_),(370,_,_,_),(378,_,_,_),(380,_,_,_),(403,_,_,_),(404,_,_,_),(407,_,_,_),(408,_,_,_),(409,_,_,_),(410,_,_,_),(411,_,_,_),(412,_,_,_),(413,_,_,_),(414,_,_,_),(415,_,_,_),(416,_,_,_),(417,_,_,_),(418,_,_,_),(419,_,_,_)],⟨pN,ye,mT,Tryz.underlying5,Tryz.underlying6,Tryz.underlying7,Tryz.underlying8,Tryz.underlying10,Tryz.underlying11,Tryz.underlying12,Tryz.underlying13,Tryz.underlying14,Tryz.underlying15,Tryz.underlying16,Tryz.underlying17,Tryz.underlying18,Tryz.underlying19,Tryz.underlying21,Tryz.underlying22,Dh,Tryz.underlying24,nN,pM,Tryz.underlying31,Tryz.underlying32,yd,Gl,ym,Tryz.underlying41,Gm,yk,rQ,Tryz.underlying56,Bv,Tryz.underlying58,wF,Tryz.underlying68,Gn,Tryz.underlying73,Tryz.underlying74,Tryz.underlying75,Tryz.underlying80,F8,Tryz.underlying82,Tryz.underlying83,Tryz.underlying84,Tryz.underlying85,Tryz.underlying86,F9,Tryz.underlying88,Tryz.underlying89,Tryz.underlying90,Ga,Tryz.underlying94,Tryz.underlying95,Tryz.underlying96,Bw,Tryz.underlying101,Tryz.underlying102,Tryz.underlying108,Gh,Tryz.underlying110,Tryz.underlying111,Tryz.underlying112,Gi,Bo,y9,Tryz.underlying120,Tryz.underlying127,Tryz.underlying128,Tryz.underlying132,yq,Tryz.underlying148,Tryz.underlying149,Bp,Tryz.underlying156,yI,Tryz.underlying162,Tryz.underlying163,Tryz.underlying165,Tryz.underlying166,yy,Tryz.underlying168,Tryz.underlying169,Gj,Tryz.underlying175,Tryz.underlying176,Tryz.underlying177,Tryz.underlying178,Tryz.underlying180,Tryz.underlying181,Tryz.underlying188,Tryz.underlying190,Tryz.underlying192,Tryz.underlying193,Tryz.underlying194,Tryz.underlying196,Tryz.underlying197,Tryz.underlying198,Tryz.underlying199,Tryz.underlying202,Tryz.underlying204,yJ,Tryz.underlying219,Tryz.underlying220,Tryz.underlying221,Tryz.underlying223,wD,Tryz.underlying226,Tryz.underlying227,Tryz.underlying228,Gk,rP,Tryz.underlying231,Tryz.underlying232,Tryz.underlying234,Tryz.underlying235,Tryz.underlying260,Tryz.underlying261,yK,Tryz.underlying265,Tryz.underlying266,Bq,Tryz.underlying268,Tryz.underlying269,Bt,Tryz.underlying274,Tryz.underlying275,Tryz.underlying278,Tryz.underlying285,Tryz.underlying287,Tryz.underlying288,Tryz.underlying289,Tryz.underlying297,Tryz.underlying298,Tryz.underlying302,Tryz.underlying304,ow,Tryz.underlying318,Tryz.underlying319,De,Tryz.underlying323,Tryz.underlying324,qm,Tryz.underlying330,Tryz.underlying331,Tryz.underlying338,Tryz.underlying341,uU,nM,Tryz.underlying345,Df,yh,Tryz.underlying348,Tryz.underlying349,Tryz.underlying351,Tryz.underlying352,Tryz.underlying354,yL,Tryz.underlying362,Dg,Bu,Tryz.underlying378,Tryz.underlying380,Tryz.underlying403,Tryz.underlying404,Tryz.underlying407,Tryz.underlying408,Tryz.underlying409,Tryz.underlying410,Tryz.underlying411,Tryz.underlying412,Tryz.underlying413,Tryz.underlying415,Tryz.underlying416,Tryz.underlying417,Tryz.underlying418,Tryz.underlying419,trivial⟩,⟨ti2,gr,FV,ti5,ti6,ti7,ti8,ti9,aeO,aeQ,aeT,aeX,aeZ,ae1,ae4,ae7,afb,afe,afp,afq,SZ,afw,KX,S7,S9,yE,j8,afV,jA,af2,yG,K6,Te,agd,uP,age,nu,agf,C8,agh,agi,agj,agk,C9,agl,wz,Tf,Tg,agm,Da,agn,Th,ago,yH,agp,Ti,Tj,agq,aeP,uO,SJ,KP,KQ,SK,aeR,SM,aeS,tH,aeU,aeV,aeW,aeY,FM,ae0,KR,ae2,ae3,KS,ae5,SN,FN,KT,SO,ae6,SS,ae8,ae9,KU,afa,FO,afc,SU,afd,aff,afg,afh,afi,afj,afk,afl,afm,afn,afo,SV,SX,afr,SY,afs,pK,KV,aft,KW,FP,S0,afu,S1,afv,yD,C4,afx,FQ,S2,afy,S3,S4,afz,S5,S6,afA,FR,afB,afC,afD,afE,afF,afG,KY,afH,afI,S8,afJ,afK,C5,afL,yF,Ta,afM,Tc,afN,afO,KZ,K0,afP,FU,Td,afQ,K3,afR,jh,C6,K4,C7,afS,K5,afT,afU,afW,afX,afY,afZ,af0,af1,af3,af4,af5,af6,af7,af8,af9,aga,agb,agc,trivial⟩⟩
end
section
open Go Go.Sx
theorem QV(x:Int)(w:World) :
 CR ya 295 (Z8 x) w (fun r w' => r = .bool false/\gw [] w w'):=by
 refine en Tryz.func295 Tryz.ntmps295 ?_
 have a:=yu w
 refine iH a 14 ?_
 refine gq (v:=Zp) Tryz.results295 rfl ?_
 exact⟨rfl,a.gy s_⟩
theorem Vo(x y:Int)(w:World) :
 CR ya 282 (Zx x y) w (fun r w' => r = .int .i64 (ja x y)/\gw [] w w'):=by
 refine en Tryz.func282 Tryz.ntmps282 ?_
 have i:=yu w
 refine fR i 8 ?_
 refine cl OT (QV x w) ?_
 rintro _ c ⟨rfl,d⟩
 have b:=yo i d
 refine fK b 6 ?_
 refine cl OT (QV y c) ?_
 rintro _ f ⟨rfl,e⟩
 have a:=yo b e
 refine fK a 26 ?_
 by_cases g:(x:Int)<(y:Int)
 . refine fQ a 11 ?_
   refine gq (v:=Zw) Tryz.results282 rfl ?_
   exact⟨gp (by simp only[ja];(repeat' split)<;>omega),a.gy s_⟩
 . refine fK a 11 ?_
   by_cases h:(x:Int)>(y:Int)
   . refine fQ a 11 ?_
     refine gq (v:=pX) Tryz.results282 rfl ?_
     exact⟨gp (by simp only[ja];(repeat' split)<;>omega),a.gy s_⟩
   . refine fQ a 12 ?_
     refine gq (v:=Zc) Tryz.results282 rfl ?_
     exact⟨gp (by simp only[ja];(repeat' split)<;>omega),a.gy s_⟩
theorem JF(x:Int)(w:World) :
 CR ya 224 (Z8 x) w (fun r w' => r = .bool false/\gw [] w w'):=by
 refine en Tryz.func224 Tryz.ntmps224 ?_
 have a:=yu w
 refine iH a 14 ?_
 refine gq (v:=Zp) Tryz.results224 rfl ?_
 exact⟨rfl,a.gy s_⟩
theorem Vn(x y:Int)(w:World) :
 CR ya 283 (Zx x y) w (fun r w' => r = .int .i64 (ja x y)/\gw [] w w'):=by
 refine en Tryz.func283 Tryz.ntmps283 ?_
 have i:=yu w
 refine fR i 8 ?_
 refine cl Iq (JF x w) ?_
 rintro _ c ⟨rfl,d⟩
 have b:=yo i d
 refine fK b 6 ?_
 refine cl Iq (JF y c) ?_
 rintro _ f ⟨rfl,e⟩
 have a:=yo b e
 refine fK a 26 ?_
 by_cases g:(x:Int)<(y:Int)
 . refine fQ a 11 ?_
   refine gq (v:=Zw) Tryz.results283 rfl ?_
   exact⟨gp (by simp only[ja];(repeat' split)<;>omega),a.gy s_⟩
 . refine fK a 11 ?_
   by_cases h:(x:Int)>(y:Int)
   . refine fQ a 11 ?_
     refine gq (v:=pX) Tryz.results283 rfl ?_
     exact⟨gp (by simp only[ja];(repeat' split)<;>omega),a.gy s_⟩
   . refine fQ a 12 ?_
     refine gq (v:=Zc) Tryz.results283 rfl ?_
     exact⟨gp (by simp only[ja];(repeat' split)<;>omega),a.gy s_⟩
theorem abq(x:Int)(w:World) :
 CR ya 156 (wW x) w (fun r w' => r = .bool false/\gw [] w w'):=by
 refine en Tryz.func156 Tryz.ntmps156 ?_
 have a:=yu w
 refine iH a 14 ?_
 refine gq (v:=Zp) Tryz.results156 rfl ?_
 exact⟨rfl,a.gy s_⟩
theorem abR(v:Value)(xs:List Int)(w:World)(hv:Ints .i64 (fun _=>True) w v xs) :
 CR ya 281 #[v] w (fun r w' => r = .int .i64 (l7 xs)/\gw [] w w'):=by
 have u:=hv.len
 refine en Tryz.func281 Tryz.ntmps281 ?_
 have p:=yu w
 refine fR p 14 ?_
 refine jX (v:=v) rfl rfl yd hv (gE p 4 ?_)
 refine lp (α:=Nat) (fun k=>[(3,Zc),(6,v),(7,(Za xs.length)),(8,(Za k))]) (fun k w1=>St [(w,[])] [] w1/\k<=xs.length/\∀ j x,j<k->xs[j]? = some x->x=0) (fun k=>xs.length-k) 0 ⟨rfl,rfl,rfl,gp rO,trivial⟩ (⟨p,o_,fun j x h=>absurd h o_⟩) ?_
 rintro k c d ⟨o,t,s⟩
 refine fR o 2 ?_
 by_cases e:((k:Int):Int)<((xs.length:Int):Int)
 . obtain⟨x,q⟩:=oI (show k<xs.length by omega)
   refine fK o 11 ?_
   refine Cp (i:=(k:Int)) (el:=x) rfl rfl rfl yd gr (St.ET o s_ hv) o_ (by rw[show ((k:Nat):Int).toNat=k by omega];exact q) ?_
   intro f g a b l
   have m:=b.i64
   refine ld rfl rfl ye rfl a (fK o 7 ?_)
   by_cases n:(x:Int)=(0:Int)
   . refine fQ o 11 ?_
     refine tN (?_)
     exact again (k+1) ⟨rfl,rfl,rfl,gp rO,trivial⟩ (⟨o,o_,Re s q o_⟩) (by show (xs.length-(k+1):Nat)<xs.length-k;omega)
   . refine fQ o 16 ?_
     refine gq (v:=(Za x)) Gc rfl ?_
     exact⟨gp (Ra s q o_).symm,o.gy s_⟩
 . refine fQ o 17 ?_
   refine gq (v:=Zc) Gc rfl ?_
   exact⟨gp (Rb s o_).symm,o.gy s_⟩
theorem CN(a b:gF)(w:World) :
 CR ya 293 #[(M4 a),(M4 b)] w (fun r w' => r = .int .i64 (qd a b)/\gw [] w w'):=by
 refine en Tryz.func293 Tryz.ntmps293 ?_
 have F:=yu w
 refine fR F 2 ?_
 refine gW F (fun s t u x h=>?_)
 refine gW h (fun z A B C c=>?_)
 refine gE c 4 ?_
 refine kV mixed [([0,1,2,3,5,6,7,8,4],[6,8])] [9,10,11,12] c (fun j d=>jM ?_)
 refine fK d 8 ?_
 refine cl OR (Vo a.key b.key j) ?_
 rintro _ k ⟨rfl,l⟩
 have e:=yo d l
 refine fQ e 1 ?_
 refine kL (kW ?_)
 refine cl OS (Vn (a.ix:Int) (b.ix:Int) k) ?_
 rintro _ D ⟨rfl,m⟩
 have n:=yo e m
 refine jF (vs:=(Zo (ja a.key b.key) (ja (a.ix:Int) (b.ix:Int)))) (cs:=(Zo (ja a.key b.key) (ja (a.ix:Int) (b.ix:Int)))) rfl rfl yd gr rfl (by simp[Value.cells]) rfl rfl rfl n (fun o p E G f=>cl OQ (abR (uf o) [ja a.key b.key,ja (a.ix:Int) (b.ix:Int)] p (wG f (i:=0) rfl (fun y I=>by simp only[zb,oB,or_false]at I;rcases I with rfl|rfl<;>exact NS _ _)).any) ?_)
 rintro _ H ⟨rfl,q⟩
 have g:=yo f q
 refine fQ g 4 ?_
 refine gq (v:=(Za (l7 [ja a.key b.key,ja (a.ix:Int) (b.ix:Int)]))) Tryz.results293 rfl ?_
 exact⟨gp (Rg a b),g.gy s_⟩
end
section
open Go Go.Sx
theorem AE(hb n:Nat)(iv pv:Value)(ps:List (Option Nat))(fP:List gF)(pl:List Nat)(w:World)(d:Own (Zk hb n iv pv fP ps pl) w) :
 CR ya 229 (Zi hb) w (fun r w' => r = .bool true/\fZ (Zk hb n iv pv fP ps pl) w w' (Zk hb n iv pv fP ps pl)):=by
 refine en Tryz.func229 Tryz.ntmps229 ?_
 have b:=(yt d).unpack
 refine fR b 8 ?_
 refine mA (a:=some ⟨hb,0,none⟩) (c:=true) rfl rfl rfl Gk rfl (fK b 6 ?_)
 refine Cn (a:=⟨hb,0,none⟩) rfl rfl rfl Gk FU (fQ b 5 ?_)
 refine gq (v:=Zf) Tryz.results229 rfl ?_
 exact⟨rfl,yj (yc [_,_,_,_] _ b)⟩
theorem IQ(hb n:Nat)(iv pv:Value)(ps:List (Option Nat))(fP:List gF)(pl:List Nat)(w:World)(b:Own (Zk hb n iv pv fP ps pl) w)(i:Nat)(hi:i<n) :
 CR ya 243 (Zm hb i) w (fun r w' => r = .bool true/\fZ (Zk hb n iv pv fP ps pl) w w' (Zk hb n iv pv fP ps pl)):=by
 refine en Tryz.func243 Tryz.ntmps243 ?_
 have a:=(yt b).unpack
 refine fR a 8 ?_
 refine cmp rfl rfl rfl (nk o_) (fK a 6 ?_)
 refine cmp rfl rfl rfl (oF o_) (fQ a 5 ?_)
 refine gq (v:=Zf) Tryz.results243 rfl ?_
 exact⟨rfl,yj (yc [_,_,_,_] _ a)⟩
theorem IV(hb n:Nat)(iv pv:Value)(ps:List (Option Nat))(fP:List gF)(pl:List Nat)(w:World)(l:Own (Zk hb n iv pv fP ps pl) w)(j:jq n ps pl)(i:Nat)(hi:i<n) :
 CR ya 244 (Zm hb i) w (fun r w' => r = .int .i64 (((fJ pl i:Nat):Int)-1)/\fZ (Zk hb n iv pv fP ps pl) w w' (Zk hb n iv pv fP ps pl)):=by
 have m:=j.at hi
 have t:=j.room
 have s:=j.n
 have u:=j.val i
 refine en Tryz.func244 Tryz.ntmps244 ?_
 have h:=(yt l).unpack
 refine fR h 12 ?_
 refine quo (a:=(i:Int)) (b:=64) (e:=((i / 64:Nat):Int)) rfl rfl rfl d_ (v8 64 o_) (iD (cf:=ij) (k:=(i / 64)) (i:=((i / 64:Nat):Int)) rfl rfl rfl uU C7 (y0 h 2 rfl) o_ rfl (gB om) ?_)
 obtain⟨f,d⟩:∃ q,(fJ ps (i / 64))=q:=⟨_,rfl⟩
 refine fK h 8 ?_
 rcases f with _|g
 . skip
   refine uw (a:=(fJ ps (i / 64)).map fun b=>⟨b,0,none⟩) (c:=true) rfl rfl rfl yL (by rw[d];rfl) (fQ h 10 ?_)
   refine gq (v:=Zw) Tryz.results244 rfl ?_
   exact⟨gp (by rw[j.zero (i / 64) ((gB m).trans (congrArg some d)) i rfl];rfl),yj (yc [_,_,_,_] _ h)⟩
 . skip
   refine uw (a:=(fJ ps (i / 64)).map fun b=>⟨b,0,none⟩) (c:=false) rfl rfl rfl yL (by rw[d];rfl) (fK h 9 ?_)
   refine rem (a:=(i:Int)) (b:=64) (e:=((i%64:Nat):Int)) rfl rfl rfl d_ (CV 64) (rH rfl (AX d) (jx (o:=0) (o' := i%64*1+0) (i:=((i%64:Nat):Int)) rfl rfl rfl Dg gr o_ (by simp only[mc];omega) (ld rfl rfl ye rfl (Br h (i:=3) rfl f_ d_ (by have p:=j.room;first|omega|(simp only[jc,gC];omega)) ((gB o_).trans (congrArg some d)) rfl) (fQ h 5 ?_))))
   refine gq (v:=(Za ((((fJ pl i):Nat):Int)-1))) Tryz.results244 rfl ?_
   exact⟨gp o_,yj (yc [_,_,_,_] _ h)⟩
theorem ER(hb n:Nat)(iv pv:Value)(ps:List (Option Nat))(fP:List gF)(pl:List Nat)(w:World)(N:Own (Zk hb n iv pv fP ps pl) w)(F:jq n ps pl)(i:Nat)(hi:i<n)(v:Int)(p:Nat)(hv:v+1=(p:Int))(hp:p<=65536) :
 CR ya 231 (Zu hb i v) w (fun r w' => r = .tuple #[]/\∃ K,K.length=ps.length/\jq n K (jc pl i p)/\fZ (Zk hb n iv pv fP ps pl) w w' (Zk hb n iv pv fP K (jc pl i p))):=by
 have I:=F.at hi
 have Q:=F.room
 have P:=F.n
 have R:=F.val i
 refine en Tryz.func231 Tryz.ntmps231 ?_
 have G:=(yt N).unpack
 refine fR G 8 ?_
 refine quo (a:=(i:Int)) (b:=64) (e:=((i / 64:Nat):Int)) rfl rfl rfl d_ (v8 64 o_) ?_
 obtain⟨s,g⟩:∃ q,(fJ ps (i / 64))=q:=⟨_,rfl⟩
 refine fK G 2 ?_
 rcases s with _|t
 . skip
   refine uw (a:=(fJ ps (i / 64)).map fun b=>⟨b,0,none⟩) (c:=true) rfl rfl rfl yL (by rw[g];rfl) (fK G 9 ?_)
   refine quo (a:=(i:Int)) (b:=64) (e:=((i / 64:Nat):Int)) rfl rfl rfl d_ (v8 64 o_) (iM G (fun d z A B j=>?_))
   refine fK j 1 ?_
   refine iK (f:=(fun _=>(some d))) 3 j (fun C k=>?_)
   have u:=yg [0,4,1,2,3] k
   have L:ps[i / 64]? = some none:=(gB I).trans (congrArg some g)
   have x:=St.NH u L (F.UZ L)
   have h:=x
   have J:jq n (ps.set (i / 64) (some d)) pl:=F.made
   have H:(ps.set (i / 64) (some d))[i / 64]? = some (some d):=by rw[rS,if_pos rfl,if_pos I]
   have O:i / 64<(ps.set (i / 64) (some d)).length:=by rw[List.length_set];exact I
   refine fK k 8 ?_
   refine quo (a:=(i:Int)) (b:=64) (e:=((i / 64:Nat):Int)) rfl rfl rfl d_ (v8 64 o_) (fK h 3 ?_)
   refine rem (a:=(i:Int)) (b:=64) (e:=((i%64:Nat):Int)) rfl rfl rfl d_ (CV 64) (fK h 1 ?_)
   refine ar (e:=(p:Int)) rfl rfl rfl rfl (by rw[ot o_];exact hv) (rH rfl (AX (jf H)) (jx (o:=0) (o' := i%64*1+0) (i:=((i%64:Nat):Int)) rfl rfl rfl Dg gr o_ (by simp only[mc];omega) (qT (f:=(fun _=>p)) (L' := [gJ fV 363 64 (ps.set (i / 64) (some d)) (fN pl i (fun _=>p)),blk hb 346 (pg hb n iv pv),fL gF.cells iv 224 2 fP,fL ij pv 361 1 (ps.set (i / 64) (some d))]) 0 rfl rfl rfl rfl gr rfl rfl h rfl f_ d_ (by have M:=F.room;first|omega|(simp only[jc,gC];omega)) H rfl rfl rfl (fun D l=>fQ l 1 ?_))))
   refine iO Tryz.results231 ?_
   have y:=yg [1,2,3,0] l
   exact⟨rfl,ps.set (i / 64) (some d),s_,J.set hi o_ H,yj (yc [_,_,_,_] _ y)⟩
 . skip
   refine uw (a:=(fJ ps (i / 64)).map fun b=>⟨b,0,none⟩) (c:=false) rfl rfl rfl yL (by rw[g];rfl) ?_
   have J:=F
   have H:ps[i / 64]? = some (some t):=(gB I).trans (congrArg some g)
   have O:=I
   refine fK G 11 ?_
   refine quo (a:=(i:Int)) (b:=64) (e:=((i / 64:Nat):Int)) rfl rfl rfl d_ (v8 64 o_) (fK G 3 ?_)
   refine rem (a:=(i:Int)) (b:=64) (e:=((i%64:Nat):Int)) rfl rfl rfl d_ (CV 64) (fK G 1 ?_)
   refine ar (e:=(p:Int)) rfl rfl rfl rfl (by rw[ot o_];exact hv) (rH rfl (AX g) (jx (o:=0) (o' := i%64*1+0) (i:=((i%64:Nat):Int)) rfl rfl rfl Dg gr o_ (by simp only[mc];omega) (qT (f:=(fun _=>p)) (L' := (He hb n iv pv fP ps (fN pl i (fun _=>p)))) 3 rfl rfl rfl rfl gr rfl rfl G rfl f_ d_ (by have M:=F.room;first|omega|(simp only[jc,gC];omega)) H rfl rfl rfl (fun E m=>fQ m 1 ?_))))
   refine iO Tryz.results231 ?_
   exact⟨rfl,ps,s_,J.set hi o_ H,yj (yc [_,_,_,_] _ m)⟩
end
section
open Go Go.Sx
theorem IW(hb n:Nat)(iv pv:Value)(ps:List (Option Nat))(fP:List gF)(pl:List Nat)(w:World)(B:Own (Zk hb n iv pv fP ps pl) w)(z:Hp n fP pl)(y:jq n ps pl)(p q:Nat)(hp:p<fP.length)(F:q<fP.length) :
 CR ya 230 (Zu hb p q) w (fun r w' => r = .tuple #[]/\∃ x,x.length=ps.length/\jq n x (jc (jc pl (fJ (iF fP p q) p).ix (p+1)) (fJ (iF fP p q) q).ix (q+1))/\fZ (Zk hb n iv pv fP ps pl) w w' (Zk hb n iv pv (iF fP p q) x (jc (jc pl (fJ (iF fP p q) p).ix (p+1)) (fJ (iF fP p q) q).ix (q+1)))):=by
 have L:=y.n
 have K:=z.len
 have G:=mE fP p q
 have A:∀ j,j<fP.length->(fJ (iF fP p q) j).ix<n:=fun j E=>(z.swap hp F).ix j (by rw[G];exact E)
 refine en Tryz.func230 Tryz.ntmps230 ?_
 have H:=(yt B).unpack
 refine nI H 27 fun m h=>?_
 refine iK (f:=(fun _=>(fJ fP q))) 1 h (fun o a=>?_)
 refine fK a 1 ?_
 refine iK (f:=(fun _=>(fJ fP p))) 1 a (fun i b=>?_)
 have k:=b
 have c:=yc [_,_,_,_] _ k
 refine fK b 14 ?_
 refine cl Ev (ER hb n iv pv ps (iF fP p q) pl i (yf c 0 rfl) y ((fJ (iF fP p q) p).ix) (A _ (by assumption)) (p:Int) (p+1) o_ o_) ?_
 rintro _ l ⟨rfl,I,s,C,v⟩
 have d:=(yi c v)
 have e:=yc [_,_,_,_] _ d
 refine fK d 13 ?_
 refine cl Ev (ER hb n iv pv I (iF fP p q) (jc pl ((fJ (iF fP p q) p).ix) (p+1)) l (yf e 0 rfl) C ((fJ (iF fP p q) q).ix) (A _ (by assumption)) (q:Int) (q+1) o_ o_) ?_
 rintro _ t ⟨rfl,J,u,D,v⟩
 have g:=(yi e v)
 refine fQ g 1 ?_
 refine iO Tryz.results230 ?_
 exact⟨rfl,J,o_,D,yj (yc [_,_,_,_] _ g)⟩
theorem Px(hb n:Nat)(iv pv:Value)(ps:List (Option Nat))(fP:List gF)(pl:List Nat)(w:World)(m:Own (Zk hb n iv pv fP ps pl) w)(q:Hp n fP pl)(o:jq n ps pl)(p:Nat)(hp:p<fP.length) :
 CR ya 275 (Zm hb p) w (fun r w' => r = .int .i64 (rq fP p)/\fZ (Zk hb n iv pv fP ps pl) w w' (Zk hb n iv pv fP ps pl)):=by
 have t:=o.n
 have s:=q.len
 have u:pa p<fP.length:=by simp only[pa];omega
 refine en Tryz.func275 Tryz.ntmps275 ?_
 have l:=(yt m).unpack
 refine fR l 9 ?_
 refine quo (a:=(p:Int)-1) (b:=2) (e:=((pa p:Nat):Int)) rfl rfl rfl d_ (paN o_) (gI l 7 fun g c=>?_)
 by_cases h:((p:Int):Int)>(0:Int)
 . refine fK c 16 ?_
   refine cl Ch (CN (fJ fP p) (fJ fP (pa p)) g) ?_
   rintro _ j ⟨rfl,i⟩
   have d:=yo c i
   by_cases f:(qd (fJ fP p) (fJ fP (pa p)):Int)<(0:Int)
   . refine fQ d 13 ?_
     refine gq (v:=(Za ((pa p:Nat):Int))) Tryz.results275 rfl ?_
     exact⟨gp (by unfold rq;rw[if_pos (show 0<p/\iE (fJ fP p) (fJ fP (pa p)) from⟨o_,nF.1 f⟩)]),yj (yc [_,_,_,_] _ d)⟩
   . refine fQ d 13 ?_
     refine gq (v:=Zw) Tryz.results275 rfl ?_
     exact⟨gp (by unfold rq;rw[if_neg (show ¬ (0<p/\iE (fJ fP p) (fJ fP (pa p))) from fun k=>f (nF.2 k.2))]),yj (yc [_,_,_,_] _ d)⟩
 . refine fQ c 30 ?_
   refine gq (v:=Zw) Tryz.results275 rfl ?_
   exact⟨gp (by unfold rq;rw[if_neg (show ¬ (0<p/\iE (fJ fP p) (fJ fP (pa p))) from fun k=>h o_)]),yj (yc [_,_,_,_] _ c)⟩
theorem PA(hb n:Nat)(iv pv:Value)(ps:List (Option Nat))(fP:List gF)(pl:List Nat)(w:World)(Q:Own (Zk hb n iv pv fP ps pl) w)(S:Hp n fP pl)(R:jq n ps pl)(p:Nat)(hp:p<fP.length) :
 CR ya 276 (Zm hb p) w (fun r w' => r = .int .i64 (nC fP p)/\fZ (Zk hb n iv pv fP ps pl) w w' (Zk hb n iv pv fP ps pl)):=by
 have U:=R.n
 have T:=S.len
 refine en Tryz.func276 Tryz.ntmps276 ?_
 have P:=(yt Q).unpack
 refine qg P 18 ?_
 refine qi 3 (iz (fR P 20 ?_))
 refine ar (e:=((2*p:Nat):Int)) rfl rfl rfl rfl iT (ar (e:=((2*p+1:Nat):Int)) rfl rfl rfl rfl iT (fK P 1 ?_))
 refine ar (e:=((2*p+1:Nat):Int)) rfl rfl rfl rfl iT (gI P 10 fun s g=>?_)
 refine jb (m:=fP.length) 1 rfl rfl nM g rfl ?_
 by_cases k:(((2*p+1:Nat):Int):Int)<((fP.length:Int):Int)
 . refine fK g 16 ?_
   refine cl Ch (CN (fJ fP (2*p+1)) (fJ fP p) s) ?_
   rintro _ G ⟨rfl,t⟩
   have b:=yo g t
   by_cases h:(qd (fJ fP (2*p+1)) (fJ fP p):Int)<(0:Int)
   . refine fQ b 15 ?_
     refine tN (?_)
     refine iz (fR b 20 ?_)
     refine ar (e:=((2*p:Nat):Int)) rfl rfl rfl rfl iT (ar (e:=((2*p+1:Nat):Int)) rfl rfl rfl rfl iT (fK b 1 ?_))
     refine ar (e:=((2*p+2:Nat):Int)) rfl rfl rfl rfl iT (gI b 10 fun u c=>?_)
     refine jb (m:=fP.length) 1 rfl rfl nM c rfl ?_
     by_cases x:(((2*p+2:Nat):Int):Int)<((fP.length:Int):Int)
     . refine fK c 16 ?_
       refine cl Ch (CN (fJ fP (2*p+2)) (fJ fP (2*p+1)) u) ?_
       rintro _ H ⟨rfl,y⟩
       have a:=yo c y
       by_cases l:(qd (fJ fP (2*p+2)) (fJ fP (2*p+1)):Int)<(0:Int)
       . refine fQ a 15 ?_
         refine tN (?_)
         refine iz (fR a 17 ?_)
         by_cases I:(((2*p+2:Nat):Int):Int)=((p:Int):Int)
         . refine fQ a 11 ?_
           refine gq (v:=Zw) qn rfl ?_
           exact(show False by omega).elim
         . refine fQ a 13 ?_
           refine gq (v:=(Za ((2*p+2:Nat):Int))) qn rfl ?_
           exact⟨gp (by unfold nC jt;simp only;rw[if_pos (show 2*p+1<fP.length/\iE (fJ fP (2*p+1)) (fJ fP p) from⟨o_,nF.1 h⟩),if_pos (show 2*p+2<fP.length/\iE (fJ fP (2*p+2)) (fJ fP (2*p+1)) from⟨o_,nF.1 l⟩),if_neg o_]),yj (yc [_,_,_,_] _ a)⟩
       . refine fQ a 12 ?_
         refine tN (?_)
         refine iz (fR a 17 ?_)
         by_cases J:(((2*p+1:Nat):Int):Int)=((p:Int):Int)
         . refine fQ a 11 ?_
           refine gq (v:=Zw) qn rfl ?_
           exact(show False by omega).elim
         . refine fQ a 13 ?_
           refine gq (v:=(Za ((2*p+1:Nat):Int))) qn rfl ?_
           exact⟨gp (by unfold nC jt;simp only;rw[if_pos (show 2*p+1<fP.length/\iE (fJ fP (2*p+1)) (fJ fP p) from⟨o_,nF.1 h⟩),if_neg (show ¬ (2*p+2<fP.length/\iE (fJ fP (2*p+2)) (fJ fP (2*p+1))) from fun F=>l (nF.2 F.2)),if_neg o_]),yj (yc [_,_,_,_] _ a)⟩
     . refine fQ c 29 ?_
       refine tN (?_)
       refine iz (fR c 17 ?_)
       by_cases K:(((2*p+1:Nat):Int):Int)=((p:Int):Int)
       . refine fQ c 11 ?_
         refine gq (v:=Zw) qn rfl ?_
         exact(show False by omega).elim
       . refine fQ c 13 ?_
         refine gq (v:=(Za ((2*p+1:Nat):Int))) qn rfl ?_
         exact⟨gp (by unfold nC jt;simp only;rw[if_pos (show 2*p+1<fP.length/\iE (fJ fP (2*p+1)) (fJ fP p) from⟨o_,nF.1 h⟩),if_neg (show ¬ (2*p+2<fP.length/\iE (fJ fP (2*p+2)) (fJ fP (2*p+1))) from fun F=>x o_),if_neg o_]),yj (yc [_,_,_,_] _ c)⟩
   . refine fQ b 12 ?_
     refine tN (?_)
     refine iz (fR b 20 ?_)
     refine ar (e:=((2*p:Nat):Int)) rfl rfl rfl rfl iT (ar (e:=((2*p+1:Nat):Int)) rfl rfl rfl rfl iT (fK b 1 ?_))
     refine ar (e:=((2*p+2:Nat):Int)) rfl rfl rfl rfl iT (gI b 10 fun z i=>?_)
     refine jb (m:=fP.length) 1 rfl rfl nM i rfl ?_
     by_cases A:(((2*p+2:Nat):Int):Int)<((fP.length:Int):Int)
     . refine fK i 16 ?_
       refine cl Ch (CN (fJ fP (2*p+2)) (fJ fP p) z) ?_
       rintro _ L ⟨rfl,B⟩
       have d:=yo i B
       by_cases o:(qd (fJ fP (2*p+2)) (fJ fP p):Int)<(0:Int)
       . refine fQ d 15 ?_
         refine tN (?_)
         refine iz (fR d 17 ?_)
         by_cases M:(((2*p+2:Nat):Int):Int)=((p:Int):Int)
         . refine fQ d 11 ?_
           refine gq (v:=Zw) qn rfl ?_
           exact(show False by omega).elim
         . refine fQ d 13 ?_
           refine gq (v:=(Za ((2*p+2:Nat):Int))) qn rfl ?_
           exact⟨gp (by unfold nC jt;simp only;rw[if_neg (show ¬ (2*p+1<fP.length/\iE (fJ fP (2*p+1)) (fJ fP p)) from fun F=>h (nF.2 F.2)),if_pos (show 2*p+2<fP.length/\iE (fJ fP (2*p+2)) (fJ fP p) from⟨o_,nF.1 o⟩),if_neg o_]),yj (yc [_,_,_,_] _ d)⟩
       . refine fQ d 12 ?_
         refine tN (?_)
         refine iz (iH d 28 ?_)
         refine gq (v:=Zw) qn rfl ?_
         exact⟨gp (by unfold nC jt;simp only;rw[if_neg (show ¬ (2*p+1<fP.length/\iE (fJ fP (2*p+1)) (fJ fP p)) from fun F=>h (nF.2 F.2)),if_neg (show ¬ (2*p+2<fP.length/\iE (fJ fP (2*p+2)) (fJ fP p)) from fun F=>o (nF.2 F.2)),if_pos rfl]),yj (yc [_,_,_,_] _ d)⟩
     . refine fQ i 29 ?_
       refine tN (?_)
       refine iz (iH i 28 ?_)
       refine gq (v:=Zw) qn rfl ?_
       exact⟨gp (by unfold nC jt;simp only;rw[if_neg (show ¬ (2*p+1<fP.length/\iE (fJ fP (2*p+1)) (fJ fP p)) from fun F=>h (nF.2 F.2)),if_neg (show ¬ (2*p+2<fP.length/\iE (fJ fP (2*p+2)) (fJ fP p)) from fun F=>A o_),if_pos rfl]),yj (yc [_,_,_,_] _ i)⟩
 . refine fQ g 29 ?_
   refine tN (?_)
   refine iz (fR g 20 ?_)
   refine ar (e:=((2*p:Nat):Int)) rfl rfl rfl rfl iT (ar (e:=((2*p+1:Nat):Int)) rfl rfl rfl rfl iT (fK g 1 ?_))
   refine ar (e:=((2*p+2:Nat):Int)) rfl rfl rfl rfl iT (gI g 10 fun C j=>?_)
   refine jb (m:=fP.length) 1 rfl rfl nM j rfl ?_
   by_cases D:(((2*p+2:Nat):Int):Int)<((fP.length:Int):Int)
   . refine fK j 16 ?_
     refine cl Ch (CN (fJ fP (2*p+2)) (fJ fP p) C) ?_
     rintro _ N ⟨rfl,E⟩
     have f:=yo j E
     by_cases q:(qd (fJ fP (2*p+2)) (fJ fP p):Int)<(0:Int)
     . refine fQ f 15 ?_
       refine tN (?_)
       refine iz (fR f 17 ?_)
       by_cases O:(((2*p+2:Nat):Int):Int)=((p:Int):Int)
       . refine fQ f 11 ?_
         refine gq (v:=Zw) qn rfl ?_
         exact(show False by omega).elim
       . refine fQ f 13 ?_
         refine gq (v:=(Za ((2*p+2:Nat):Int))) qn rfl ?_
         exact⟨gp (by unfold nC jt;simp only;rw[if_neg (show ¬ (2*p+1<fP.length/\iE (fJ fP (2*p+1)) (fJ fP p)) from fun F=>k o_),if_pos (show 2*p+2<fP.length/\iE (fJ fP (2*p+2)) (fJ fP p) from⟨o_,nF.1 q⟩),if_neg o_]),yj (yc [_,_,_,_] _ f)⟩
     . refine fQ f 12 ?_
       refine tN (?_)
       refine iz (iH f 28 ?_)
       refine gq (v:=Zw) qn rfl ?_
       exact⟨gp (by unfold nC jt;simp only;rw[if_neg (show ¬ (2*p+1<fP.length/\iE (fJ fP (2*p+1)) (fJ fP p)) from fun F=>k o_),if_neg (show ¬ (2*p+2<fP.length/\iE (fJ fP (2*p+2)) (fJ fP p)) from fun F=>q (nF.2 F.2)),if_pos rfl]),yj (yc [_,_,_,_] _ f)⟩
   . refine fQ j 29 ?_
     refine tN (?_)
     refine iz (iH j 28 ?_)
     refine gq (v:=Zw) qn rfl ?_
     exact⟨gp (by unfold nC jt;simp only;rw[if_neg (show ¬ (2*p+1<fP.length/\iE (fJ fP (2*p+1)) (fJ fP p)) from fun F=>k o_),if_neg (show ¬ (2*p+2<fP.length/\iE (fJ fP (2*p+2)) (fJ fP p)) from fun F=>D o_),if_pos rfl]),yj (yc [_,_,_,_] _ j)⟩
end
end Go.Proofs.YtoceanggliccgaaGreatDoor
